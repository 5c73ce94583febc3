/- Awx -/
import Derived.Test.YthgkdhnlehneeaaGreatDoorText1
import Derived.Test.YthgkdhnlehneeaaGreatDoorAvQ
import Derived.Test.YthgkdhnlehneeaaGreatDoorAvVF
import Derived.Test.YthgkdhnlehneeaaGreatDoorAvDT
import Derived.Test.YthgkdhnlehneeaaGreatDoorTypes
set_option maxHeartbeats 8000000
set_option linter.unusedVariables false
set_option linter.unusedSimpArgs false
set_option maxRecDepth 100000
open List (all_eq_true mem_range)
namespace Go.Proofs.YthgkdhnlehneeaaGreatDoor
section
open Go.RowKit
variable {a b p q:Prop}
abbrev iv(n:Int):Value:= .int .i64 n
theorem awx(h:q)(e:q->p:=by first|exact λh=>aw1 h|exact λh=>aw2 h|exact λh=>aw3 h|exact λh=>aw4 h|exact λh=>aw5 h|exact λh=>aw6 h|exact λh=>aw7 h|exact λh=>aw8 h|exact λh=>bT h|exact λh=>bF h):p:=e h
abbrev pF(f:FuncId):List AD:=[.pv (.func (.func f) #[] #[])]
structure Bx (q:Prop):Prop where
 h:q
theorem awy(h:q)(e:Bx q->p:=by first|(intro h;(first|refine aw0 ?_|refine aw1 ?_|refine aw2 ?_|refine aw3 ?_|refine aw4 ?_|refine aw5 ?_|refine aw6 ?_|refine aw7 ?_|refine aw8 ?_|refine bT ?_|refine bF ?_);(conv=>whnf);exact h.h)|(refine λ_:Bx True=>?_;(first|refine aw0 ?_|refine aw1 ?_|refine aw2 ?_|refine aw3 ?_|refine aw4 ?_|refine aw5 ?_|refine aw6 ?_|refine aw7 ?_|refine aw8 ?_|refine bT ?_|refine bF ?_);exact rfl)):p:=e ⟨h⟩
theorem awz(h:q)(e:Bx q->p:=by first|(intro h;(first|refine aw0 ?_|refine aw1 ?_|refine aw2 ?_|refine aw3 ?_|refine aw4 ?_|refine aw5 ?_|refine aw6 ?_|refine aw7 ?_|refine aw8 ?_|refine bT ?_|refine bF ?_|refine And.intro rfl ?_);(conv=>whnf);exact h.h)|(refine λ_:Bx True=>?_;(first|refine aw0 ?_|refine aw1 ?_|refine aw2 ?_|refine aw3 ?_|refine aw4 ?_|refine aw5 ?_|refine aw6 ?_|refine aw7 ?_|refine aw8 ?_|refine bT ?_|refine bF ?_|refine And.intro rfl ?_);exact rfl)):p:=e ⟨h⟩
theorem rZ(h:p:=by first|exact rr|(show AP.val _=AP.val _;rfl)|(show AP.tup _=AP.tup _;rfl)):p:=h
theorem tW(h:a)(k:b)(e:a->b->p:=by intro a b;first|(refine aL.mk ?_ ?_;(conv=>whnf);exact a;(conv=>whnf);exact b)|exact AB.mk a b):p:=e h k
theorem tB(h:a)(k:b)(e:a->b->p:=by exact λa b=>AB.mk a b):p:=e h k
theorem sbW(h:p:=by repeat'(first|exact aaE|refine aaC rfl ?_|fail)):p:=h
end
open Go.Proofs.Tryz
open Go.ChangeShapes Go.WideShapes Go.RowKit
def m9(o:DOp):Bool:=
 if o.kind=1 then aJ o.a 0 9&&aJ o.b 0 999&&(o.c==0)&&(o.d==0)
 else if o.kind=2 then aJ o.a 0 9&&(o.b==0)&&(o.c==0)&&(o.d==0)
 else if o.kind=3 then aJ o.a 1 20&&aJ o.b 0 1000000&&aJ o.c 0 9&&aJ o.d 0 999
 else if o.kind=4 then aJ o.a 1 20&&aJ o.b 0 1000&&(o.c==0)&&(o.d==0)
 else if o.kind=5 then aJ o.a 1 1000&&(o.b==0)&&(o.c==0)&&(o.d==0)
 else false
def bL(e:aO):Bool:=aJ e.index 1 2000&&aJ e.time 0 1000000&&aJ e.client 2 5&&aJ e.seq 1 2000&&m9 e.op
def aO.ds(e:aO):List AD:=[dI e.index,dI e.time,dI e.client,dI e.seq,dI e.op.kind,dI e.op.a,dI e.op.b,dI e.op.c,dI e.op.d]
abbrev DOp.ds(o:DOp):List AD:=[dI o.kind,dI o.a,dI o.b,dI o.c,dI o.d]
def DOp.v(o:DOp):Value:= .agg #[.int .i64 o.kind,.int .i64 o.a,.int .i64 o.b,.int .i64 o.c,.int .i64 o.d]
def eL(x:dD):Bool:=if x.kind==4 then(x.op==⟨0,0,0,0,0⟩&&aJ x.key 0 9)else if x.kind==1||x.kind==2||x.kind==3 then(m9 x.op&&x.op.kind==x.kind&&x.key==0)else false
def dD.ds(e:dD):List AD:=[dI e.kind,dI e.op.kind,dI e.op.a,dI e.op.b,dI e.op.c,dI e.op.d,dI e.key]
theorem Tk(w:World)(d:Nat)(a b:Int):(Op.equalIn (d+1) 2 (.int .i64 a) (.int .i64 b)).run Tryz.prog w= .ok (a==b) w:=by
 have hi:=run_underlying (w:=w) underlying2;simp[Op.equalIn,hi]
theorem jR(w:World)(xs:Array Value)(i:Nat)(v:Value)(h:xs[i]? =some v):(part 2 xs i).run Tryz.prog w= .ok v w:=by
 simp[part,isAgg2,sizeOf2,h]
theorem ir{α β:Type}(f:α->β){l:List α}{k:Nat}(hk:k<l.length):(l.take (k+1)).map f=(l.take k).map f++[f l[k]]:=by
 rw[List.take_succ_eq_append_getElem hk,List.map_append];rfl
theorem ba(x lo hi:Int):aN av 65 [pI x,pI lo,pI hi] (rB (aJ x lo hi)):=by
 refine pO func65 call65 ntmps65 results65 λS=>?_;conv=>whnf
 repeat'(first|refine awz ?_|refine tB ?_ ?_|(intro h;conv=>whnf))
 all_goals first
  |(simp_all[aJ];done)
  |(simp_all[aJ];intros;omega)
theorem aQ(x lo hi:Int):aN av 78 [pI x,pI lo,pI hi] (rB (aJ x lo hi)):=by
 refine pO func78 call78 ntmps78 results78 λS=>?_;conv=>whnf
 repeat'(first|refine awz ?_|refine tB ?_ ?_|(intro h;conv=>whnf))
 all_goals first
  |(simp_all[aJ];done)
  |(simp_all[aJ];intros;omega)
theorem w6(x:Int):aN av 107 [pI x] (rB (aJ x 0 5)):=by
 refine pO func107 call107 ntmps107 results107 λS=>?_;conv=>whnf
 repeat'(first|refine awz ?_|(refine cP (ba _ _ _) ?_;conv=>whnf)|exact rr|fail)
theorem mA(x:Int):aN av 389 [pI x] (rB (aJ x 0 9)):=by
 refine pO func389 call389 ntmps389 results389 λS=>?_;conv=>whnf
 repeat'(first|refine awz ?_|(refine cP (ba _ _ _) ?_;conv=>whnf)|exact rr|fail)
theorem iY(x:Int):aN av 390 [pI x] (rB (aJ x 0 999)):=by
 refine pO func390 call390 ntmps390 results390 λS=>?_;conv=>whnf
 repeat'(first|refine awz ?_|(refine cP (ba _ _ _) ?_;conv=>whnf)|exact rr|fail)
theorem w3(x:Int):aN av 392 [pI x] (rB (aJ x 1 20)):=by
 refine pO func392 call392 ntmps392 results392 λS=>?_;conv=>whnf
 repeat'(first|refine awz ?_|(refine cP (ba _ _ _) ?_;conv=>whnf)|exact rr|fail)
theorem zU(x:Int):aN av 395 [pI x] (rB (aJ x 1 2000)):=by
 refine pO func395 call395 ntmps395 results395 λS=>?_;conv=>whnf
 repeat'(first|refine awz ?_|(refine cP (ba _ _ _) ?_;conv=>whnf)|exact rr|fail)
theorem rH(x:Int):aN av 396 [pI x] (rB (aJ x 1 2000)):=by
 refine pO func396 call396 ntmps396 results396 λS=>?_;conv=>whnf
 repeat'(first|refine awz ?_|(refine cP (ba _ _ _) ?_;conv=>whnf)|exact rr|fail)
theorem dM(x:Int):aN av 131 [pI x] (rB (aJ x 0 1000000)):=by
 refine pO func131 call131 ntmps131 results131 λS=>?_;conv=>whnf
 repeat'(first|refine awz ?_|(refine cP (ba _ _ _) ?_;conv=>whnf)|exact rr|fail)
theorem rC(x:Int):aN av 394 [pI x] (rB (aJ x 2 5)):=by
 refine pO func394 call394 ntmps394 results394 λS=>?_;conv=>whnf
 repeat'(first|refine awz ?_|(refine cP (ba _ _ _) ?_;conv=>whnf)|exact rr|fail)
theorem sA(x:Int):aN av 165 [pI x] (rB (aJ x 0 5)):=by
 refine pO func165 call165 ntmps165 results165 λS=>?_;conv=>whnf
 repeat'(first|refine awz ?_|(refine cP (aQ _ _ _) ?_;conv=>whnf)|exact rr|fail)
theorem iE(x:Int):aN av 160 [pI x] (rB (aJ x 0 5)):=by
 refine pO func160 call160 ntmps160 results160 λS=>?_;conv=>whnf
 repeat'(first|refine awz ?_|(refine cP (aQ _ _ _) ?_;conv=>whnf)|exact rr|fail)
theorem qG(x:Int):aN av 246 [pI x] (rB (aJ x 0 9)):=by
 refine pO func246 call246 ntmps246 results246 λS=>?_;conv=>whnf
 repeat'(first|refine awz ?_|(refine cP (aQ _ _ _) ?_;conv=>whnf)|exact rr|fail)
theorem l6(x:Int):aN av 248 [pI x] (rB (aJ x 0 999)):=by
 refine pO func248 call248 ntmps248 results248 λS=>?_;conv=>whnf
 repeat'(first|refine awz ?_|(refine cP (aQ _ _ _) ?_;conv=>whnf)|exact rr|fail)
theorem Dx(x:Int):aN av 339 [pI x] (rB (aJ x 1 20)):=by
 refine pO func339 call339 ntmps339 results339 λS=>?_;conv=>whnf
 repeat'(first|refine awz ?_|(refine cP (aQ _ _ _) ?_;conv=>whnf)|exact rr|fail)
theorem gI(x:Int):aN av 409 [pI x] (rB (aJ x 1 2000)):=by
 refine pO func409 call409 ntmps409 results409 λS=>?_;conv=>whnf
 repeat'(first|refine awz ?_|(refine cP (aQ _ _ _) ?_;conv=>whnf)|exact rr|fail)
theorem gQ(x:Int):aN av 410 [pI x] (rB (aJ x 1 2000)):=by
 refine pO func410 call410 ntmps410 results410 λS=>?_;conv=>whnf
 repeat'(first|refine awz ?_|(refine cP (aQ _ _ _) ?_;conv=>whnf)|exact rr|fail)
theorem db(x:Int):aN av 150 [pI x] (rB (aJ x 0 1000000)):=by
 refine pO func150 call150 ntmps150 results150 λS=>?_;conv=>whnf
 repeat'(first|refine awz ?_|(refine cP (aQ _ _ _) ?_;conv=>whnf)|exact rr|fail)
theorem fg(x:Int):aN av 408 [pI x] (rB (aJ x 2 5)):=by
 refine pO func408 call408 ntmps408 results408 λS=>?_;conv=>whnf
 repeat'(first|refine awz ?_|(refine cP (aQ _ _ _) ?_;conv=>whnf)|exact rr|fail)
theorem dR(x:Int):aN av 333 [pI x] (rB (aJ x 0 1000000)):=by
 refine pO func333 call333 ntmps333 results333 λS=>?_;conv=>whnf
 repeat'(first|refine awz ?_|(refine cP (aQ _ _ _) ?_;conv=>whnf)|exact rr|fail)
theorem wZ(o:DOp):aN av 290 [.agg o.ds] (rB (m9 o)):=by
 refine pO func290 call290 ntmps290 results290 λS=>?_;conv=>whnf
 repeat'((first|refine awz ?_|refine cP (mA _) ?_|refine cP (iY _) ?_|refine cP (w3 _) ?_|refine cP (dM _) ?_|refine cP (ba _ _ _) ?_|refine tB ?_ ?_|intro h)<;>conv=>whnf)
 all_goals simp_all[m9]
theorem iQ(o:DOp):aN av 245 [.agg o.ds] (rB (m9 o)):=by
 refine pO func245 call245 ntmps245 results245 λS=>?_;conv=>whnf
 repeat'((first|refine awz ?_|refine cP (qG _) ?_|refine cP (l6 _) ?_|refine cP (Dx _) ?_|refine cP (db _) ?_|refine cP (aQ _ _ _) ?_|refine tB ?_ ?_|intro h)<;>conv=>whnf)
 all_goals simp_all[m9]
theorem lU(e:aO):aN av 296 [.agg e.ds] (rB (bL e)):=by
 refine pO func296 call296 ntmps296 results296 λS=>?_;conv=>whnf
 repeat'((first|refine awz ?_|refine cP (rH _) ?_|refine cP (dM _) ?_|refine cP (rC _) ?_|refine cP (zU _) ?_|refine cP (wZ e.op) ?_|refine tB ?_ ?_|intro h)<;>conv=>whnf)
 all_goals simp[bL, *]
theorem bP(e:aO):aN av 340 [.agg e.ds] (rB (bL e)):=by
 refine pO func340 call340 ntmps340 results340 λS=>?_;conv=>whnf
 repeat'((first|refine awz ?_|refine cP (gQ _) ?_|refine cP (db _) ?_|refine cP (fg _) ?_|refine cP (gI _) ?_|refine cP (iQ e.op) ?_|refine tB ?_ ?_|intro h)<;>conv=>whnf)
 all_goals simp[bL, *]
abbrev eB(b:Bool):List AD:=[dB b]
abbrev dO(l:List Int):List AD:=[dIs l]
structure cz where
 at_:Int
 row:(List Int)
 deriving DecidableEq
def cz.ds(x:cz):List AD:=[dI x.at_,.sl (x.row.map eI)]
def abg(n:Nat)(x:cz):Prop:=x.row.length<=n
structure bD where
 kept:(List (List Int))
 wait:(List cz)
 deriving DecidableEq
def bD.ds(x:bD):List AD:=[.sl (x.kept.map dO),.sl (x.wait.map cz.ds)]
def aaY(n:Nat)(x:bD):Prop:=x.kept.length<=n/\(∀y∈x.kept,y.length<=n)/\x.wait.length<=n/\(∀y∈x.wait,abg n y)
structure di where
 a:bD
 b:bD
 deriving DecidableEq
def di.ds(x:di):List AD:=[.sl (x.a.kept.map dO),.sl (x.a.wait.map cz.ds),.sl (x.b.kept.map dO),.sl (x.b.wait.map cz.ds)]
def aa7(n:Nat)(x:di):Prop:=aaY n x.a/\aaY n x.b
structure aT where
 client:Int
 seq:Int
 index:Int
 deriving DecidableEq
def aT.ds(x:aT):List AD:=[dI x.client,dI x.seq,dI x.index]
structure bH where
 num:Int
 base:Int
 time:Int
 seen:(List aT)
 deriving DecidableEq
def bH.ds(x:bH):List AD:=[dI x.num,dI x.base,dI x.time,.sl (x.seen.map aT.ds)]
def aaV(n:Nat)(x:bH):Prop:=x.seen.length<=n
structure bn where
 base:Int
 time:Int
 entries:(List aO)
 deriving DecidableEq
def bn.ds(x:bn):List AD:=[dI x.base,dI x.time,.sl (x.entries.map aO.ds)]
def aa9(n:Nat)(x:bn):Prop:=x.entries.length<=n
structure fE where
 client:Int
 seq:Int
 index:Int
 last:Int
 deriving DecidableEq
def fE.ds(x:fE):List AD:=[dI x.client,dI x.seq,dI x.index,dI x.last]
structure aS where
 two:di
 head:bH
 nxt:bH
 more:Bool
 book:bn
 seen:(List aT)
 durable:Int
 owe:(List fE)
 deriving DecidableEq
def aS.ds(x:aS):List AD:=[.sl (x.two.a.kept.map dO),.sl (x.two.a.wait.map cz.ds),.sl (x.two.b.kept.map dO),.sl (x.two.b.wait.map cz.ds),dI x.head.num,dI x.head.base,dI x.head.time,.sl (x.head.seen.map aT.ds),dI x.nxt.num,dI x.nxt.base,dI x.nxt.time,.sl (x.nxt.seen.map aT.ds),dB x.more,dI x.book.base,dI x.book.time,.sl (x.book.entries.map aO.ds),.sl (x.seen.map aT.ds),dI x.durable,.sl (x.owe.map fE.ds)]
def aa0(n:Nat)(x:aS):Prop:=aa7 n x.two/\aaV n x.head/\aaV n x.nxt/\aa9 n x.book/\x.seen.length<=n/\x.owe.length<=n
structure br where
 key:Int
 value:Int
 deriving DecidableEq
def br.ds(x:br):List AD:=[dI x.key,dI x.value]
structure bo where
 id:Int
 due:Int
 key:Int
 value:Int
 fired:Int
 deriving DecidableEq
def bo.ds(x:bo):List AD:=[dI x.id,dI x.due,dI x.key,dI x.value,dI x.fired]
structure ge where
 holder:Int
 epoch:Int
 til:Int
 deriving DecidableEq
def ge.ds(x:ge):List AD:=[dI x.holder,dI x.epoch,dI x.til]
structure bf where
 index:Int
 time:Int
 pairs:(List br)
 jobs:(List bo)
 lease:ge
 deriving DecidableEq
def bf.ds(x:bf):List AD:=[dI x.index,dI x.time,.sl (x.pairs.map br.ds),.sl (x.jobs.map bo.ds),dI x.lease.holder,dI x.lease.epoch,dI x.lease.til]
def aa2(n:Nat)(x:bf):Prop:=x.pairs.length<=n/\x.jobs.length<=n
structure bK where
 disk:bD
 state:bf
 num:Int
 last:Int
 busy:Int
 deriving DecidableEq
def bK.ds(x:bK):List AD:=[.sl (x.disk.kept.map dO),.sl (x.disk.wait.map cz.ds),dI x.state.index,dI x.state.time,.sl (x.state.pairs.map br.ds),.sl (x.state.jobs.map bo.ds),dI x.state.lease.holder,dI x.state.lease.epoch,dI x.state.lease.til,dI x.num,dI x.last,dI x.busy]
def aa6(n:Nat)(x:bK):Prop:=aaY n x.disk/\aa2 n x.state
structure eG where
 id:Int
 due:Int
 deriving DecidableEq
def eG.ds(x:eG):List AD:=[dI x.id,dI x.due]
structure jr where
 index:Int
 time:Int
 holder:Int
 epoch:Int
 til:Int
 opens:(List eG)
 deriving DecidableEq
def jr.ds(x:jr):List AD:=[dI x.index,dI x.time,dI x.holder,dI x.epoch,dI x.til,.sl (x.opens.map eG.ds)]
def aba(n:Nat)(x:jr):Prop:=x.opens.length<=n
structure iK where
 jobs:jr
 deriving DecidableEq
def iK.ds(x:iK):List AD:=[dI x.jobs.index,dI x.jobs.time,dI x.jobs.holder,dI x.jobs.epoch,dI x.jobs.til,.sl (x.jobs.opens.map eG.ds)]
def abb(n:Nat)(x:iK):Prop:=aba n x.jobs
structure cr where
 id:Int
 seq:Int
 view:iK
 busy:Bool
 op:DOp
 index:Int
 deriving DecidableEq
def cr.ds(x:cr):List AD:=[dI x.id,dI x.seq,dI x.view.jobs.index,dI x.view.jobs.time,dI x.view.jobs.holder,dI x.view.jobs.epoch,dI x.view.jobs.til,.sl (x.view.jobs.opens.map eG.ds),dB x.busy,dI x.op.kind,dI x.op.a,dI x.op.b,dI x.op.c,dI x.op.d,dI x.index]
def aaX(n:Nat)(x:cr):Prop:=abb n x.view
structure pz where
 seq:Int
 index:Int
 has:Int
 value:Int
 deriving DecidableEq
def pz.ds(x:pz):List AD:=[dI x.seq,dI x.index,dI x.has,dI x.value]
structure bp where
 id:Int
 todo:(List dD)
 gots:(List pz)
 last:Int
 deriving DecidableEq
def bp.ds(x:bp):List AD:=[dI x.id,.sl (x.todo.map dD.ds),.sl (x.gots.map pz.ds),dI x.last]
def aaR(n:Nat)(x:bp):Prop:=x.todo.length<=n/\x.gots.length<=n
def cX.ds(x:cX):List AD:=[dI x.frm,dI x.to_,.sl (x.row.map eI)]
def abr(n:Nat)(x:cX):Prop:=x.row.length<=n
def dJ.ds(x:dJ):List AD:=[dI x.a,dI x.b]
def ee.ds(x:ee):List AD:=[.sl (x.flight.map cX.ds),.sl (x.cuts.map dJ.ds)]
def aa5(n:Nat)(x:ee):Prop:=x.flight.length<=n/\(∀y∈x.flight,abr n y)/\x.cuts.length<=n
structure aP where
 log:aS
 store:bK
 left:cr
 right:cr
 ann:bp
 bob:bp
 net:ee
 clocks:(List Int)
 up:(List Bool)
 deriving DecidableEq
def aP.ds(x:aP):List AD:=[.sl (x.log.two.a.kept.map dO),.sl (x.log.two.a.wait.map cz.ds),.sl (x.log.two.b.kept.map dO),.sl (x.log.two.b.wait.map cz.ds),dI x.log.head.num,dI x.log.head.base,dI x.log.head.time,.sl (x.log.head.seen.map aT.ds),dI x.log.nxt.num,dI x.log.nxt.base,dI x.log.nxt.time,.sl (x.log.nxt.seen.map aT.ds),dB x.log.more,dI x.log.book.base,dI x.log.book.time,.sl (x.log.book.entries.map aO.ds),.sl (x.log.seen.map aT.ds),dI x.log.durable,.sl (x.log.owe.map fE.ds),.sl (x.store.disk.kept.map dO),.sl (x.store.disk.wait.map cz.ds),dI x.store.state.index,dI x.store.state.time,.sl (x.store.state.pairs.map br.ds),.sl (x.store.state.jobs.map bo.ds),dI x.store.state.lease.holder,dI x.store.state.lease.epoch,dI x.store.state.lease.til,dI x.store.num,dI x.store.last,dI x.store.busy,dI x.left.id,dI x.left.seq,dI x.left.view.jobs.index,dI x.left.view.jobs.time,dI x.left.view.jobs.holder,dI x.left.view.jobs.epoch,dI x.left.view.jobs.til,.sl (x.left.view.jobs.opens.map eG.ds),dB x.left.busy,dI x.left.op.kind,dI x.left.op.a,dI x.left.op.b,dI x.left.op.c,dI x.left.op.d,dI x.left.index,dI x.right.id,dI x.right.seq,dI x.right.view.jobs.index,dI x.right.view.jobs.time,dI x.right.view.jobs.holder,dI x.right.view.jobs.epoch,dI x.right.view.jobs.til,.sl (x.right.view.jobs.opens.map eG.ds),dB x.right.busy,dI x.right.op.kind,dI x.right.op.a,dI x.right.op.b,dI x.right.op.c,dI x.right.op.d,dI x.right.index,dI x.ann.id,.sl (x.ann.todo.map dD.ds),.sl (x.ann.gots.map pz.ds),dI x.ann.last,dI x.bob.id,.sl (x.bob.todo.map dD.ds),.sl (x.bob.gots.map pz.ds),dI x.bob.last,.sl (x.net.flight.map cX.ds),.sl (x.net.cuts.map dJ.ds),.sl (x.clocks.map eI),.sl (x.up.map eB)]
def aaN(n:Nat)(x:aP):Prop:=aa0 n x.log/\aa6 n x.store/\aaX n x.left/\aaX n x.right/\aaR n x.ann/\aaR n x.bob/\aa5 n x.net/\x.clocks.length<=n/\x.up.length<=n
section
section
variable {α:Type}
def UO(n:Nat)(ok:Nat->Bool):Bool:=(List.range n).all ok
theorem UP{n k:Nat}{ok:Nat->Bool}(hk:k<n)(h:ok k=false):UO n ok=false:=by
 rw[<-Bool.not_eq_true];intro hall;have:=all_eq_true.1 hall k (mem_range.2 hk);rw[h]at this;cases this
theorem K8{n:Nat}{ok:Nat->Bool}(h:∀k,k<n->ok k=true):UO n ok=true:=
 all_eq_true.2 λk hk=>h k (mem_range.1 hk)
theorem K7{n:Nat}{ok:Nat->Bool}(h:UO n ok=true){k:Nat}(hk:k<n):ok k=true:=all_eq_true.1 h k (mem_range.2 hk)
theorem q8{l:List α}{p:α->Bool}{k:Nat}(hk:k<l.length)(h:p l[k]=false):l.all p=false:=by
 rw[<-Bool.not_eq_true];intro hall;have:=all_eq_true.1 hall _ (List.getElem_mem hk);rw[h]at this;cases this
theorem JB{l:List α}{p:α->Bool}(h:∀(k:Nat) (hk:k<l.length),p l[k]=true):l.all p=true:=by
 refine all_eq_true.2 λx hx=>?_;obtain⟨k,hk,rfl⟩:=List.getElem_of_mem hx;exact h k hk
theorem wL{l:List α}{p:α->Bool}(h:l.all p=true){k:Nat}(hk:k<l.length):p l[k]=true:=all_eq_true.1 h _ (List.getElem_mem hk)
def hE(Q:α->α->Bool):List α->Bool
 |x::y::r=>Q x y&&hE Q (y::r)
 |_=>true
theorem jK{Q:α->α->Bool}:∀{l:List α},hE Q l=true->∀{k:Nat} (hk:k+1<l.length),Q (l[k]'(ac)) l[k+1]=true
 |x::y::r,h,k,hk=>by
  simp only[hE,Bool.and_eq_true]at h;cases k with
  |zero=>exact h.1
  |succ k=>exact jK (l:=y::r) h.2 (k:=k) (by simpa using hk)
 |[],_,k,hk=>by simp at hk
 |[x],_,k,hk=>by simp at hk
theorem Et{Q:α->α->Bool}:∀{l:List α},(∀(k:Nat) (hk:k+1<l.length),Q (l[k]'(ac)) l[k+1]=true)->hE Q l=true
 |x::y::r,h=>by
  simp only[hE,Bool.and_eq_true];refine⟨h 0 ah,Et (l:=y::r) λk hk=>?_⟩;have:=h (k+1) (by simpa using hk);simpa using this
 |[],_=>rfl
 |[x],_=>rfl
theorem UM{Q:α->α->Bool}{l:List α}{k:Nat}(hk:k+1<l.length)(h:Q (l[k]'(ac)) l[k+1]=false):hE Q l=false:=by
 rw[<-Bool.not_eq_true];intro hall;rw[jK hall hk]at h;cases h
def fH(R:α->α->Bool):List α->Bool
 |[]=>true
 |x::r=>r.all (λy=> !R x y)&&fH R r
theorem q9{R:α->α->Bool}:∀{l:List α},fH R l=true->∀{j k:Nat} (hj:j<k) (hk:k<l.length),R (l[j]'(ac)) l[k]=false
 |x::r,h,j,k,hj,hk=>by
  simp only[fH,Bool.and_eq_true]at h;match j,k,hj with
  |0,k+1,_=>
   have:=wL h.1 (k:=k) (by simpa using hk);simpa using this
  |j+1,k+1,hj=>exact q9 (l:=r) h.2 (j:=j) (k:=k) ac (by simpa using hk)
 |[],_,j,k,_,hk=>by simp at hk
theorem mY{R:α->α->Bool}:∀{l:List α},(∀(j k:Nat) (hj:j<k) (hk:k<l.length),R (l[j]'(ac)) l[k]=false)->fH R l=true
 |[],_=>rfl
 |x::r,h=>by
  simp only[fH,Bool.and_eq_true];refine⟨JB λk hk=>?_,mY λj k hj hk=>?_⟩
  ·have:=h 0 (k+1) ac (by simpa using hk);simpa using this
  ·have:=h (j+1) (k+1) ac (by simpa using hk);simpa using this
theorem uM{R:α->α->Bool}{l:List α}{j k:Nat}(hj:j<k)(hk:k<l.length)(h:R (l[j]'(ac)) l[k]=true):fH R l=false:=by
 rw[<-Bool.not_eq_true];intro hall;rw[q9 hall hj hk]at h;cases h
end
def tOk(t:Int):Bool:=aJ t 0 1000000
def bQ(l:List Int):Bool:=decide (l.length<=48)&&l.all λx=>aJ x 0 1000000000
def gq(n:Nat)(x:cz):Bool:=aJ x.at_ 0 ((n:Int)-1)&&bQ x.row
def cG(d:bD):Bool:=decide (1<=d.kept.length)&&decide (d.kept.length<=40)&&decide (d.wait.length<=60)&&d.kept.all bQ&&d.wait.all (gq d.kept.length)
def fW(t:di):Bool:=cG t.a&&cG t.b&&decide (t.a.kept.length=t.b.kept.length)
def fR(a b:Int):Bool:=aJ a 0 5&&aJ b 0 5&&a !=b
def iO(m:cX):Bool:=fR m.frm m.to_&&decide (0<m.row.length)&&bQ m.row
def dn(x y:dJ):Bool:=decide (x.a<y.a)||(x.a==y.a&&decide (x.b<y.b))
def dH(x:dJ):Bool:=fR x.a x.b&&decide (x.a<=x.b)
def dT(n:ee):Bool:=decide (n.flight.length<=60)&&decide (n.cuts.length<=15)&&n.flight.all iO&&n.cuts.all dH&&hE dn n.cuts
def cY(l:List Int):Bool:=decide (l.length=6)&&l.all tOk
def lK(x y:aO):Bool:=y.index==x.index+1&&decide (x.time<=y.time)
def dK(l:List aO):Bool:=decide (l.length<=2000)&&l.all bL&&hE lK l
def bN(b:bn):Bool:=aJ b.base 0 2000&&tOk b.time&& !(b.base==0&&b.time !=0)&&decide (b.entries.length<=20)&&dK b.entries&&(match b.entries with|[]=>true|e::_=>e.index==b.base+1&&decide (b.time<=e.time))
def fq(m:aT):Bool:=aJ m.client 2 5&&aJ m.seq 1 2000&&aJ m.index 1 2000
def j8(x y:aT):Bool:=decide (x.client<y.client)
def rM(x y:aT):Bool:=x.index==y.index
def seenOk(s:List aT):Bool:=s.all fq&&hE j8 s&&fH rM s
def bI(s:List aT)(c:Int):aT:=(s.find? λm=>m.client==c).getD ⟨0,0,0⟩
def bR:List aT->Int:=List.foldl (λx m=>if m.index>x then m.index else x) 0
def k9(s:List aT)(e:aO):Bool:=decide ((bI s e.client).seq<e.seq)
def aO.mark(e:aO):aT:=⟨e.client,e.seq,e.index⟩
def putMark(s:List aT)(m:aT):List aT:=s.filter (λx=>decide (x.client<m.client))++m::s.filter (λx=>decide (m.client<x.client))
def dt(s:List aT)(e:aO):Option (List aT):=if bL e&&k9 s e&&decide (bR s<e.index)then some (putMark s e.mark)else none
def bU:List aT->List aO->Option (List aT)
 |s,[]=>some s
 |s,e::r=>match dt s e with
  |some s'=>bU s' r
  |none=>none
def bG(s:List aT)(l:List aO):List aT×Bool:=
 if !seenOk s then([],false)else if 2000<l.length then(s,false)else match bU s l with|some o=>(o,true)|none=>(s,false)
def dm(h:bH):Bool:=aJ h.base 0 2000&&aJ h.num 0 h.base&&tOk h.time&&(decide (0<h.base)||h.time==0)&&seenOk h.seen&&bR h.seen==h.base
def eC(t:di):Bool:=fW t&&decide (t.a.kept.length=22)
def bg(b:bn):Int:=b.base+b.entries.length
def fw:bH:=⟨0,0,0,[]⟩
def cU(e:aO):fE:=if bL e then⟨e.client,e.seq,e.index,e.seq⟩else⟨0,0,0,0⟩
def dP(b:bn)(d:Int):List aO:=b.entries.filter λe=>decide (d+1<=e.index)
def mr(b:bn)(i:Int):List aO:=b.entries.take (i-b.base).toNat
def fV(n:aS):bH:=⟨n.head.num+1,n.nxt.base,(n.book.entries.getD (n.nxt.base-n.book.base-1).toNat ⟨0,0,0,0,⟨0,0,0,0,0⟩⟩).time,(bG n.head.seen (mr n.book n.nxt.base)).1⟩
def fY(n:aS):Bool:=if n.more then aJ n.nxt.base (n.head.base+1) n.durable&&n.nxt==fV n else n.nxt==fw
def logOk(n:aS):Bool:=eC n.two&&dm n.head&&bN n.book&&n.book.base==n.head.base&&n.book.time==n.head.time&&bG n.head.seen n.book.entries==(n.seen,true)&&aJ n.durable n.book.base (bg n.book)&&n.owe==(dP n.book n.durable).map cU&&fY n
def jh(n:aS):Bool:=fW n.two&&n==⟨n.two,fw,fw,false,⟨0,0,[]⟩,[],0,[]⟩
def dU(p:br):Bool:=aJ p.key 0 9&&aJ p.value 0 999
def gP(x y:br):Bool:=decide (x.key<y.key)
def bS(l:List br):Bool:=l.all dU&&hE gP l
def iN(j:bo):Bool:=aJ j.id 1 20&&tOk j.due&&aJ j.key 0 9&&aJ j.value 0 999&&aJ j.fired 0 2000
def mS(x y:bo):Bool:=decide (x.id<y.id)
def mB(x y:bo):Bool:=y.fired !=0&&x.fired==y.fired
def bO(l:List bo):Bool:=decide (l.length<=8)&&l.all iN&&hE mS l&&fH mB l
def ft(x:Int):Bool:=x==2||x==3
def d9(l:ge):Bool:=l==⟨0,0,0⟩||(ft l.holder&&aJ l.epoch 1 1000&&aJ l.til 1 1001000)
def bB(s:bf):Bool:=aJ s.index 0 2000&&tOk s.time&&bS s.pairs&&bO s.jobs&&d9 s.lease&&s.jobs.all λj=>decide (j.fired<=s.index)
def dw(d:bD):Bool:=cG d&&decide (d.kept.length=8)
def storeOk(s:bK):Bool:=dw s.disk&&bB s.state&&aJ s.num 0 1000000000&&aJ s.last 0 s.state.index&&((s.num==0)==(s.last==0))&&(s.busy==0||(decide (s.num<1000000000)&&decide (s.last<s.busy)&&decide (s.busy<=s.state.index)))
def fT:bf:=⟨0,0,[],[],⟨0,0,0⟩⟩
def fQ(s:bK):Bool:=cG s.disk&&s==⟨s.disk,fT,0,0,0⟩
def kA(d:eG):Bool:=aJ d.id 1 20&&tOk d.due
def pZ(x y:eG):Bool:=decide (x.due<y.due)||(x.due==y.due&&decide (x.id<y.id))
def u9(x y:eG):Bool:=x.id==y.id
def gF(j:jr):Bool:=aJ j.index 0 2000&&tOk j.time&&(j.holder==0||ft j.holder)&&aJ j.epoch 0 1000&&aJ j.til 0 1001000&&decide (j.opens.length<=8)&&j.opens.all kA&&hE pZ j.opens&&fH u9 j.opens
def op0:DOp:=⟨0,0,0,0,0⟩
def dG(s:cr):Bool:=ft s.id&&aJ s.seq 0 2000&&gF s.view.jobs&&aJ s.index 0 2000&&(if s.busy then s.seq !=0&&m9 s.op&&(s.op.kind==4||s.op.kind==5)else s.op==op0)
def gj(id:Int):cr:=⟨id,0,⟨⟨0,0,0,0,0,[]⟩⟩,false,op0,0⟩
def cV(s:cr)(id:Int)(up:Bool):Bool:=dG s&&s.id==id&&(up||s==gj id)
def mR(w:dD)(g:pz)(seq last:Int):Bool:=g.seq==seq&&aJ g.index last 2000&&(if w.kind==4 then(g.has==0&&g.value==0)||(g.has==1&&aJ g.value 0 999)else decide (last<g.index)&&g.has==0&&g.value==0)
def im(gs:List pz)(k:Nat):Int:=match k with|0=>0|j+1=>(gs.getD j ⟨0,0,0,0⟩).index
def ci(c:bp):Bool:=(c.id==4||c.id==5)&&c.todo.all eL&&decide (c.todo.length<=12)&&decide (c.gots.length<=c.todo.length)&&UO c.gots.length (λk=>mR (c.todo.getD k ⟨0,op0,0⟩) (c.gots.getD k ⟨0,0,0,0⟩) ((k:Int)+1) (im c.gots k))&&c.last==im c.gots c.gots.length
def cq(w:aP)(k:Nat):Bool:=w.up.getD k false
def aZ(w:aP):Bool:=cY w.clocks&&decide (w.up.length=6)&&dT w.net&&cq w 4&&cq w 5&&ci w.ann&&w.ann.id==4&&ci w.bob&&w.bob.id==5&&cV w.left 2 (cq w 2)&&cV w.right 3 (cq w 3)&&(if cq w 0 then logOk w.log else jh w.log)&&(if cq w 1 then storeOk w.store else fQ w.store)
end
end Go.Proofs.YthgkdhnlehneeaaGreatDoor
