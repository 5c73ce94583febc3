/- Awx -/
import Derived.Test.YtknefkdcokgpbaaGreatAvEnv
import Derived.Test.YtknefkdcokgpbaaGreatAvQ
import Derived.Test.YtknefkdcokgpbaaGreatAvVF
import Derived.Test.YtknefkdcokgpbaaGreatAvPL
import Derived.Test.YtknefkdcokgpbaaGreatTypes
set_option maxHeartbeats 8000000
set_option linter.unusedVariables false
set_option linter.unusedSimpArgs false
set_option maxRecDepth 100000
namespace Go.Proofs.YtknefkdcokgpbaaGreat
section
open Go.RowKit
variable {a b p q:Prop}
abbrev iv(n:Int):Value:= .int .i64 n
theorem awx(h:q)(e:q->p:=by first|exact λh=>aw1 h|exact λh=>aw2 h|exact λh=>aw3 h|exact λh=>aw4 h|exact λh=>aw5 h|exact λh=>aw6 h|exact λh=>aw7 h|exact λh=>aw8 h|exact λh=>bT h|exact λh=>bF h):p:=e h
structure Bx (q:Prop):Prop where
 h:q
theorem awy(h:q)(e:Bx q->p:=by first|(intro h;(first|refine aw0 ?_|refine aw1 ?_|refine aw2 ?_|refine aw3 ?_|refine aw4 ?_|refine aw5 ?_|refine aw6 ?_|refine aw7 ?_|refine aw8 ?_|refine bT ?_|refine bF ?_);(conv=>whnf);exact h.h)|(refine λ_:Bx True=>?_;(first|refine aw0 ?_|refine aw1 ?_|refine aw2 ?_|refine aw3 ?_|refine aw4 ?_|refine aw5 ?_|refine aw6 ?_|refine aw7 ?_|refine aw8 ?_|refine bT ?_|refine bF ?_);exact rfl)):p:=e ⟨h⟩
theorem awz(h:q)(e:Bx q->p:=by first|(intro h;(first|refine aw0 ?_|refine aw1 ?_|refine aw2 ?_|refine aw3 ?_|refine aw4 ?_|refine aw5 ?_|refine aw6 ?_|refine aw7 ?_|refine aw8 ?_|refine bT ?_|refine bF ?_|refine And.intro rfl ?_);(conv=>whnf);exact h.h)|(refine λ_:Bx True=>?_;(first|refine aw0 ?_|refine aw1 ?_|refine aw2 ?_|refine aw3 ?_|refine aw4 ?_|refine aw5 ?_|refine aw6 ?_|refine aw7 ?_|refine aw8 ?_|refine bT ?_|refine bF ?_|refine And.intro rfl ?_);exact rfl)):p:=e ⟨h⟩
theorem rZ(h:p:=by first|exact rr|(show AP.val _=AP.val _;rfl)|(show AP.tup _=AP.tup _;rfl)):p:=h
theorem tW(h:a)(k:b)(e:a->b->p:=by intro a b;first|(refine aO.mk ?_ ?_;(conv=>whnf);exact a;(conv=>whnf);exact b)|exact AB.mk a b):p:=e h k
theorem tB(h:a)(k:b)(e:a->b->p:=by exact λa b=>AB.mk a b):p:=e h k
theorem sbW(h:p:=by repeat'(first|exact X4|refine X0 rfl ?_|fail)):p:=h
end
open Go.Proofs.Tryz
open Go.ChangeShapes Go.WideShapes Go.RowKit
def v7(o:DOp):Bool:=
 if o.kind=1 then aK o.a 0 9&&aK o.b 0 999&&(o.c==0)&&(o.d==0)
 else if o.kind=2 then aK o.a 0 9&&(o.b==0)&&(o.c==0)&&(o.d==0)
 else if o.kind=3 then aK o.a 1 20&&aK o.b 0 1000000&&aK o.c 0 9&&aK o.d 0 999
 else if o.kind=4 then aK o.a 1 20&&aK o.b 0 1000&&(o.c==0)&&(o.d==0)
 else if o.kind=5 then aK o.a 1 1000&&(o.b==0)&&(o.c==0)&&(o.d==0)
 else false
def dd(e:DEntry):Bool:=aK e.index 1 2000&&aK e.time 0 1000000&&aK e.client 2 5&&aK e.seq 1 2000&&v7 e.op
def DEntry.ds(e:DEntry):List AD:=[dI e.index,dI e.time,dI e.client,dI e.seq,dI e.op.kind,dI e.op.a,dI e.op.b,dI e.op.c,dI e.op.d]
abbrev DOp.ds(o:DOp):List AD:=[dI o.kind,dI o.a,dI o.b,dI o.c,dI o.d]
def DOp.v(o:DOp):Value:= .agg #[.int .i64 o.kind,.int .i64 o.a,.int .i64 o.b,.int .i64 o.c,.int .i64 o.d]
def iC(x:DWant):Bool:=if x.kind==4 then(x.op==⟨0,0,0,0,0⟩&&aK x.key 0 9)else if x.kind==1||x.kind==2||x.kind==3 then(v7 x.op&&x.op.kind==x.kind&&x.key==0)else false
def DWant.ds(e:DWant):List AD:=[dI e.kind,dI e.op.kind,dI e.op.a,dI e.op.b,dI e.op.c,dI e.op.d,dI e.key]
theorem PS(w:World)(d:Nat)(a b:Int):(Op.equalIn (d+1) 2 (.int .i64 a) (.int .i64 b)).run Tryz.prog w= .ok (a==b) w:=by
 have hi:=run_underlying (w:=w) underlying2;simp[Op.equalIn,hi]
theorem kB(w:World)(xs:Array Value)(i:Nat)(v:Value)(h:xs[i]? =some v):(part 2 xs i).run Tryz.prog w= .ok v w:=by
 simp[part,isAgg2,sizeOf2,h]
theorem dn{α β:Type}(f:α->β){l:List α}{k:Nat}(hk:k<l.length):(l.take (k+1)).map f=(l.take k).map f++[f l[k]]:=by
 rw[List.take_succ_eq_append_getElem hk,List.map_append];rfl
theorem be(x lo hi:Int):aM av 350 [pI x,pI lo,pI hi] (rB (aK x lo hi)):=by
 refine pO func350 call350 ntmps350 results350 λS=>?_;conv=>whnf
 repeat'(first|refine awz ?_|refine tB ?_ ?_|(intro h;conv=>whnf))
 all_goals first
  |(simp_all[aK];done)
  |(simp_all[aK];intros;omega)
theorem bg(x lo hi:Int):aM av 213 [pI x,pI lo,pI hi] (rB (aK x lo hi)):=by
 refine pO func213 call213 ntmps213 results213 λS=>?_;conv=>whnf
 repeat'(first|refine awz ?_|refine tB ?_ ?_|(intro h;conv=>whnf))
 all_goals first
  |(simp_all[aK];done)
  |(simp_all[aK];intros;omega)
theorem E7(x:Int):aM av 352 [pI x] (rB (aK x 0 5)):=by
 refine pO func352 call352 ntmps352 results352 λS=>?_;conv=>whnf
 repeat'(first|refine awz ?_|(refine cP (be _ _ _) ?_;conv=>whnf)|exact rr|fail)
theorem kq(x:Int):aM av 466 [pI x] (rB (aK x 0 9)):=by
 refine pO func466 call466 ntmps466 results466 λS=>?_;conv=>whnf
 repeat'(first|refine awz ?_|(refine cP (be _ _ _) ?_;conv=>whnf)|exact rr|fail)
theorem iR(x:Int):aM av 467 [pI x] (rB (aK x 0 999)):=by
 refine pO func467 call467 ntmps467 results467 λS=>?_;conv=>whnf
 repeat'(first|refine awz ?_|(refine cP (be _ _ _) ?_;conv=>whnf)|exact rr|fail)
theorem uc(x:Int):aM av 469 [pI x] (rB (aK x 1 20)):=by
 refine pO func469 call469 ntmps469 results469 λS=>?_;conv=>whnf
 repeat'(first|refine awz ?_|(refine cP (be _ _ _) ?_;conv=>whnf)|exact rr|fail)
theorem m0(x:Int):aM av 445 [pI x] (rB (aK x 1 2000)):=by
 refine pO func445 call445 ntmps445 results445 λS=>?_;conv=>whnf
 repeat'(first|refine awz ?_|(refine cP (be _ _ _) ?_;conv=>whnf)|exact rr|fail)
theorem ld(x:Int):aM av 446 [pI x] (rB (aK x 1 2000)):=by
 refine pO func446 call446 ntmps446 results446 λS=>?_;conv=>whnf
 repeat'(first|refine awz ?_|(refine cP (be _ _ _) ?_;conv=>whnf)|exact rr|fail)
theorem da(x:Int):aM av 272 [pI x] (rB (aK x 0 1000000)):=by
 refine pO func272 call272 ntmps272 results272 λS=>?_;conv=>whnf
 repeat'(first|refine awz ?_|(refine cP (be _ _ _) ?_;conv=>whnf)|exact rr|fail)
theorem jD(x:Int):aM av 444 [pI x] (rB (aK x 2 5)):=by
 refine pO func444 call444 ntmps444 results444 λS=>?_;conv=>whnf
 repeat'(first|refine awz ?_|(refine cP (be _ _ _) ?_;conv=>whnf)|exact rr|fail)
theorem uA(x:Int):aM av 142 [pI x] (rB (aK x 0 5)):=by
 refine pO func142 call142 ntmps142 results142 λS=>?_;conv=>whnf
 repeat'(first|refine awz ?_|(refine cP (bg _ _ _) ?_;conv=>whnf)|exact rr|fail)
theorem pB(x:Int):aM av 233 [pI x] (rB (aK x 0 9)):=by
 refine pO func233 call233 ntmps233 results233 λS=>?_;conv=>whnf
 repeat'(first|refine awz ?_|(refine cP (bg _ _ _) ?_;conv=>whnf)|exact rr|fail)
theorem qD(x:Int):aM av 235 [pI x] (rB (aK x 0 999)):=by
 refine pO func235 call235 ntmps235 results235 λS=>?_;conv=>whnf
 repeat'(first|refine awz ?_|(refine cP (bg _ _ _) ?_;conv=>whnf)|exact rr|fail)
theorem z6(x:Int):aM av 327 [pI x] (rB (aK x 1 20)):=by
 refine pO func327 call327 ntmps327 results327 λS=>?_;conv=>whnf
 repeat'(first|refine awz ?_|(refine cP (bg _ _ _) ?_;conv=>whnf)|exact rr|fail)
theorem iu(x:Int):aM av 399 [pI x] (rB (aK x 1 2000)):=by
 refine pO func399 call399 ntmps399 results399 λS=>?_;conv=>whnf
 repeat'(first|refine awz ?_|(refine cP (bg _ _ _) ?_;conv=>whnf)|exact rr|fail)
theorem lq(x:Int):aM av 400 [pI x] (rB (aK x 1 2000)):=by
 refine pO func400 call400 ntmps400 results400 λS=>?_;conv=>whnf
 repeat'(first|refine awz ?_|(refine cP (bg _ _ _) ?_;conv=>whnf)|exact rr|fail)
theorem ew(x:Int):aM av 132 [pI x] (rB (aK x 0 1000000)):=by
 refine pO func132 call132 ntmps132 results132 λS=>?_;conv=>whnf
 repeat'(first|refine awz ?_|(refine cP (bg _ _ _) ?_;conv=>whnf)|exact rr|fail)
theorem fk(x:Int):aM av 398 [pI x] (rB (aK x 2 5)):=by
 refine pO func398 call398 ntmps398 results398 λS=>?_;conv=>whnf
 repeat'(first|refine awz ?_|(refine cP (bg _ _ _) ?_;conv=>whnf)|exact rr|fail)
theorem qC(x:Int):aM av 257 [pI x] (rB (aK x 0 1000000)):=by
 refine pO func257 call257 ntmps257 results257 λS=>?_;conv=>whnf
 repeat'(first|refine awz ?_|(refine cP (bg _ _ _) ?_;conv=>whnf)|exact rr|fail)
theorem qa(o:DOp):aM av 421 [.agg o.ds] (rB (v7 o)):=by
 refine pO func421 call421 ntmps421 results421 λS=>?_;conv=>whnf
 repeat'((first|refine awz ?_|refine cP (kq _) ?_|refine cP (iR _) ?_|refine cP (uc _) ?_|refine cP (da _) ?_|refine cP (be _ _ _) ?_|refine tB ?_ ?_|intro h)<;>conv=>whnf)
 all_goals simp_all[v7]
theorem lx(o:DOp):aM av 232 [.agg o.ds] (rB (v7 o)):=by
 refine pO func232 call232 ntmps232 results232 λS=>?_;conv=>whnf
 repeat'((first|refine awz ?_|refine cP (pB _) ?_|refine cP (qD _) ?_|refine cP (z6 _) ?_|refine cP (ew _) ?_|refine cP (bg _ _ _) ?_|refine tB ?_ ?_|intro h)<;>conv=>whnf)
 all_goals simp_all[v7]
theorem k8(e:DEntry):aM av 426 [.agg e.ds] (rB (dd e)):=by
 refine pO func426 call426 ntmps426 results426 λS=>?_;conv=>whnf
 repeat'((first|refine awz ?_|refine cP (ld _) ?_|refine cP (da _) ?_|refine cP (jD _) ?_|refine cP (m0 _) ?_|refine cP (qa e.op) ?_|refine tB ?_ ?_|intro h)<;>conv=>whnf)
 all_goals simp[dd, *]
theorem lm(e:DEntry):aM av 402 [.agg e.ds] (rB (dd e)):=by
 refine pO func402 call402 ntmps402 results402 λS=>?_;conv=>whnf
 repeat'((first|refine awz ?_|refine cP (lq _) ?_|refine cP (ew _) ?_|refine cP (fk _) ?_|refine cP (iu _) ?_|refine cP (lx e.op) ?_|refine tB ?_ ?_|intro h)<;>conv=>whnf)
 all_goals simp[dd, *]
end Go.Proofs.YtknefkdcokgpbaaGreat
