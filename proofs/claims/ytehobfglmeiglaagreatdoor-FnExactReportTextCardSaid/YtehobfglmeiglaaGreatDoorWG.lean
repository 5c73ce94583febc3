/- WG -/
import Derived.Test.YtehobfglmeiglaaGreatDoorJ04
import Derived.Test.YtehobfglmeiglaaGreatDoorJ03
set_option linter.unusedVariables false
set_option linter.unusedSimpArgs false
set_option maxRecDepth 100000
namespace Go.Proofs.YtehobfglmeiglaaGreatDoor
open Go.Proofs.Tryz
open Go.ChangeShapes Go.WideShapes Go.RowKit
structure rC (op:BinOp) (t:TypeId) (ds es:List AD) (r:Bool):Prop where
 guard:∀(x y:Operand) w,(eqGuard op t x y (.agg (ds.map qv).toArray) (.agg (es.map qv).toArray)).run Tryz.prog w= .ok () w
 run:∀w,(binOp op t (.agg (ds.map qv).toArray) (.agg (es.map qv).toArray)).run Tryz.prog w= .ok (.bool r) w
theorem rC.reads{op:BinOp}{t t2:TypeId}{ds es:List AD}{r:Bool}(he:rC op t ds es r)(hd:ds.all AD.isPv=true)(hd2:es.all AD.isPv=true){S:ba}{Z:Nat->Prop}{ρ:Nat->Value}{st:ASt}{a:Act}{w:World}{o:Oper}{x y:Operand}
  (ho:o.op= .binOp op t x y t2) (hx:aEv st x λv=>v= .agg (ds.map .d)) (hy:aEv st y λv=>v= .agg (es.map .d)) (hs:Sim av.W S Z ρ st a w):∃u,aT Z w ρ (vB r) u/\(execOp a.eval o).run av.P w= .ok (.value u) w:=by
 obtain⟨v,hv,rfl⟩:=aI hs hx
 obtain⟨u,hu,rfl⟩:=aI hs hy
 have e1:=pJ hd hv
 have e2:=pJ hd2 hu
 have h1:=he.guard x y w
 have h2:=he.run w
 exact⟨.bool r,aX rfl,by simp[execOp,ho,e1,e2,av,h1,h2]⟩
theorem AOp.eqs{op:BinOp}{t t2:TypeId}{ds es:List AD}{r:Bool}(he:rC op t ds es r){S:ba}{st:ASt}{o:Oper}{x y:Operand}{K:ASt->Prop}(ho:o.op= .binOp op t x y t2)(hx:aEv st x λv=>v= .agg (ds.map .d))(hy:aEv st y λv=>v= .agg (es.map .d))(hd:ds.all AD.isPv=true)(hd2:es.all AD.isPv=true)(hk:bU st o.dst (vB r) K):AOp av S o st K:=
 .reads λZ ρ a w hs=>by
  obtain⟨u,hu,hr⟩:=he.reads hd hd2 ho hx hy hs
  exact⟨_,u,hu,hr,hk⟩
theorem il.eqs{op:BinOp}{t t2:TypeId}{ds es:List AD}{r:Bool}(he:rC op t ds es r){st:ASt}{o:Oper}{x y:Operand}{K:AV->Prop}(ho:o.op= .binOp op t x y t2)(hx:aEv st x λv=>v= .agg (ds.map .d))(hy:aEv st y λv=>v= .agg (es.map .d))(hd:ds.all AD.isPv=true)(hd2:es.all AD.isPv=true)(hk:K (vB r)):il av o st K:=
 ⟨_,hk,λS Z ρ a w hs=>he.reads hd hd2 ho hx hy hs⟩
theorem wI(w:World)(d:Nat)(a b:Int):(Op.equalIn (d+1) 2 (.int .i64 a) (.int .i64 b)).run Tryz.prog w= .ok (a==b) w:=En w d a b
abbrev az(x:Int):Value:= .int .i64 x
set_option maxHeartbeats 2000000 in
theorem zl(p q:DMark)(w:World):(binOp .neq 235 (.agg #[az p.client,az p.seq,az p.index]) (.agg #[az q.client,az q.seq,az q.index])).run Tryz.prog w= .ok (.bool (!(p==q))) w:=by
 obtain⟨a0,a1,a2⟩:=p
 obtain⟨b0,b1,b2⟩:=q
 have h:=run_underlying (w:=w) underlying235
 have hs:Tryz.prog.stoodInHeld 235=false:=by kernel_rfl
 show(do let x<-Op.equalIn (9999+1) _ _ _;pure (Value.bool !x):Sem Value).run _ _=_
 rw[Op.equalIn]
 have key:∀x y:Int,(Op.equalIn 9999 2 (.int .i64 x) (.int .i64 y)).run Tryz.prog w= .ok (x==y) w:=wI w 9998
 simp[h,hs,fa,key]
 repeat' split
 all_goals simp_all
theorem j5(p q:DMark):rC .neq 235 p.ds q.ds (!(p==q)):=by
 refine⟨λx y w=>?_,λw=>zl p q w⟩
 have h:Tryz.prog.eqGuardType Tryz.prog.depth 235=false:=by kernel_rfl
 simp[eqGuard,h]
set_option maxHeartbeats 2000000 in
theorem Bk(p q:DAck)(w:World):(binOp .neq 239 (.agg #[az p.client,az p.seq,az p.index,az p.last]) (.agg #[az q.client,az q.seq,az q.index,az q.last])).run Tryz.prog w= .ok (.bool (!(p==q))) w:=by
 obtain⟨a0,a1,a2,a3⟩:=p
 obtain⟨b0,b1,b2,b3⟩:=q
 have h:=run_underlying (w:=w) underlying239
 have hs:Tryz.prog.stoodInHeld 239=false:=by kernel_rfl
 show(do let x<-Op.equalIn (9999+1) _ _ _;pure (Value.bool !x):Sem Value).run _ _=_
 rw[Op.equalIn]
 have key:∀x y:Int,(Op.equalIn 9999 2 (.int .i64 x) (.int .i64 y)).run Tryz.prog w= .ok (x==y) w:=wI w 9998
 simp[h,hs,fa,key]
 repeat' split
 all_goals simp_all
theorem qq(p q:DAck):rC .neq 239 p.ds q.ds (!(p==q)):=by
 refine⟨λx y w=>?_,λw=>Bk p q w⟩
 have h:Tryz.prog.eqGuardType Tryz.prog.depth 239=false:=by kernel_rfl
 simp[eqGuard,h]
set_option maxHeartbeats 2000000 in
theorem zm(p q:DPair)(w:World):(binOp .neq 313 (.agg #[az p.key,az p.value]) (.agg #[az q.key,az q.value])).run Tryz.prog w= .ok (.bool (!(p==q))) w:=by
 obtain⟨a0,a1⟩:=p
 obtain⟨b0,b1⟩:=q
 have h:=run_underlying (w:=w) underlying313
 have hs:Tryz.prog.stoodInHeld 313=false:=by kernel_rfl
 show(do let x<-Op.equalIn (9999+1) _ _ _;pure (Value.bool !x):Sem Value).run _ _=_
 rw[Op.equalIn]
 have key:∀x y:Int,(Op.equalIn 9999 2 (.int .i64 x) (.int .i64 y)).run Tryz.prog w= .ok (x==y) w:=wI w 9998
 simp[h,hs,fa,key]
 repeat' split
 all_goals simp_all
theorem j6(p q:DPair):rC .neq 313 p.ds q.ds (!(p==q)):=by
 refine⟨λx y w=>?_,λw=>zm p q w⟩
 have h:Tryz.prog.eqGuardType Tryz.prog.depth 313=false:=by kernel_rfl
 simp[eqGuard,h]
set_option maxHeartbeats 2000000 in
theorem Bm(p q:DJob)(w:World):(binOp .neq 228 (.agg #[az p.id,az p.due,az p.key,az p.value,az p.fired]) (.agg #[az q.id,az q.due,az q.key,az q.value,az q.fired])).run Tryz.prog w= .ok (.bool (!(p==q))) w:=by
 obtain⟨a0,a1,a2,a3,a4⟩:=p
 obtain⟨b0,b1,b2,b3,b4⟩:=q
 have h:=run_underlying (w:=w) underlying228
 have hs:Tryz.prog.stoodInHeld 228=false:=by kernel_rfl
 show(do let x<-Op.equalIn (9999+1) _ _ _;pure (Value.bool !x):Sem Value).run _ _=_
 rw[Op.equalIn]
 have key:∀x y:Int,(Op.equalIn 9999 2 (.int .i64 x) (.int .i64 y)).run Tryz.prog w= .ok (x==y) w:=wI w 9998
 simp[h,hs,fa,key]
 repeat' split
 all_goals simp_all
theorem nf(p q:DJob):rC .neq 228 p.ds q.ds (!(p==q)):=by
 refine⟨λx y w=>?_,λw=>Bm p q w⟩
 have h:Tryz.prog.eqGuardType Tryz.prog.depth 228=false:=by kernel_rfl
 simp[eqGuard,h]
set_option maxHeartbeats 2000000 in
theorem Bl(p q:DDue)(w:World):(binOp .neq 230 (.agg #[az p.id,az p.due]) (.agg #[az q.id,az q.due])).run Tryz.prog w= .ok (.bool (!(p==q))) w:=by
 obtain⟨a0,a1⟩:=p
 obtain⟨b0,b1⟩:=q
 have h:=run_underlying (w:=w) underlying230
 have hs:Tryz.prog.stoodInHeld 230=false:=by kernel_rfl
 show(do let x<-Op.equalIn (9999+1) _ _ _;pure (Value.bool !x):Sem Value).run _ _=_
 rw[Op.equalIn]
 have key:∀x y:Int,(Op.equalIn 9999 2 (.int .i64 x) (.int .i64 y)).run Tryz.prog w= .ok (x==y) w:=wI w 9998
 simp[h,hs,fa,key]
 repeat' split
 all_goals simp_all
theorem v7(p q:DDue):rC .neq 230 p.ds q.ds (!(p==q)):=by
 refine⟨λx y w=>?_,λw=>Bl p q w⟩
 have h:Tryz.prog.eqGuardType Tryz.prog.depth 230=false:=by kernel_rfl
 simp[eqGuard,h]
set_option maxHeartbeats 2000000 in
theorem xq(p q:DLease)(w:World):(binOp .eql 84 (.agg #[az p.holder,az p.epoch,az p.til]) (.agg #[az q.holder,az q.epoch,az q.til])).run Tryz.prog w= .ok (.bool (p==q)) w:=by
 obtain⟨a0,a1,a2⟩:=p
 obtain⟨b0,b1,b2⟩:=q
 have h:=run_underlying (w:=w) underlying84
 have hs:Tryz.prog.stoodInHeld 84=false:=by kernel_rfl
 show(do let x<-Op.equalIn (9999+1) _ _ _;pure (Value.bool x):Sem Value).run _ _=_
 rw[Op.equalIn]
 have key:∀x y:Int,(Op.equalIn 9999 2 (.int .i64 x) (.int .i64 y)).run Tryz.prog w= .ok (x==y) w:=wI w 9998
 simp[h,hs,fa,key]
 repeat' split
 all_goals simp_all
theorem gT(p q:DLease):rC .eql 84 p.ds q.ds (p==q):=by
 refine⟨λx y w=>?_,λw=>xq p q w⟩
 have h:Tryz.prog.eqGuardType Tryz.prog.depth 84=false:=by kernel_rfl
 simp[eqGuard,h]
set_option maxHeartbeats 2000000 in
theorem K2(d:Nat)(p q:DOp)(w:World):(Op.equalIn (d+2) 94 (.agg #[az p.kind,az p.a,az p.b,az p.c,az p.d]) (.agg #[az q.kind,az q.a,az q.b,az q.c,az q.d])).run Tryz.prog w= .ok (p==q) w:=by
 obtain⟨a0,a1,a2,a3,a4⟩:=p
 obtain⟨b0,b1,b2,b3,b4⟩:=q
 have h:=run_underlying (w:=w) underlying94
 have hs:Tryz.prog.stoodInHeld 94=false:=by kernel_rfl
 rw[Op.equalIn]
 have key:∀x y:Int,(Op.equalIn (d+1) 2 (.int .i64 x) (.int .i64 y)).run Tryz.prog w= .ok (x==y) w:=wI w d
 simp[h,hs,fa,key]
 repeat' split
 all_goals simp_all
set_option maxHeartbeats 2000000 in
theorem CY(p q:DOp)(w:World):(binOp .eql 94 (.agg #[az p.kind,az p.a,az p.b,az p.c,az p.d]) (.agg #[az q.kind,az q.a,az q.b,az q.c,az q.d])).run Tryz.prog w= .ok (.bool (p==q)) w:=by
 obtain⟨a0,a1,a2,a3,a4⟩:=p
 obtain⟨b0,b1,b2,b3,b4⟩:=q
 have h:=run_underlying (w:=w) underlying94
 have hs:Tryz.prog.stoodInHeld 94=false:=by kernel_rfl
 show(do let x<-Op.equalIn (9999+1) _ _ _;pure (Value.bool x):Sem Value).run _ _=_
 rw[Op.equalIn]
 have key:∀x y:Int,(Op.equalIn 9999 2 (.int .i64 x) (.int .i64 y)).run Tryz.prog w= .ok (x==y) w:=wI w 9998
 simp[h,hs,fa,key]
 repeat' split
 all_goals simp_all
theorem iQ(p q:DOp):rC .eql 94 p.ds q.ds (p==q):=by
 refine⟨λx y w=>?_,λw=>CY p q w⟩
 have h:Tryz.prog.eqGuardType Tryz.prog.depth 94=false:=by kernel_rfl
 simp[eqGuard,h]
set_option maxHeartbeats 2000000 in
theorem xC(p q:DEntry)(w:World):(binOp .neq 306 (.agg #[az p.index,az p.time,az p.client,az p.seq,az p.op.kind,az p.op.a,az p.op.b,az p.op.c,az p.op.d]) (.agg #[az q.index,az q.time,az q.client,az q.seq,az q.op.kind,az q.op.a,az q.op.b,az q.op.c,az q.op.d])).run Tryz.prog w= .ok (.bool (!(p==q))) w:=by
 obtain⟨a0,a1,a2,a3,a4⟩:=p
 obtain⟨b0,b1,b2,b3,b4⟩:=q
 have h:=run_underlying (w:=w) underlying306
 have hs:Tryz.prog.stoodInHeld 306=false:=by kernel_rfl
 have kop:∀o o':DOp,(Op.equalIn 9999 94 (.agg #[az o.kind,az o.a,az o.b,az o.c,az o.d]) (.agg #[az o'.kind,az o'.a,az o'.b,az o'.c,az o'.d])).run Tryz.prog w= .ok (o==o') w:=λo o'=>K2 9997 o o' w
 have po:∀(xs:Array Value) (o:DOp),xs.extract 4 9= #[az o.kind,az o.a,az o.b,az o.c,az o.d]->(part 94 xs 4).run Tryz.prog w= .ok (.agg #[az o.kind,az o.a,az o.b,az o.c,az o.d]) w:=λxs o h=>by
  simp[part,isAgg94,sizeOf94,h]
 show(do let x<-Op.equalIn (9999+1) _ _ _;pure (Value.bool !x):Sem Value).run _ _=_
 rw[Op.equalIn]
 have key:∀x y:Int,(Op.equalIn 9999 2 (.int .i64 x) (.int .i64 y)).run Tryz.prog w= .ok (x==y) w:=wI w 9998
 have p1:=po #[az a0,az a1,az a2,az a3,az a4.kind,az a4.a,az a4.b,az a4.c,az a4.d] a4 rfl
 have p2:=po #[az b0,az b1,az b2,az b3,az b4.kind,az b4.a,az b4.b,az b4.c,az b4.d] b4 rfl
 simp[h,hs,fa,key,kop,p1,p2]
 repeat' split
 all_goals simp_all
theorem q3(p q:DEntry):rC .neq 306 p.ds q.ds (!(p==q)):=by
 refine⟨λx y w=>?_,λw=>xC p q w⟩
 have h:Tryz.prog.eqGuardType Tryz.prog.depth 306=false:=by kernel_rfl
 simp[eqGuard,h]
end Go.Proofs.YtehobfglmeiglaaGreatDoor
