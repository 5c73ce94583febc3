/- WG -/
import Derived.Test.YtknefkdcokgpbaaGreatWData
import Derived.Test.YtknefkdcokgpbaaGreatAvPL
import Derived.Test.YtknefkdcokgpbaaGreatAwx
set_option maxHeartbeats 8000000
set_option linter.unusedVariables false
set_option linter.unusedSimpArgs false
set_option maxRecDepth 100000
open Bool (and_eq_true)
namespace Go.Proofs.YtknefkdcokgpbaaGreat
section
open Go.Proofs.Tryz
open Go.ChangeShapes Go.WideShapes Go.RowKit
variable {st:ASt}{op:BinOp}{r:Bool}{ds es:List AD}{o:Oper}{x y:Operand}{t t2:TypeId}{S:bV}
structure zG (op:BinOp) (t:TypeId) (ds es:List AD) (r:Bool):Prop where
 guard:∀(x y:Operand) w,(eqGuard op t x y (.agg (ds.map zN).toArray) (.agg (es.map zN).toArray)).run Tryz.prog w= .ok () w
 run:∀w,(binOp op t (.agg (ds.map zN).toArray) (.agg (es.map zN).toArray)).run Tryz.prog w= .ok (.bool r) w
theorem zG.reads{t2:TypeId}(he:zG op t ds es r)(hd:ds.all AD.isPv=true)(hd2:es.all AD.isPv=true){S:bV}{Z:Nat->Prop}{ρ:Nat->Value}{st:ASt}{a:Act}{w:World}{o:Oper}{x y:Operand}
  (ho:o.op= .binOp op t x y t2) (hx:aEv st x λv=>v= .agg (ds.map .d)) (hy:aEv st y λv=>v= .agg (es.map .d)) (hs:Sim av.W S Z ρ st a w):∃u,bX Z w ρ (vB r) u/\(execOp a.eval o).run av.P w= .ok (.value u) w:=by
 obtain⟨v,hv,rfl⟩:=bn hs hx;obtain⟨u,hu,rfl⟩:=bn hs hy;have e1:=xm hd hv;have e2:=xm hd2 hu;have h1:=he.guard x y w;have h2:=he.run w;exact⟨.bool r,cK rfl,by simp[execOp,ho,e1,e2,av,h1,h2]⟩
theorem YF(he:zG op t ds es r){K:ASt->Prop}(ho:o.op= .binOp op t x y t2)(hx:aEv st x λv=>v= .agg (ds.map .d))(hy:aEv st y λv=>v= .agg (es.map .d))(hd:ds.all AD.isPv=true)(hd2:es.all AD.isPv=true)(hk:dR st o.dst (vB r) K):AOp av S o st K:=
 .reads λZ ρ a w hs=>by
  obtain⟨u,hu,hr⟩:=he.reads hd hd2 ho hx hy hs;exact⟨_,u,hu,hr,hk⟩
theorem YN(he:zG op t ds es r){K:AV->Prop}(ho:o.op= .binOp op t x y t2)(hx:aEv st x λv=>v= .agg (ds.map .d))(hy:aEv st y λv=>v= .agg (es.map .d))(hd:ds.all AD.isPv=true)(hd2:es.all AD.isPv=true)(hk:K (vB r)):ou av o st K:=
 ⟨_,hk,λS Z ρ a w hs=>he.reads hd hd2 ho hx hy hs⟩
theorem wI(w:World)(d:Nat)(a b:Int):(Op.equalIn (d+1) 2 (.int .i64 a) (.int .i64 b)).run Tryz.prog w= .ok (a==b) w:=PS w d a b
abbrev bm(x:Int):Value:= .int .i64 x
theorem JD(p q:DMark)(w:World):(binOp .neq 236 (.agg #[bm p.client,bm p.seq,bm p.index]) (.agg #[bm q.client,bm q.seq,bm q.index])).run Tryz.prog w= .ok (.bool (!(p==q))) w:=by
 obtain⟨a0,a1,a2⟩:=p;obtain⟨b0,b1,b2⟩:=q;have h:=run_underlying (w:=w) underlying236;have hs:Tryz.prog.stoodInHeld 236=false:=ae;show(do let x<-Op.equalIn (9999+1) _ _ _;pure (Value.bool !x):Sem Value).run _ _=_;rw[Op.equalIn];have key:∀x y:Int,(Op.equalIn 9999 2 (.int .i64 x) (.int .i64 y)).run Tryz.prog w= .ok (x==y) w:=wI w 9998;simp[h,hs,kB,key];repeat' split
 all_goals simp_all
theorem qn(p q:DMark):zG .neq 236 p.ds q.ds (!(p==q)):=by
 refine⟨λx y w=>?_,λw=>JD p q w⟩;have h:Tryz.prog.eqGuardType Tryz.prog.depth 236=false:=ae;simp[eqGuard,h]
theorem LW(p q:DAck)(w:World):(binOp .neq 240 (.agg #[bm p.client,bm p.seq,bm p.index,bm p.last]) (.agg #[bm q.client,bm q.seq,bm q.index,bm q.last])).run Tryz.prog w= .ok (.bool (!(p==q))) w:=by
 obtain⟨a0,a1,a2,a3⟩:=p;obtain⟨b0,b1,b2,b3⟩:=q;have h:=run_underlying (w:=w) underlying240;have hs:Tryz.prog.stoodInHeld 240=false:=ae;show(do let x<-Op.equalIn (9999+1) _ _ _;pure (Value.bool !x):Sem Value).run _ _=_;rw[Op.equalIn];have key:∀x y:Int,(Op.equalIn 9999 2 (.int .i64 x) (.int .i64 y)).run Tryz.prog w= .ok (x==y) w:=wI w 9998;simp[h,hs,kB,key];repeat' split
 all_goals simp_all
theorem ye(p q:DAck):zG .neq 240 p.ds q.ds (!(p==q)):=by
 refine⟨λx y w=>?_,λw=>LW p q w⟩;have h:Tryz.prog.eqGuardType Tryz.prog.depth 240=false:=ae;simp[eqGuard,h]
theorem JE(p q:DPair)(w:World):(binOp .neq 339 (.agg #[bm p.key,bm p.value]) (.agg #[bm q.key,bm q.value])).run Tryz.prog w= .ok (.bool (!(p==q))) w:=by
 obtain⟨a0,a1⟩:=p;obtain⟨b0,b1⟩:=q;have h:=run_underlying (w:=w) underlying339;have hs:Tryz.prog.stoodInHeld 339=false:=ae;show(do let x<-Op.equalIn (9999+1) _ _ _;pure (Value.bool !x):Sem Value).run _ _=_;rw[Op.equalIn];have key:∀x y:Int,(Op.equalIn 9999 2 (.int .i64 x) (.int .i64 y)).run Tryz.prog w= .ok (x==y) w:=wI w 9998;simp[h,hs,kB,key];repeat' split
 all_goals simp_all
theorem qo(p q:DPair):zG .neq 339 p.ds q.ds (!(p==q)):=by
 refine⟨λx y w=>?_,λw=>JE p q w⟩;have h:Tryz.prog.eqGuardType Tryz.prog.depth 339=false:=ae;simp[eqGuard,h]
theorem LY(p q:DJob)(w:World):(binOp .neq 343 (.agg #[bm p.id,bm p.due,bm p.key,bm p.value,bm p.fired]) (.agg #[bm q.id,bm q.due,bm q.key,bm q.value,bm q.fired])).run Tryz.prog w= .ok (.bool (!(p==q))) w:=by
 obtain⟨a0,a1,a2,a3,a4⟩:=p;obtain⟨b0,b1,b2,b3,b4⟩:=q;have h:=run_underlying (w:=w) underlying343;have hs:Tryz.prog.stoodInHeld 343=false:=ae;show(do let x<-Op.equalIn (9999+1) _ _ _;pure (Value.bool !x):Sem Value).run _ _=_;rw[Op.equalIn];have key:∀x y:Int,(Op.equalIn 9999 2 (.int .i64 x) (.int .i64 y)).run Tryz.prog w= .ok (x==y) w:=wI w 9998;simp[h,hs,kB,key];repeat' split
 all_goals simp_all
theorem ug(p q:DJob):zG .neq 343 p.ds q.ds (!(p==q)):=by
 refine⟨λx y w=>?_,λw=>LY p q w⟩;have h:Tryz.prog.eqGuardType Tryz.prog.depth 343=false:=ae;simp[eqGuard,h]
theorem LX(p q:DDue)(w:World):(binOp .neq 392 (.agg #[bm p.id,bm p.due]) (.agg #[bm q.id,bm q.due])).run Tryz.prog w= .ok (.bool (!(p==q))) w:=by
 obtain⟨a0,a1⟩:=p;obtain⟨b0,b1⟩:=q;have h:=run_underlying (w:=w) underlying392;have hs:Tryz.prog.stoodInHeld 392=false:=ae;show(do let x<-Op.equalIn (9999+1) _ _ _;pure (Value.bool !x):Sem Value).run _ _=_;rw[Op.equalIn];have key:∀x y:Int,(Op.equalIn 9999 2 (.int .i64 x) (.int .i64 y)).run Tryz.prog w= .ok (x==y) w:=wI w 9998;simp[h,hs,kB,key];repeat' split
 all_goals simp_all
theorem Fg(p q:DDue):zG .neq 392 p.ds q.ds (!(p==q)):=by
 refine⟨λx y w=>?_,λw=>LX p q w⟩;have h:Tryz.prog.eqGuardType Tryz.prog.depth 392=false:=ae;simp[eqGuard,h]
theorem GR(p q:DLease)(w:World):(binOp .eql 83 (.agg #[bm p.holder,bm p.epoch,bm p.til]) (.agg #[bm q.holder,bm q.epoch,bm q.til])).run Tryz.prog w= .ok (.bool (p==q)) w:=by
 obtain⟨a0,a1,a2⟩:=p;obtain⟨b0,b1,b2⟩:=q;have h:=run_underlying (w:=w) underlying83;have hs:Tryz.prog.stoodInHeld 83=false:=ae;show(do let x<-Op.equalIn (9999+1) _ _ _;pure (Value.bool x):Sem Value).run _ _=_;rw[Op.equalIn];have key:∀x y:Int,(Op.equalIn 9999 2 (.int .i64 x) (.int .i64 y)).run Tryz.prog w= .ok (x==y) w:=wI w 9998;simp[h,hs,kB,key];repeat' split
 all_goals simp_all
theorem nK(p q:DLease):zG .eql 83 p.ds q.ds (p==q):=by
 refine⟨λx y w=>?_,λw=>GR p q w⟩;have h:Tryz.prog.eqGuardType Tryz.prog.depth 83=false:=ae;simp[eqGuard,h]
theorem Wr(d:Nat)(p q:DOp)(w:World):(Op.equalIn (d+2) 93 (.agg #[bm p.kind,bm p.a,bm p.b,bm p.c,bm p.d]) (.agg #[bm q.kind,bm q.a,bm q.b,bm q.c,bm q.d])).run Tryz.prog w= .ok (p==q) w:=by
 obtain⟨a0,a1,a2,a3,a4⟩:=p;obtain⟨b0,b1,b2,b3,b4⟩:=q;have h:=run_underlying (w:=w) underlying93;have hs:Tryz.prog.stoodInHeld 93=false:=ae;rw[Op.equalIn];have key:∀x y:Int,(Op.equalIn (d+1) 2 (.int .i64 x) (.int .i64 y)).run Tryz.prog w= .ok (x==y) w:=wI w d;simp[h,hs,kB,key];repeat' split
 all_goals simp_all
theorem N7(p q:DOp)(w:World):(binOp .eql 93 (.agg #[bm p.kind,bm p.a,bm p.b,bm p.c,bm p.d]) (.agg #[bm q.kind,bm q.a,bm q.b,bm q.c,bm q.d])).run Tryz.prog w= .ok (.bool (p==q)) w:=by
 obtain⟨a0,a1,a2,a3,a4⟩:=p;obtain⟨b0,b1,b2,b3,b4⟩:=q;have h:=run_underlying (w:=w) underlying93;have hs:Tryz.prog.stoodInHeld 93=false:=ae;show(do let x<-Op.equalIn (9999+1) _ _ _;pure (Value.bool x):Sem Value).run _ _=_;rw[Op.equalIn];have key:∀x y:Int,(Op.equalIn 9999 2 (.int .i64 x) (.int .i64 y)).run Tryz.prog w= .ok (x==y) w:=wI w 9998;simp[h,hs,kB,key];repeat' split
 all_goals simp_all
theorem oZ(p q:DOp):zG .eql 93 p.ds q.ds (p==q):=by
 refine⟨λx y w=>?_,λw=>N7 p q w⟩;have h:Tryz.prog.eqGuardType Tryz.prog.depth 93=false:=ae;simp[eqGuard,h]
theorem Ho(p q:DEntry)(w:World):(binOp .neq 332 (.agg #[bm p.index,bm p.time,bm p.client,bm p.seq,bm p.op.kind,bm p.op.a,bm p.op.b,bm p.op.c,bm p.op.d]) (.agg #[bm q.index,bm q.time,bm q.client,bm q.seq,bm q.op.kind,bm q.op.a,bm q.op.b,bm q.op.c,bm q.op.d])).run Tryz.prog w= .ok (.bool (!(p==q))) w:=by
 obtain⟨a0,a1,a2,a3,a4⟩:=p;obtain⟨b0,b1,b2,b3,b4⟩:=q;have h:=run_underlying (w:=w) underlying332;have hs:Tryz.prog.stoodInHeld 332=false:=ae;have kop:∀o o':DOp,(Op.equalIn 9999 93 (.agg #[bm o.kind,bm o.a,bm o.b,bm o.c,bm o.d]) (.agg #[bm o'.kind,bm o'.a,bm o'.b,bm o'.c,bm o'.d])).run Tryz.prog w= .ok (o==o') w:=λo o'=>Wr 9997 o o' w;have po:∀(xs:Array Value) (o:DOp),xs.extract 4 9= #[bm o.kind,bm o.a,bm o.b,bm o.c,bm o.d]->(part 93 xs 4).run Tryz.prog w= .ok (.agg #[bm o.kind,bm o.a,bm o.b,bm o.c,bm o.d]) w:=λxs o h=>by
  simp[part,isAgg93,sizeOf93,h]
 show(do let x<-Op.equalIn (9999+1) _ _ _;pure (Value.bool !x):Sem Value).run _ _=_;rw[Op.equalIn];have key:∀x y:Int,(Op.equalIn 9999 2 (.int .i64 x) (.int .i64 y)).run Tryz.prog w= .ok (x==y) w:=wI w 9998;have p1:=po #[bm a0,bm a1,bm a2,bm a3,bm a4.kind,bm a4.a,bm a4.b,bm a4.c,bm a4.d] a4 rfl;have p2:=po #[bm b0,bm b1,bm b2,bm b3,bm b4.kind,bm b4.a,bm b4.b,bm b4.c,bm b4.d] b4 rfl;simp[h,hs,kB,key,kop,p1,p2];repeat' split
 all_goals simp_all
theorem y5(p q:DEntry):zG .neq 332 p.ds q.ds (!(p==q)):=by
 refine⟨λx y w=>?_,λw=>Ho p q w⟩;have h:Tryz.prog.eqGuardType Tryz.prog.depth 332=false:=ae;simp[eqGuard,h]
end
section
open Go.Proofs.Tryz
open Go.ChangeShapes Go.WideShapes Go.RowKit
variable {k:Nat}{α:Type}
def aW:List (List Nat):=bZ [0,0,66,12417,0,0,326,29061,17663105454471]
def aU:List (List Nat):=fB 8 [6486,6482,6484,6493,566,242,404,1133]
theorem mb[DecidableEq α]{a b:List α}(h:¬a.length=b.length):decide (a=b)=false:=decide_eq_false λe=>h (by rw[e])
theorem qM[DecidableEq α]{a b:List α}(h1:k<a.length)(h2:k<b.length)(h:a[k]≠b[k]):decide (a=b)=false:=decide_eq_false λe=>h (by subst e;rfl)
theorem l0[DecidableEq α]{a b:List α}(hl:a.length=b.length)(h:∀(j:Nat) (h1:j<a.length) (h2:j<b.length),a[j]=b[j]):decide (a=b)=true:=decide_eq_true (List.ext_getElem hl h)
theorem jz{a b:List α}(h:∀(j:Nat) (hj:j<k) (h1:j<a.length) (h2:j<b.length),a[j]=b[j])(hk:∀(h1:k<a.length) (h2:k<b.length),a[k]=b[k]):∀(j:Nat) (hj:j<k+1) (h1:j<a.length) (h2:j<b.length),a[j]=b[j]:=by
  intro j hj h1 h2;by_cases hjk:j=k
  · subst hjk;exact hk h1 h2
  · exact h j ac h1 h2
theorem Df(a b:List DMark)(ha:a.length<=9223372036854775806):aM av 427 [.one (.sl (a.map DMark.ds)),.one (.sl (b.map DMark.ds))] (rB (decide (a=b))):=by
  refine pO func427 call427 ntmps427 results427 λS=>?_;conv=>whnf
  repeat'(first|refine awz ?_|refine tB ?_ ?_|(intro h;conv=>whnf))
  · rw[mb ap]
  · have hlen:a.length=b.length:=ap;clear h;refine X5 (λk:Nat=>k<=a.length/\∀(j:Nat) (hj:j<k) (h1:j<a.length) (h2:j<b.length),a[j]=b[j]) (4::5::rg 13 13) (λk=>[(13,vI .i64 (k:Int))]) (λ_=>[]) (λk=>a.length-k) 0 ⟨ac,ac⟩ ?_ X4 (λk hR=>?_)<;>(conv=>whnf)
    · exact whd
    · obtain⟨hk,hall⟩:=hR;repeat'((first|refine awz ?_|refine X9 aN 6 8 aW aU ae ae ae rfl ?_|refine Yc ari (λhlt=>?_)|refine X3 ari ari ?_|refine YF (qn _ _) rfl rfl rfl rfl rfl ?_|refine tB ?_ ?_|intro h)<;>conv=>whnf)
      all_goals first
        |(rw[qM (k:=k) ari ari aq];done)
        | (refine bd.mk ⟨k + 1, ⟨ari, jz hall fun h1 h2 => by simpa using h⟩, ari, ?_, X4⟩
           exact hds)
        | (have hkk : k = a.length := ari
           rw[l0 hlen λj h1 h2=>hall j ac h1 h2])
theorem uC(a b:List DAck)(ha:a.length<=9223372036854775806):aM av 365 [.one (.sl (a.map DAck.ds)),.one (.sl (b.map DAck.ds))] (rB (decide (a=b))):=by
  refine pO func365 call365 ntmps365 results365 λS=>?_;conv=>whnf
  repeat'(first|refine awz ?_|refine tB ?_ ?_|(intro h;conv=>whnf))
  · rw[mb ap]
  · have hlen:a.length=b.length:=ap;clear h;refine X5 (λk:Nat=>k<=a.length/\∀(j:Nat) (hj:j<k) (h1:j<a.length) (h2:j<b.length),a[j]=b[j]) (4::5::rg 13 13) (λk=>[(13,vI .i64 (k:Int))]) (λ_=>[]) (λk=>a.length-k) 0 ⟨ac,ac⟩ ?_ X4 (λk hR=>?_)<;>(conv=>whnf)
    · exact whd
    · obtain⟨hk,hall⟩:=hR;repeat'((first|refine awz ?_|refine X9 aN 6 8 aW aU ae ae ae rfl ?_|refine Yc ari (λhlt=>?_)|refine X3 ari ari ?_|refine YF (ye _ _) rfl rfl rfl rfl rfl ?_|refine tB ?_ ?_|intro h)<;>conv=>whnf)
      all_goals first
        |(rw[qM (k:=k) ari ari aq];done)
        | (refine bd.mk ⟨k + 1, ⟨ari, jz hall fun h1 h2 => by simpa using h⟩, ari, ?_, X4⟩
           exact hds)
        | (have hkk : k = a.length := ari
           rw[l0 hlen λj h1 h2=>hall j ac h1 h2])
theorem zD(a b:List DEntry)(ha:a.length<=9223372036854775806):aM av 436 [.one (.sl (a.map DEntry.ds)),.one (.sl (b.map DEntry.ds))] (rB (decide (a=b))):=by
  refine pO func436 call436 ntmps436 results436 λS=>?_;conv=>whnf
  repeat'(first|refine awz ?_|refine tB ?_ ?_|(intro h;conv=>whnf))
  · rw[mb ap]
  · have hlen:a.length=b.length:=ap;clear h;refine X5 (λk:Nat=>k<=a.length/\∀(j:Nat) (hj:j<k) (h1:j<a.length) (h2:j<b.length),a[j]=b[j]) (4::5::rg 13 13) (λk=>[(13,vI .i64 (k:Int))]) (λ_=>[]) (λk=>a.length-k) 0 ⟨ac,ac⟩ ?_ X4 (λk hR=>?_)<;>(conv=>whnf)
    · exact whd
    · obtain⟨hk,hall⟩:=hR;repeat'((first|refine awz ?_|refine X9 aN 6 8 aW aU ae ae ae rfl ?_|refine Yc ari (λhlt=>?_)|refine X3 ari ari ?_|refine YF (y5 _ _) rfl rfl rfl rfl rfl ?_|refine tB ?_ ?_|intro h)<;>conv=>whnf)
      all_goals first
        |(rw[qM (k:=k) ari ari aq];done)
        | (refine bd.mk ⟨k + 1, ⟨ari, jz hall fun h1 h2 => by simpa using h⟩, ari, ?_, X4⟩
           exact hds)
        | (have hkk : k = a.length := ari
           rw[l0 hlen λj h1 h2=>hall j ac h1 h2])
theorem Dg(a b:List DPair)(ha:a.length<=9223372036854775806):aM av 440 [.one (.sl (a.map DPair.ds)),.one (.sl (b.map DPair.ds))] (rB (decide (a=b))):=by
  refine pO func440 call440 ntmps440 results440 λS=>?_;conv=>whnf
  repeat'(first|refine awz ?_|refine tB ?_ ?_|(intro h;conv=>whnf))
  · rw[mb ap]
  · have hlen:a.length=b.length:=ap;clear h;refine X5 (λk:Nat=>k<=a.length/\∀(j:Nat) (hj:j<k) (h1:j<a.length) (h2:j<b.length),a[j]=b[j]) (4::5::rg 13 13) (λk=>[(13,vI .i64 (k:Int))]) (λ_=>[]) (λk=>a.length-k) 0 ⟨ac,ac⟩ ?_ X4 (λk hR=>?_)<;>(conv=>whnf)
    · exact whd
    · obtain⟨hk,hall⟩:=hR;repeat'((first|refine awz ?_|refine X9 aN 6 8 aW aU ae ae ae rfl ?_|refine Yc ari (λhlt=>?_)|refine X3 ari ari ?_|refine YF (qo _ _) rfl rfl rfl rfl rfl ?_|refine tB ?_ ?_|intro h)<;>conv=>whnf)
      all_goals first
        |(rw[qM (k:=k) ari ari aq];done)
        | (refine bd.mk ⟨k + 1, ⟨ari, jz hall fun h1 h2 => by simpa using h⟩, ari, ?_, X4⟩
           exact hds)
        | (have hkk : k = a.length := ari
           rw[l0 hlen λj h1 h2=>hall j ac h1 h2])
theorem FP(a b:List DJob)(ha:a.length<=9223372036854775806):aM av 441 [.one (.sl (a.map DJob.ds)),.one (.sl (b.map DJob.ds))] (rB (decide (a=b))):=by
  refine pO func441 call441 ntmps441 results441 λS=>?_;conv=>whnf
  repeat'(first|refine awz ?_|refine tB ?_ ?_|(intro h;conv=>whnf))
  · rw[mb ap]
  · have hlen:a.length=b.length:=ap;clear h;refine X5 (λk:Nat=>k<=a.length/\∀(j:Nat) (hj:j<k) (h1:j<a.length) (h2:j<b.length),a[j]=b[j]) (4::5::rg 13 13) (λk=>[(13,vI .i64 (k:Int))]) (λ_=>[]) (λk=>a.length-k) 0 ⟨ac,ac⟩ ?_ X4 (λk hR=>?_)<;>(conv=>whnf)
    · exact whd
    · obtain⟨hk,hall⟩:=hR;repeat'((first|refine awz ?_|refine X9 aN 6 8 aW aU ae ae ae rfl ?_|refine Yc ari (λhlt=>?_)|refine X3 ari ari ?_|refine YF (ug _ _) rfl rfl rfl rfl rfl ?_|refine tB ?_ ?_|intro h)<;>conv=>whnf)
      all_goals first
        |(rw[qM (k:=k) ari ari aq];done)
        | (refine bd.mk ⟨k + 1, ⟨ari, jz hall fun h1 h2 => by simpa using h⟩, ari, ?_, X4⟩
           exact hds)
        | (have hkk : k = a.length := ari
           rw[l0 hlen λj h1 h2=>hall j ac h1 h2])
theorem FM(a b:List DDue)(ha:a.length<=9223372036854775806):aM av 470 [.one (.sl (a.map DDue.ds)),.one (.sl (b.map DDue.ds))] (rB (decide (a=b))):=by
  refine pO func470 call470 ntmps470 results470 λS=>?_;conv=>whnf
  repeat'(first|refine awz ?_|refine tB ?_ ?_|(intro h;conv=>whnf))
  · rw[mb ap]
  · have hlen:a.length=b.length:=ap;clear h;refine X5 (λk:Nat=>k<=a.length/\∀(j:Nat) (hj:j<k) (h1:j<a.length) (h2:j<b.length),a[j]=b[j]) (4::5::rg 13 13) (λk=>[(13,vI .i64 (k:Int))]) (λ_=>[]) (λk=>a.length-k) 0 ⟨ac,ac⟩ ?_ X4 (λk hR=>?_)<;>(conv=>whnf)
    · exact whd
    · obtain⟨hk,hall⟩:=hR;repeat'((first|refine awz ?_|refine X9 aN 6 8 aW aU ae ae ae rfl ?_|refine Yc ari (λhlt=>?_)|refine X3 ari ari ?_|refine YF (Fg _ _) rfl rfl rfl rfl rfl ?_|refine tB ?_ ?_|intro h)<;>conv=>whnf)
      all_goals first
        |(rw[qM (k:=k) ari ari aq];done)
        | (refine bd.mk ⟨k + 1, ⟨ari, jz hall fun h1 h2 => by simpa using h⟩, ari, ?_, X4⟩
           exact hds)
        | (have hkk : k = a.length := ari
           rw[l0 hlen λj h1 h2=>hall j ac h1 h2])
theorem FO(a b:List Int)(ha:a.length<=9223372036854775806):aM av 472 [.one (.sl (a.map eI)),.one (.sl (b.map eI))] (rB (decide (a=b))):=by
  refine pO func472 call472 ntmps472 results472 λS=>?_;conv=>whnf
  repeat'(first|refine awz ?_|refine tB ?_ ?_|(intro h;conv=>whnf))
  · rw[mb ap]
  · have hlen:a.length=b.length:=ap;clear h;refine X5 (λk:Nat=>k<=a.length/\∀(j:Nat) (hj:j<k) (h1:j<a.length) (h2:j<b.length),a[j]=b[j]) (4::5::rg 13 13) (λk=>[(13,vI .i64 (k:Int))]) (λ_=>[]) (λk=>a.length-k) 0 ⟨ac,ac⟩ ?_ X4 (λk hR=>?_)<;>(conv=>whnf)
    · exact whd
    · obtain⟨hk,hall⟩:=hR;repeat'((first|refine awz ?_|refine X9 aN 6 8 aW aU ae ae ae rfl ?_|refine Yc ari (λhlt=>?_)|refine X3 ari ari ?_|refine tB ?_ ?_|intro h)<;>conv=>whnf)
      all_goals first
        |(rw[qM (k:=k) ari ari aq];done)
        | (refine bd.mk ⟨k + 1, ⟨ari, jz hall fun h1 h2 => by simpa using h⟩, ari, ?_, X4⟩
           exact hds)
        | (have hkk : k = a.length := ari
           rw[l0 hlen λj h1 h2=>hall j ac h1 h2])
theorem od(a b:List DMark)(ha:a.length<=9223372036854775806):aM av 218 [.one (.sl (a.map DMark.ds)),.one (.sl (b.map DMark.ds))] (rB (decide (a=b))):=by
  refine pO func218 call218 ntmps218 results218 λS=>?_;conv=>whnf
  repeat'(first|refine awz ?_|refine tB ?_ ?_|(intro h;conv=>whnf))
  · rw[mb ap]
  · have hlen:a.length=b.length:=ap;clear h;refine X5 (λk:Nat=>k<=a.length/\∀(j:Nat) (hj:j<k) (h1:j<a.length) (h2:j<b.length),a[j]=b[j]) (4::5::rg 11 15) (λk=>[(5,vI .i64 (k:Int))]) (λ_=>[]) (λk=>a.length-k) 0 ⟨ac,ac⟩ ?_ X4 (λk hR=>?_)<;>(conv=>whnf)
    · exact whd
    · obtain⟨hk,hall⟩:=hR;repeat'((first|refine awz ?_|refine X9 aN 6 8 aW aU ae ae ae rfl ?_|refine Yc ari (λhlt=>?_)|refine X3 ari ari ?_|refine YF (qn _ _) rfl rfl rfl rfl rfl ?_|refine tB ?_ ?_|intro h)<;>conv=>whnf)
      all_goals first
        |(rw[qM (k:=k) ari ari aq];done)
        | (refine bd.mk ⟨k + 1, ⟨ari, jz hall fun h1 h2 => by simpa using h⟩, ari, ?_, X4⟩
           exact hds)
        | (have hkk : k = a.length := ari
           rw[l0 hlen λj h1 h2=>hall j ac h1 h2])
theorem gY(a b:List DMark)(ha:a.length<=9223372036854775806):aM av 362 [.one (.sl (a.map DMark.ds)),.one (.sl (b.map DMark.ds))] (rB (decide (a=b))):=by
  refine pO func362 call362 ntmps362 results362 λS=>?_;conv=>whnf
  repeat'(first|refine awz ?_|(refine cP (Df a b ha) ?_;conv=>whnf)|exact rr|fail)
theorem mY(a b:List Int)(ha:a.length<=9223372036854775806):aM av 433 [.one (dIs a),.one (dIs b)] (rB (decide (a=b))):=by
  refine pO func433 call433 ntmps433 results433 λS=>?_;conv=>whnf
  repeat'(first|refine awz ?_|(refine cP (FO a b ha) ?_;conv=>whnf)|exact rr|fail)
theorem w3(x y:DWrite)(hx:x.row.length<=9223372036854775806):aM av 435 [.agg x.ds,.agg y.ds] (rB (decide (x=y))):=by
  obtain⟨a,r⟩:=x;obtain⟨b,q⟩:=y;refine pO func435 call435 ntmps435 results435 λS=>?_;conv=>whnf
  repeat'((first|refine awz ?_|refine cP (mY r q hx) ?_|refine tB ?_ ?_|intro h)<;>conv=>whnf)
  all_goals
    refine congrArg (λb=>AP.val (AP1.one (dB b))) ?_;simp_all[DWrite.mk.injEq]
theorem Dh(a b:List (List Int))(ha:a.length<=9223372036854775806)(hr:∀y∈a,y.length<=9223372036854775806):aM av 432 [.one (.sl (a.map bM)),.one (.sl (b.map bM)),.one (.pv (.func (.func 433) #[] #[]))] (rB (decide (a=b))):=by
  refine pO func432 call432 ntmps432 results432 λS=>?_;conv=>whnf
  repeat'(first|refine awz ?_|refine tB ?_ ?_|(intro h;conv=>whnf))
  · rw[mb ap]
  · have hlen:a.length=b.length:=ap;clear h;refine X5 (λk:Nat=>k<=a.length/\∀(j:Nat) (hj:j<k) (h1:j<a.length) (h2:j<b.length),a[j]=b[j]) (6::7::8::9::rg 17 15) (λk=>[(17,vI .i64 (k:Int))]) (λ_=>[]) (λk=>a.length-k) 0 ⟨ac,ac⟩ ?_ X4 (λk hR=>?_)<;>(conv=>whnf)
    · exact whd
    · obtain⟨hk,hall⟩:=hR;repeat'((first|refine awz ?_|refine Yc ari (λhlt=>?_)|refine X3 ari ari ?_|refine cP (mY _ _ (hr _ (List.getElem_mem ari))) ?_|refine tB ?_ ?_|intro h)<;>conv=>whnf)
      all_goals first
        |(rw[qM (k:=k) ari ari aq];done)
        | (refine bd.mk ⟨k + 1, ⟨ari, jz hall fun h1 h2 => by simpa using h⟩, ari, ?_, X4⟩
           exact hds)
        | (have hkk : k = a.length := ari
           rw[l0 hlen λj h1 h2=>hall j ac h1 h2])
theorem xz(a b:List (DWrite))(ha:a.length<=9223372036854775806)(hr:∀y∈a,y.row.length<=9223372036854775806):aM av 434 [.one (.sl (a.map DWrite.ds)),.one (.sl (b.map DWrite.ds)),.one (.pv (.func (.func 435) #[] #[]))] (rB (decide (a=b))):=by
  refine pO func434 call434 ntmps434 results434 λS=>?_;conv=>whnf
  repeat'(first|refine awz ?_|refine tB ?_ ?_|(intro h;conv=>whnf))
  · rw[mb ap]
  · have hlen:a.length=b.length:=ap;clear h;refine X5 (λk:Nat=>k<=a.length/\∀(j:Nat) (hj:j<k) (h1:j<a.length) (h2:j<b.length),a[j]=b[j]) (6::7::8::9::rg 17 15) (λk=>[(17,vI .i64 (k:Int))]) (λ_=>[]) (λk=>a.length-k) 0 ⟨ac,ac⟩ ?_ X4 (λk hR=>?_)<;>(conv=>whnf)
    · exact whd
    · obtain⟨hk,hall⟩:=hR;repeat'((first|refine awz ?_|refine Yc ari (λhlt=>?_)|refine X3 ari ari ?_|refine cP (w3 _ _ (hr _ (List.getElem_mem ari))) ?_|refine tB ?_ ?_|intro h)<;>conv=>whnf)
      all_goals first
        |(rw[qM (k:=k) ari ari aq];done)
        | (refine bd.mk ⟨k + 1, ⟨ari, jz hall fun h1 h2 => by simpa using h⟩, ari, ?_, X4⟩
           exact hds)
        | (have hkk : k = a.length := ari
           rw[l0 hlen λj h1 h2=>hall j ac h1 h2])
end
section
open Go.ChangeShapes Go.WideShapes Go.RowKit
variable {d:DDisk}{t:DTwo}{l m:List Int}
def qH(s x:Int):Int:=(131*s+x+1).tmod 999999937
def lT(l:List Int):Int:=l.foldl qH 7
theorem Km{s x:Int}(hs:0<=s/\s<=999999936)(hx:0<=x/\x<=1000000000):0<=qH s x/\qH s x<=999999936:=by
 unfold qH;rw[Int.tmod_eq_emod_of_nonneg ac];omega
theorem gZ(h:cE l=true):l.length<=48/\∀x∈l,0<=x/\x<=1000000000:=by
 simp only[cE,aK,and_eq_true,decide_eq_true_eq,List.all_eq_true]at h;exact h
theorem CP(h:l.length<=48/\∀x∈l,0<=x/\x<=1000000000):cE l=true:=by
 simp only[cE,aK,and_eq_true,decide_eq_true_eq,List.all_eq_true];exact h
theorem yk(h:cE l=true)(hl:m.length<=l.length)(hs:∀x∈m,x∈l):cE m=true:=by
 obtain⟨h1,h2⟩:=gZ h;exact CP ⟨ac,λx hx=>h2 x (hs x hx)⟩
theorem pE(h:∀x∈l,0<=x/\x<=1000000000):∀k,k<=l.length->0<=lT (l.take k)/\lT (l.take k)<=999999936
 |0,_=>by simp[lT]
 |k+1,hk=>by
  have ih:=pE h k ac;have hlt:k<l.length:=ac;have e:l.take (k+1)=l.take k++[l[k]]:=by rw[List.take_add_one,List.getElem?_eq_getElem hlt];rfl
  rw[e,lT,List.foldl_append];exact Km ih (h _ (List.getElem_mem hlt))
theorem FZ{k:Nat}(hlt:k<l.length):lT (l.take (k+1))=qH (lT (l.take k)) l[k]:=by
 have e:l.take (k+1)=l.take k++[l[k]]:=by rw[List.take_add_one,List.getElem?_eq_getElem hlt];rfl
 rw[e,lT,List.foldl_append];rfl
theorem Rd(h:cE l=true):0<=lT l/\lT l<=999999936:=by
 have:=pE (gZ h).2 l.length (Nat.le_refl _);rwa[List.take_length]at this
def iL(l:List Int):List Int:=l++[lT l]
theorem Dy(h:cE l=true)(hl:l.length<48):cE (l++[lT l])=true:=by
 obtain⟨_,h2⟩:=gZ h;have h3:=Rd h;refine CP ⟨by simp;omega,λx hx=>?_⟩;rcases List.mem_append.1 hx with hx|hx
 ·exact h2 x hx
 ·rw[List.mem_singleton.1 hx];omega
def iW(l:List Int):Option (List Int):=if cE l&& !l.isEmpty&&lT l.dropLast==l.getLastD 0 then some l.dropLast else none
theorem Eb(h:cE l=true)(hl:l.length<48):iW (iL l)=some l:=by
 have h1:=Dy h hl;unfold iW iL;simp[h1]
theorem nE(h:iW l=some m):cE m=true/\m.length<48/\l=iL m:=by
 unfold iW at h;split at h
 ·rename_i hc;simp only[and_eq_true,beq_iff_eq]at hc;obtain⟨⟨h1,h2⟩,h3⟩:=hc;injection h with h
  subst h;have hne:l≠ []:=by intro e;simp[e]at h2
  obtain⟨h4,h5⟩:=gZ h1;have hpos:0<l.length:=List.length_pos_iff.2 hne;refine⟨yk h1 aj (λx hx=>List.dropLast_subset _ hx),by simp;omega,?_⟩;unfold iL;rw[h3,List.getLastD_eq_getLast?,List.getLast?_eq_some_getLast hne];exact(List.dropLast_concat_getLast hne).symm
 ·cases h
theorem dc(h:cG d=true):1<=d.kept.length/\d.kept.length<=40/\d.wait.length<=60/\(∀y∈d.kept,cE y=true)/\∀y∈d.wait,fy d.kept.length y=true:=by
 simp only[cG,and_eq_true,decide_eq_true_eq,List.all_eq_true]at h;exact⟨h.1.1.1.1,h.1.1.1.2,h.1.1.2,h.1.2,h.2⟩
theorem EI(h:1<=d.kept.length/\d.kept.length<=40/\d.wait.length<=60/\(∀y∈d.kept,cE y=true)/\∀y∈d.wait,fy d.kept.length y=true):cG d=true:=by
 simp only[cG,and_eq_true,decide_eq_true_eq,List.all_eq_true];exact⟨⟨⟨⟨h.1,h.2.1⟩,h.2.2.1⟩,h.2.2.2.1⟩,h.2.2.2.2⟩
theorem gC{n:Nat}{y:DWrite}(h:fy n y=true):(0<=y.at_/\y.at_<=(n:Int)-1)/\cE y.row=true:=by
 simp only[fy,aK,and_eq_true,decide_eq_true_eq]at h;exact h
theorem dM(h:cE l=true):l.length<=48:=(gZ h).1
theorem dT(h:cG d=true):Yp 1048576 d:=by
 obtain⟨h1,h2,h3,h4,h5⟩:=dc h;exact⟨ac,λy hy=>by have:=dM (h4 y hy);omega,ac,λy hy=>by
  have:=dM (gC (h5 y hy)).2;show y.row.length<=1048576;omega⟩
def nG(d:DDisk)(a:Int)(r:List Int):DDisk:=⟨d.kept,d.wait++[⟨a,r⟩]⟩
theorem GO{a:Int}{r:List Int}(h:cG d=true)(hw:d.wait.length<60)(ha:aK a 0 ((d.kept.length:Int)-1)=true)(hr:cE r=true):cG (nG d a r)=true:=by
 obtain⟨h1,h2,h3,h4,h5⟩:=dc h;refine EI ⟨h1,h2,by simp[nG];omega,h4,λy hy=>?_⟩;simp only[nG,List.mem_append,List.mem_singleton]at hy;rcases hy with hy|rfl
 ·exact h5 y hy
 ·simp[fy,nG,ha,hr]
def SJ(k:List (List Int))(x:DWrite):List (List Int):=k.set x.at_.toNat x.row
def o3(k:List (List Int))(l:List DWrite):List (List Int):=l.foldl SJ k
def lE(d:DDisk):DDisk:=⟨o3 d.kept d.wait,[]⟩
theorem i6(l:List DWrite):∀k:List (List Int),(o3 k l).length=k.length:=by
 induction l with
 |nil=>intro k;rfl
 |cons x r ih=>intro k;show(o3 (SJ k x) r).length=_;rw[ih];simp[SJ]
theorem BC{k:List (List Int)}{l:List DWrite}{j:Nat}(h:j<l.length):o3 k (l.take (j+1))=(o3 k (l.take j)).set l[j].at_.toNat l[j].row:=by
 have e:l.take (j+1)=l.take j++[l[j]]:=by rw[List.take_add_one,List.getElem?_eq_getElem h];rfl
 rw[e,o3,List.foldl_append];rfl
theorem Ls{l:List DWrite}:∀{k:List (List Int)},(∀y∈k,cE y=true)->(∀y∈l,cE y.row=true)->∀y∈o3 k l,cE y=true:=by
 induction l with
 |nil=>intro k h _;exact h
 |cons x r ih=>
  intro k h hl;refine ih (k:=SJ k x) (λy hy=>?_) (λy hy=>hl y (List.mem_cons_of_mem _ hy));rcases List.mem_or_eq_of_mem_set hy with hy|rfl
  ·exact h y hy
  ·exact hl x (List.mem_cons_self ..)
theorem sB(h:cG d=true):cG (lE d)=true:=by
 obtain⟨h1,h2,h3,h4,h5⟩:=dc h;exact EI ⟨by rw[lE,i6];exact h1,by rw[lE,i6];exact h2,by simp[lE],Ls h4 λy hy=>(gC (h5 y hy)).2,by simp[lE]⟩
theorem hE(h:j4 t=true):cG t.a=true/\cG t.b=true/\t.a.kept.length=t.b.kept.length:=by
 simp only[j4,and_eq_true,decide_eq_true_eq]at h;exact⟨h.1.1,h.1.2,h.2⟩
theorem RD(h:cG t.a=true/\cG t.b=true/\t.a.kept.length=t.b.kept.length):j4 t=true:=by
 simp only[j4,and_eq_true,decide_eq_true_eq];exact⟨⟨h.1,h.2.1⟩,h.2.2⟩
def yG(t:DTwo):DTwo:=⟨lE t.a,lE t.b⟩
theorem PX(h:j4 t=true):j4 (yG t)=true:=by
 obtain⟨f1,f2,f3⟩:=hE h;exact RD ⟨sB f1,sB f2,by simp[yG,lE,i6,f3]⟩
def zl(k:List (List Int))(l:List DWrite)(a:Int):List Int:=match l.reverse.find? λw=>w.at_==a with|some w=>w.row|none=>k.getD a.toNat []
def pn(d:DDisk)(a:Int):List Int:=zl d.kept d.wait a
theorem JT(h:cG d=true)(a:Int):cE (pn d a)=true:=by
 obtain⟨_,_,_,h4,h5⟩:=dc h;unfold pn zl;split
 ·rename_i w e;have:=List.mem_of_find?_eq_some e;exact(gC (h5 w (List.mem_reverse.1 this))).2
 ·rw[List.getD_eq_getElem?_getD];cases e:d.kept[a.toNat]? with
  |none=>rfl
  |some r=>exact h4 r (List.mem_of_getElem? e)
end
end Go.Proofs.YtknefkdcokgpbaaGreat
