/- J02 -/
import Derived.Test.YtnlhpdbijmnkhaaGreatDoorAvJ3
import Derived.OpenShut
import Derived.OrdersHeld
set_option linter.unusedVariables false
set_option linter.unusedSimpArgs false
set_option maxRecDepth 100000
namespace Go.Proofs.YtnlhpdbijmnkhaaGreatDoor
open Go.RowKit
structure Cps {α:Type} (F:(α->Prop)->Prop):Prop where
 mono:∀{P Q:α->Prop},(∀x,P x->Q x)->F P->F Q
 dj:∀{K:α->Prop},F K->∃x,K x/\F (· =x)
section
variable {α β γ:Type}
theorem Cps.ret(x:α):Cps λK:α->Prop=>K x:=⟨λh hp=>h x hp,λh=>⟨x,h,rfl⟩⟩
theorem Cps.no:Cps λ_:α->Prop=>False:=⟨λ_ h=>h,λh=>h.elim⟩
theorem Cps.bind{G:(β->Prop)->Prop}{H:β->(α->Prop)->Prop}(hg:Cps G)(hh:∀y,Cps (H y)):Cps λK=>G λy=>H y K:=
 ⟨λh hp=>hg.mono (λy=>(hh y).mono h) hp,λhk=>by
  obtain⟨y,hy,g⟩:=hg.dj hk
  obtain⟨x,hx,e⟩:=(hh y).dj hy
  exact⟨x,hx,hg.mono (λy' e'=>by subst e';exact e) g⟩⟩
theorem Cps.map{G:(β->Prop)->Prop}(hg:Cps G)(f:β->α):Cps λK=>G λy=>K (f y):=hg.bind λy=>Cps.ret (f y)
theorem Cps.and{F:(α->Prop)->Prop}(p:Prop)(hf:Cps F):Cps λK=>p/\F K:=
 ⟨λh hp=>⟨hp.1,hf.mono h hp.2⟩,λhk=>by obtain⟨x,hx,e⟩:=hf.dj hk.2;exact⟨x,hx,hk.1,e⟩⟩
theorem Cps.ex{F:β->(α->Prop)->Prop}(hf:∀y,Cps (F y)):Cps λK=>∃y,F y K:=
 ⟨λh ⟨y,hp⟩=>⟨y,(hf y).mono h hp⟩,fun⟨y,hk⟩=>by obtain⟨x,hx,e⟩:=(hf y).dj hk;exact⟨x,hx,y,e⟩⟩
theorem Cps.ab{F G:(α->Prop)->Prop}(p:Bool)(hf:Cps F)(hg:Cps G):Cps λK=>AB p (F K) (G K):=by
 cases p with
 |true=>exact⟨λh hp=>AB.tt (hf.mono h (hp.t rfl)),λhk=>by obtain⟨x,hx,e⟩:=hf.dj (hk.t rfl);exact⟨x,hx,AB.tt e⟩⟩
 |false=>exact⟨λh hp=>AB.ff (hg.mono h (hp.f rfl)),λhk=>by obtain⟨x,hx,e⟩:=hg.dj (hk.f rfl);exact⟨x,hx,AB.ff e⟩⟩
theorem Cps.aw(k:IntKind)(n:Int){F:Int->(α->Prop)->Prop}(hf:∀c,Cps (F c)):Cps λK=>AW k n λc=>F c K:=
 ⟨λh ⟨⟨c,e,hp⟩⟩=>⟨⟨c,e,(hf c).mono h hp⟩⟩,fun⟨⟨c,e,hk⟩⟩=>by obtain⟨x,hx,g⟩:=(hf c).dj hk;exact⟨x,hx,⟨⟨c,e,g⟩⟩⟩⟩
theorem Cps.aix(xs:List (List AD))(n:Int){F:Nat->List AD->(α->Prop)->Prop}(hf:∀k x,Cps (F k x)):Cps λK=>AIx xs n λk x=>F k x K:=
 ⟨λh ⟨⟨k,x,e1,e2,hp⟩⟩=>⟨⟨k,x,e1,e2,(hf k x).mono h hp⟩⟩,fun⟨⟨k,x,e1,e2,hk⟩⟩=>by obtain⟨y,hy,g⟩:=(hf k x).dj hk;exact⟨y,hy,⟨⟨k,x,e1,e2,g⟩⟩⟩⟩
theorem Cps.of{F G:(α->Prop)->Prop}(h:∀K,F K=G K)(hg:Cps G):Cps F:=by
 have:F=G:=funext h
 rw[this];exact hg
end
section
variable {E:aE} {st:ASt}
theorem zk:∀(l:List AV) (n:Nat),Cps (aTm l n)
 |[],_=>Cps.no
 |x::_,0=>Cps.ret x
 |_::r,n+1=>zk r n
theorem pA:∀(l:List (Nat×AO)) (i:Nat),Cps (aOb l i)
 |[],_=>Cps.no
 |(k,o)::r,i=>by
  refine Cps.of (G:=λK=>match Nat.beq k i with|true=>K o|false=>aOb r i K) (λK=>rfl) ?_
  cases Nat.beq k i with
  |true=>exact Cps.ret o
  |false=>exact pA r i
theorem kv{α:Type}:∀(l:List α) (n:Nat),Cps (g8 l n)
 |[],_=>Cps.no
 |x::_,0=>Cps.ret x
 |_::r,n+1=>kv r n
theorem g6{α:Type}:∀(l:List α) (n:Nat),Cps (m3 l n)
 |l,0=>by refine Cps.of (G:=λK=>K l) (λK=>by cases l<;>rfl) (Cps.ret l)
 |[],n+1=>Cps.no
 |_::r,n+1=>g6 r n
theorem tx{α:Type}:∀(n:Nat) (l:List α),Cps (zj l n)
 |0,l=>by refine Cps.of (G:=λK=>K []) (λK=>by cases l<;>rfl) (Cps.ret [])
 |n+1,[]=>Cps.no
 |n+1,x::r=>(tx n r).map λr'=>x::r'
theorem lH:∀(l:List AD),Cps (oM l)
 |[]=>Cps.ret []
 |x::r=>(lH r).map λr'=>AC.d x::r'
theorem bI(T:TT)(t:TypeId):Cps (aTI T t):=by
 unfold aTI
 cases T.get t with
 |some i=>exact Cps.ret i
 |none=>exact Cps.no
theorem qo(v:Value):Cps (uM v):=Cps.of (G:=λK=>K (ofC v)) (λK=>by unfold uM ofC;split<;>rfl) (Cps.ret _)
theorem qq:∀l:List Value,Cps (zY l)
 |[]=>Cps.ret []
 |v::r=>(qo v).bind λc=>(qq r).map λr'=>c::r'
theorem bH(x:Operand):Cps (aEv st x):=by
 cases x with
 |tmp t=>exact zk _ _
 |const v=>
  by_cases hv:∃cs,v= .agg cs
  ·obtain⟨cs,rfl⟩:=hv
   exact(qq cs.toList).map AV.agg
  ·have key:∀K,aEv st (.const v) K=uM v λc=>K (AV.one c):=λK=>by
    cases v<;>first|rfl|exact absurd ⟨_,rfl⟩ hv
   exact Cps.of key ((qo v).map AV.one)
 |func f=>exact Cps.ret _
 |global g=>exact Cps.no
theorem m4:∀xs:List Operand,Cps (uI st xs)
 |[]=>Cps.ret []
 |x::r=>(bH x).bind λv=>(m4 r).map λr'=>v::r'
theorem nc(i:TI)(cs:List AC):Cps (kz i cs):=by
 unfold kz
 cases i.agg with
 |true=>exact(tx _ _).map AV.agg
 |false=>
  cases cs with
  |nil=>exact Cps.no
  |cons c r=>exact Cps.ret _
theorem na:∀l:List AC,Cps (ye l)
 |[]=>Cps.ret []
 |c::r=>by
  cases c with
  |d x=>exact(na r).map λr'=>x::r'
  |nil=>exact(na r).map λr'=>AD.sl []::r'
  |_=>exact Cps.no
theorem zV(op:BinOp)(k:IntKind)(a b:Int):Cps (vR op k a b):=by
 cases op with
 |add=>exact Cps.aw _ _ λc=>Cps.ret _
 |sub=>exact Cps.aw _ _ λc=>Cps.ret _
 |mul=>exact Cps.aw _ _ λc=>Cps.ret _
 |quo=>exact Cps.and _ (Cps.aw _ _ λc=>Cps.ret _)
 |rem=>exact Cps.and _ (Cps.ret _)
 |shr=>
  refine Cps.of (G:=λK=>match decide (0<=b)with|true=>K (vI k (AY k a b))|false=>False) (λK=>rfl) ?_
  cases decide (0<=b)with
  |true=>exact Cps.ret _
  |false=>exact Cps.no
 |_=>first|exact Cps.ret _|exact Cps.no
theorem tv(op:BinOp)(a b:ByteArray):Cps (zi op a b):=by
 cases op with
 |add=>exact Cps.and _ (Cps.ret _)
 |_=>first|exact Cps.ret _|exact Cps.no
theorem xV(op:BinOp)(a b:Bool):Cps (uG op a b):=by
 cases op with
 |_=>first|exact Cps.ret _|exact Cps.no
theorem tr(op:BinOp)(k k':IntKind)(a b:Int):Cps (λK=>match uP k k' with|true=>vR op k a b K|false=>False):=by
 cases uP k k' with
 |true=>exact zV ..
 |false=>exact Cps.no
theorem pZ(op:BinOp)(t:TypeId)(a b:Bool):Cps (λK=>aTI E.T t λi=>match i.kind with| .bool=>uG op a b K|_=>False):=
 (bI _ _).bind λi=>by
  cases i.kind with
  |bool=>exact xV ..
  |_=>exact Cps.no
theorem Bq{α:Type}(f:AV->α)(op:BinOp)(t:TypeId)(x y:AV){F:(α->Prop)->Prop}(hF:Cps F):Cps λK=>zQ E op t x y (F K) λv=>K (f v):=by
 refine⟨fun{P Q} hpq h=>?_,fun{K} h=>?_⟩<;>unfold zQ at h⊢<;>split at h
 all_goals first
  |exact hF.mono hpq h
  |exact hF.dj h
  |exact((tr ..).map f).mono hpq h
  |exact((tr ..).map f).dj h
  |exact((tv ..).map f).mono hpq h
  |exact((tv ..).map f).dj h
  |exact((pZ ..).map f).mono hpq h
  |exact((pZ ..).map f).dj h
theorem pQ{α:Type}(f:AV->α)(o:Oper):Cps λK=>sG E o st λv=>K (f v):=
 ⟨λhpq h=>by obtain⟨v,hk,hr⟩:=h.h;exact⟨v,hpq _ hk,hr⟩,λh=>by obtain⟨v,hk,hr⟩:=h.h;exact⟨_,hk,⟨v,rfl,hr⟩⟩⟩
theorem C2(op:UnOp)(x:AV):Cps (aUn op x False):=by
 refine⟨fun{P Q} hpq h=>?_,fun{K} h=>?_⟩<;>unfold aUn at h⊢<;>split at h
 all_goals first
  |exact h.elim
  |exact(Cps.ret _).mono hpq h
  |exact(Cps.ret _).dj h
  |exact(Cps.aw _ _ λc=>Cps.ret _).mono hpq h
  |exact(Cps.aw _ _ λc=>Cps.ret _).dj h
theorem dq{α:Type}(b:Bool){F:(α->Prop)->Prop}(hf:Cps F):Cps λK=>match(generalizing:=false) b with|true=>F K|false=>False:=by
 cases b with
 |true=>exact hf
 |false=>exact Cps.no
theorem zU(s d:TypeId)(x:AV):Cps (td E s d x False):=by
 refine⟨fun{P Q} hpq h=>?_,fun{K} h=>?_⟩<;>unfold td at h⊢<;>split at h
 all_goals first
  |exact h.elim
  |skip
 ·rename_i k n
  exact((bI E.T s).bind λ_=>(bI E.T d).bind (H:=λi K=>match i.kind with| .int k=>AW k n λc=>K (vI k c)|_=>False) λi=>by
   cases i.kind with
   |int k=>exact Cps.aw _ _ λc=>Cps.ret _
   |_=>exact Cps.no).mono hpq h
 ·rename_i k n
  exact((bI E.T s).bind λ_=>(bI E.T d).bind (H:=λi K=>match i.kind with| .int k=>AW k n λc=>K (vI k c)|_=>False) λi=>by
   cases i.kind with
   |int k=>exact Cps.aw _ _ λc=>Cps.ret _
   |_=>exact Cps.no).dj h
theorem qe(t:TypeId)(x:AV)(f:Nat):Cps (eN E t x f):=by
 unfold eN
 refine(bI _ _).bind λi=>?_
 cases i.kind with
 |st fs=>
  refine(kv _ _).bind λp=>(bI _ _).bind λj=>?_
  cases j.size with
  |zero=>exact Cps.no
  |succ n=>
   cases x with
   |one c=>
    cases c with
    |ref id k s off=>exact Cps.ret _
    |ptr cs=>exact(g6 _ _).bind λr=>Cps.ret _
    |_=>exact Cps.no
   |_=>exact Cps.no
 |_=>exact Cps.no
theorem zX(t:TypeId)(x:AV):Cps (oL E st t x):=by
 unfold oL
 refine(bI _ _).bind λi=>?_
 cases x with
 |one c=>
  cases c with
  |ref id k s off=>
   refine(pA _ _).bind λo=>?_
   cases o with
   |cells u cs=>
    cases k with
    |zero=>exact(g6 _ _).bind λr=>nc _ _
    |succ k=>exact Cps.no
   |row e s' xs=>exact dq _ (Cps.aix _ _ λ_ x=>(g6 _ _).bind λr=>(lH _).bind λr=>nc _ _)
   |frame vs us=>exact Cps.no
   |any Q=>exact Cps.no
   |many P Q=>exact Cps.no
  |ptr cs=>exact(lH _).bind λcs=>nc _ _
  |_=>exact Cps.no
 |_=>exact Cps.no
theorem iL(x:AV):Cps (f6 x):=by
 cases x with
 |one c=>exact dq _ (Cps.ret _)
 |agg cs=>exact dq _ (Cps.ret _)
 |tup vs=>exact Cps.no
theorem tA(z:Value):Cps (ne z):=by
 by_cases hv:∃cs,z= .agg cs
 ·obtain⟨cs,rfl⟩:=hv
  exact(qq cs.toList).bind λl=>dq _ (Cps.ret _)
 ·have key:∀K,ne z K=uM z λc=>match dU [c]with|true=>K [c]|false=>False:=λK=>by
   cases z<;>first|rfl|exact absurd ⟨_,rfl⟩ hv
  exact Cps.of key ((qo z).bind λc=>dq _ (Cps.ret _))
theorem fd:∀(l:List AC) (n:Nat) (xs:List AC),Cps (fO l n xs)
 |l,0,[]=>by refine Cps.of (G:=λK=>K l) (λK=>by cases l<;>rfl) (Cps.ret l)
 |_::r,0,x::xs=>(fd r 0 xs).map λr'=>x::r'
 |c::r,n+1,xs=>by
  refine Cps.of (G:=λK=>fO r n xs λr'=>K (c::r')) (λK=>by cases xs<;>rfl) ((fd r n xs).map λr'=>c::r')
 |[],0,_::_=>Cps.no
 |[],_+1,[]=>Cps.no
 |[],_+1,_::_=>Cps.no
theorem nX{place:Nat->(Nat×Nat->Prop)->Prop}(hp:∀n,Cps (place n)):∀(ps:List (Nat×Operand)) (l:List AC),Cps (vP st place ps l)
 |[],l=>Cps.ret l
 |(i,x)::r,l=>(hp i).bind λp=>(bH x).bind λv=>(iL v).bind λvs=>dq _ ((fd _ _ _).bind λl'=>nX hp r l')
theorem oN:∀fs:List (Nat×TypeId),Cps (pB E fs)
 |[]=>Cps.ret []
 |p::r=>(bI _ _).bind λj=>(oN r).map λq=>(p.1,j.size)::q
theorem xW(t:TypeId)(ps:List (Nat×Operand)):Cps (p5 E st t ps):=by
 unfold p5
 refine(bI _ _).bind λi=>(tA _).bind λz=>?_
 cases i.kind with
 |st fs=>exact(oN _).bind λplaces=>(nX (λn=>kv _ _) _ _).bind λl=>Cps.ret _
 |arr n e=>exact(bI _ _).bind λj=>(nX (λn=>Cps.ret _) _ _).bind λl=>Cps.ret _
 |_=>exact Cps.no
theorem p7(s:Nat):∀(ps:List (Nat×Operand)) (a n:Nat),Cps (fB st s ps a n)
 |[],a,n=>dq _ (Cps.ret [])
 |(i,x)::r,a,n=>dq _ ((bH x).bind λv=>(iL v).bind λvs=>dq _ ((na _).bind λds=>(p7 s r (a+1) n).map λr'=>ds::r'))
theorem yb(x:AV):Cps (kw st x):=by
 cases x with
 |one c=>
  cases c with
  |nil=>exact Cps.ret _
  |d x=>
   cases x with
   |sl xs=>exact Cps.ret _
   |pv v=>exact Cps.no
   |x R=>exact Cps.no
  |own id=>
   refine(pA _ _).bind λo=>?_
   cases o with
   |row _ _ xs=>exact Cps.ret _
   |_=>exact Cps.no
  |_=>exact Cps.no
 |_=>exact Cps.no
theorem Bu(t:TypeId)(x:AV):Cps (x4 E st t x False):=by
 have rest:Cps λK:AV->Prop=>aTI E.T t λi=>match i.kind with| .sl _=>kw st x λxs=>K (vI .i64 xs.length)|_=>False:=
  (bI _ _).bind λi=>by
   cases i.kind with
   |sl e=>exact(yb _).bind λxs=>Cps.ret _
   |_=>exact Cps.no
 by_cases hs:∃s,x= .one (.d (.pv (.string s)))
 ·obtain⟨s,rfl⟩:=hs
  exact(bI E.T t).bind (H:=λi K=>match i.kind with| .str=>K (vI .i64 s.size)|_=>False) λi=>by
   cases i.kind with
   |str=>exact Cps.ret _
   |_=>exact Cps.no
 ·refine Cps.of (λK=>?_) rest
  unfold x4
  split
  ·exact absurd ⟨_,rfl⟩ hs
  ·rfl
theorem qh(t:TypeId)(x i:AV):Cps (eR E st t x i):=by
 refine⟨fun{P Q} hpq h=>?_,fun{K} h=>?_⟩<;>unfold eR at h⊢<;>split at h
 all_goals first
  |exact h.elim
  |skip
 all_goals
  rename_i k n
  have key:Cps λK:AV->Prop=>aTI E.T t λti=>match ti.kind with
   | .sl e=>aTI E.T e λj=>match j.size with
    |0=>False
    |s+1=>match(generalizing:=false) x with
     | .one (.d (.sl xs))=>AIx xs n λ_ x=>match vT x (s+1)with
      |true=>K (.one (.ptr x))
      |false=>False
     | .one (.own id)=>aOb st.ob id λo=>match o with
      | .row _ s' xs=>match Nat.beq (s+1) s' with
       |true=>AIx xs n λk _=>K (.one (.ref id k (s+1) 0))
       |false=>False
      |_=>False
     |_=>False
   |_=>False:=(bI _ _).bind λti=>by
    cases ti.kind with
    |sl e=>
     refine(bI _ _).bind λj=>?_
     cases j.size with
     |zero=>exact Cps.no
     |succ s=>
      cases x with
      |one c=>
       cases c with
       |d x=>
        cases x with
        |sl xs=>exact Cps.aix _ _ λ_ x=>dq _ (Cps.ret _)
        |pv v=>exact Cps.no
        |x R=>exact Cps.no
       |own id=>
        refine(pA _ _).bind λo=>?_
        cases o with
        |row e' s' xs=>exact dq _ (Cps.aix _ _ λk _=>Cps.ret _)
        |_=>exact Cps.no
       |_=>exact Cps.no
      |_=>exact Cps.no
    |_=>exact Cps.no
  first
   |exact key.mono hpq h
   |exact key.dj h
theorem xY(t:TypeId)(x i:AV):Cps (n5 E t x i False):=by
 refine⟨fun{P Q} hpq h=>?_,fun{K} h=>?_⟩<;>unfold n5 at h⊢<;>split at h
 all_goals first
  |exact h.elim
  |skip
 all_goals
  rename_i s k n
  have key:Cps λK:AV->Prop=>aTI E.T t λti=>match ti.kind with
   | .str=>∃(k:Nat) (b:UInt8),n=(k:Int)/\s[k]? =some b/\K (vI .u8 b.toNat)
   |_=>False:=(bI _ _).bind λti=>by
    cases ti.kind with
    |str=>exact Cps.ex λk=>Cps.ex λb=>Cps.and _ (Cps.and _ (Cps.ret _))
    |_=>exact Cps.no
  first
   |exact key.mono hpq h
   |exact key.dj h
theorem p4(x:Option Operand):Cps (p3 st x):=by
 cases x with
 |none=>exact Cps.ret none
 |some x=>
  refine(bH x).bind λv=>?_
  refine⟨fun{P Q} hpq h=>?_,fun{K} h=>?_⟩<;>split at h
  all_goals first
   |exact h.elim
   |exact hpq _ h
   |exact⟨_,h,rfl⟩
theorem m2{α:Type}(len:Nat)(lo hi:Option Int){F:Nat->Nat->(α->Prop)->Prop}(hf:∀l h,Cps (F l h)):Cps λK=>EV len lo hi λl h=>F l h K:=
 Cps.ex λl=>Cps.ex λh=>Cps.and _ (Cps.and _ (Cps.and _ (Cps.and _ (hf l h))))
theorem v6(x:AV)(lo hi:Option Int)(i:TI):Cps λK=>m9 E x lo hi False K i:=by
 refine⟨fun{P Q} hpq h=>?_,fun{K} h=>?_⟩<;>unfold m9 at h⊢<;>split at h
 all_goals first
  |exact h.elim
  |skip
 ·rename_i s
  revert h
  cases i.kind with
  |str=>exact(m2 s.size lo hi λl h=>Cps.ret (vS (s.extract l h))).mono hpq
  |_=>exact λh=>h.elim
 ·rename_i xs
  revert h
  cases i.kind with
  |sl e=>exact((bI E.T e).bind λj=>m2 xs.length lo hi λl h=>Cps.and _ (Cps.ret (AV.one (.d (.sl ((xs.take h).drop l)))))).mono hpq
  |_=>exact λh=>h.elim
 ·rename_i s
  revert h
  cases i.kind with
  |str=>exact(m2 s.size lo hi λl h=>Cps.ret (vS (s.extract l h))).dj
  |_=>exact λh=>h.elim
 ·rename_i xs
  revert h
  cases i.kind with
  |sl e=>exact((bI E.T e).bind λj=>m2 xs.length lo hi λl h=>Cps.and _ (Cps.ret (AV.one (.d (.sl ((xs.take h).drop l)))))).dj
  |_=>exact λh=>h.elim
theorem yc(t:TypeId)(x:AV)(lo hi:Option Operand):Cps (qH E st t x lo hi False):=
 (p4 lo).bind λlo=>(p4 hi).bind λhi=>(bI _ _).bind λi=>v6 x lo hi i
theorem xX(t:TypeId)(x:AV)(f:Nat):Cps (mz E t x f):=by
 cases x with
 |agg cs=>
  refine(bI E.T t).bind (H:=λi K=>match i.kind with| .st fs=>g8 fs f λp=>aTI E.T p.2 λj=>m3 cs p.1 λr=>kz j r K|_=>False) λi=>?_
  cases i.kind with
  |st fs=>exact(kv _ _).bind λp=>(bI _ _).bind λj=>(g6 _ _).bind λr=>nc _ _
  |_=>exact Cps.no
 |_=>exact Cps.no
theorem pP(ob:List (Nat×AO))(f:FuncId)(args:List AV):Cps (ah E ob f args):=
 ⟨λhpq h=>by obtain⟨ps,res,h1,h2,h3⟩:=h.h;exact⟨⟨ps,res,h1,h2,hpq _ h3⟩⟩,λh=>by obtain⟨ps,res,h1,h2,h3⟩:=h.h;exact⟨_,h3,⟨⟨ps,res,h1,h2,rfl⟩⟩⟩⟩
theorem te(d:Option Tmp)(t:TypeId)(cs:List AC):Cps λK:AV×Option AO->Prop=>vO d t cs λv oo=>K (v,oo):=by
 cases d with
 |none=>exact Cps.no
 |some d=>exact dq _ (Cps.ret ((.one (.ref d 0 0 0),some (.cells t cs)):AV×Option AO))
theorem zR{α:Type}(v:AV){F G:(α->Prop)->Prop}(hf:Cps F)(hg:Cps G):Cps λK=>m1 v (F K) (G K):=by
 refine⟨fun{P Q} hpq h=>?_,fun{K} h=>?_⟩<;>unfold m1 at h⊢<;>split at h
 all_goals first
  |exact h.elim
  |exact(Cps.ab _ hf hg).mono hpq h
  |exact(Cps.ab _ hf hg).dj h
theorem Cps.v{G:(AV->Prop)->Prop}(h:Cps G):Cps λK:AV×Option AO->Prop=>G λv=>K (v,none):=h.map λv=>(v,none)
theorem tB(o:Oper):Cps λK:AV×Option AO->Prop=>eK E o st λv oo=>K (v,oo):=by
 obtain⟨dst,op,ty,pos,g,af⟩:=o
 cases op with
 |move x=>exact(bH x).v
 |assign x=>exact(bH x).v
 |pick c a b=>exact(bH c).bind λc=>zR c (bH a).v (bH b).v
 |binOp op t x y z=>exact(bH x).bind λx=>(bH y).bind λy=>Bq (λv=>((v,none):AV×Option AO)) op t x y (pQ (λv=>((v,none):AV×Option AO)) _)
 |unOp op t x=>exact(bH x).bind λx=>(C2 op x).v
 |convert s d x=>exact(bH x).bind λx=>(zU s d x).v
 |fieldAddr t x f=>exact(bH x).bind λx=>(qe t x f).v
 |load t x=>exact(bH x).bind λx=>(zX t x).v
 |build t ps=>exact(xW t ps.toList).v
 |buildSlice t n ps=>
  refine (bI E.T t).bind (H := fun i K => match i.kind with
   | .sl e=>aTI E.T e λj=>match j.size with
    |0=>False
    |s+1=>match Nat.ble (n*(s+1)) 16777216 with
     |true=>fB st (s+1) ps.toList 0 n λxs=>K ((.one (.d (.sl xs)),none):AV×Option AO)
     |false=>False
   |_=>False) λi=>?_
  cases i.kind with
  |sl e=>
   refine(bI _ _).bind λj=>?_
   cases j.size with
   |zero=>exact Cps.no
   |succ s=>exact dq _ ((p7 _ _ _ _).bind λxs=>Cps.ret _)
  |_=>exact Cps.no
 |box t x=>exact(bH x).bind λx=>(iL x).bind λcs=>te dst t cs
 |alloc t=>exact(bI E.T t).bind λi=>(tA _).bind λcs=>te dst t cs
 |slice t x lo hi m=>
  cases m with
  |none=>exact(bH x).bind λx=>(yc t x lo hi).v
  |some m=>exact pQ (λv=>((v,none):AV×Option AO)) _
 |indexAddr t x i=>exact(bH x).bind λx=>(bH i).bind λi=>(qh t x i).v
 |index t x i=>exact(bH x).bind λx=>(bH i).bind λi=>(xY t x i).v
 |field t x f=>exact(bH x).bind λx=>(xX t x f).v
 |extract x i=>
  refine(bH x).bind (H:=λx K=>match x with| .tup vs=>g8 vs i λv=>K ((v,none):AV×Option AO)|_=>False) λx=>?_
  cases x with
  |tup vs=>exact(kv vs i).v
  |_=>exact Cps.no
 |nilCheck x=>
  refine (bH x).bind (H := fun x K => match x with
   | .one (.ref i k s off)=>K ((.one (.ref i k s off),none):AV×Option AO)
   | .one (.ptr cs)=>K (.one (.ptr cs),none)
   |_=>False) λx=>?_
  cases x with
  |one c=>
   cases c with
   |ref i k s off=>exact Cps.ret _
   |ptr cs=>exact Cps.ret _
   |_=>exact Cps.no
  |_=>exact Cps.no
 |call c=>
  obtain⟨cl,args,ts⟩:=c
  cases cl with
  |builtin b=>
   cases b with
   |len=>
    refine(m4 args.toList).bind (H:=λvs K=>match ts.toList,vs with|t::_,[x]=>x4 E st t x False λv=>K ((v,none):AV×Option AO)|_,_=>False) λvs=>?_
    cases ts.toList with
    |nil=>exact Cps.no
    |cons t r=>
     match vs with
     |[]=>exact Cps.no
     |[x]=>exact(Bu t x).v
     |_::_::_=>exact Cps.no
   |_=>exact Cps.no
  |value f=>
   refine (bH f).bind (H := fun f K => match f with
    | .one (.d (.pv (.func (.func f) first caps)))=>match first.toList,caps.toList with
     |[],[]=>uI st args.toList λargs=>ah E st.ob f args λr=>K ((r,none):AV×Option AO)
     |_,_=>False
    |_=>False) λf=>?_
   refine⟨fun{P Q} hpq h=>?_,fun{K} h=>?_⟩<;>split at h
   all_goals first
    |exact h.elim
    |skip
   all_goals
    revert h
    rename_i f first caps
    cases first.toList with
    |cons _ _=>exact λh=>h.elim
    |nil=>
     cases caps.toList with
     |cons _ _=>exact λh=>h.elim
     |nil=>
      first
       |exact((m4 args.toList).bind λvs=>(pP st.ob f vs).v).mono hpq
       |exact((m4 args.toList).bind λvs=>(pP st.ob f vs).v).dj
  |_=>exact Cps.no
 |_=>exact pQ (λv=>((v,none):AV×Option AO)) _
end
theorem tC{E:aE}(he:E.Ok){S:aZ}{o:Oper}{P:ASt}{K:AV->Option AO->Prop}(h:eK E o P K):∃v oo,fL E S o P v oo/\K v oo:=by
 obtain⟨⟨v,oo⟩,hk,e⟩:=(tB (E:=E) (st:=P) o).dj (K:=λp=>K p.1 p.2) h
 have e2:eK E o P λv' oo'=>v'=v/\oo'=oo:=(tB (E:=E) (st:=P) o).mono (P:=λp=>p=(v,oo)) (Q:=λp=>p.1=v/\p.2=oo) (λp hp=>by subst hp;exact⟨rfl,rfl⟩) e
 exact⟨v,oo,mH he e2,hk⟩
end Go.Proofs.YtnlhpdbijmnkhaaGreatDoor
namespace Go.Proofs.YtnlhpdbijmnkhaaGreatDoor
open Go.RowKit
def gy{α:Type}:List α->Nat->α->(List α->Prop)->Prop
 |[],_,_,K=>K []
 |_::r,0,x,K=>K (x::r)
 |y::r,i+1,x,K=>gy r i x λr'=>K (y::r')
theorem eT{α:Type}:∀{l:List α} {i:Nat} {x:α} {K:List α->Prop},gy l i x K->K (l.set i x)
 |[],_,_,_,h=>h
 |_::_,0,_,_,h=>h
 |y::r,i+1,x,K,h=>eT (l:=r) (K:=λr'=>K (y::r')) h
theorem qw{v:AV}{P Q:List AV->Prop}(h:∀l,P l->Q l):∀{l:List AV} {n:Nat},gv l n v P->gv l n v Q
 |[],_,hp=>hp.elim
 |_::r,0,hp=>h _ hp
 |x::r,n+1,hp=>qw (P:=λr'=>P (x::r')) (Q:=λr'=>Q (x::r')) (λl=>h _) (l:=r) (n:=n) hp
def x6:List Nat->List Oper->List (AV×Option AO)->List AV->(List AV->List (Nat×AO)->Prop)->Prop
 |_,[],_,tm,K=>K tm []
 |[],_::_,_,_,_=>False
 |_::_,_::_,[],_,_=>False
 |f::fs,o::ops,r::R,tm,K=>match f with
  |0=>x6 fs ops R tm K
  |1=>match o.dst with
   |none=>False
   |some d=>match r with
    |(v,oo)=>gv tm d v λtm=>match oo with
     |none=>x6 fs ops R tm K
     |some x=>x6 fs ops R tm λtm obs=>K tm ((d,x)::obs)
  |_+2=>match o.dst with
   |none=>False
   |some d=>gv tm d (.one .dead) λtm=>x6 fs ops R tm K
theorem m8{fl:Nat->Nat}:∀(ops:List Oper) (R:List (AV×Option AO)) (j:Nat) (tm:List AV) (K:List AV->List (Nat×AO)->Prop),x6 ((List.range' j ops.length).map fl) ops R tm K->aMk fl ops R j tm K
 |[],R,j,tm,K,h=>by cases R<;>exact h
 |_::_,[],j,tm,K,h=>by rw[List.length_cons,List.range'_succ]at h;exact h.elim
 |o::ops,r::R,j,tm,K,h=>by
  rw[List.length_cons,List.range'_succ,List.map_cons]at h
  unfold x6 at h
  unfold aMk
  cases hf:fl j with
  |zero=>rw[hf]at h;exact m8 ops R (j+1) tm K h
  |succ n=>
   rw[hf]at h
   cases hd:o.dst with
   |none=>rw[hd]at h;cases n<;>exact h.elim
   |some d=>
    rw[hd]at h
    cases n with
    |zero=>
     obtain⟨v,oo⟩:=r
     refine qw ?_ h
     intro tm' h2
     cases oo with
     |none=>exact m8 ops R (j+1) tm' K h2
     |some x=>exact m8 ops R (j+1) tm' _ h2
    |succ n=>exact qw (λtm' h2=>m8 ops R (j+1) tm' K h2) h
def ku(fs:List Nat)(pre:List Oper)(R:List (AV×Option AO))(st:ASt)(K:ASt->Prop):Prop:=
 match st with
 |⟨tm,ob⟩=>x6 fs pre R tm λtm obs=>Bp obs ob λob=>K ⟨tm,ob⟩
theorem oJ{D:List (List Nat)}{pre:List Oper}{R:List (AV×Option AO)}{i:Nat}{st:ASt}{K:ASt->Prop}(h:ku ((List.range pre.length).map (flP D i)) pre R st K):qf D pre R i st K:=by
 obtain⟨tm,ob⟩:=st
 rw[List.range_eq_range']at h
 exact m8 pre R 0 tm _ h
def co(E:aE)(pre:List Oper)(st:ASt):List Oper->List (List Nat)->Nat->List (AV×Option AO)->(List (AV×Option AO)->Prop)->Prop
 |[],_,_,R,K=>K R
 |_::_,[],_,_,_=>False
 |o::ops,fs::FL,i,R,K=>match o.guard with
  |none=>ku fs pre R st λP=>eK E o P λv oo=>gy R i (v,oo) λR=>co E pre st ops FL (i+1) R K
  |some (g,want)=>g8 fs g λf=>match f with
   |1=>g8 R g λrg=>match rg.1 with
    | .one (.d (.pv (.bool p)))=>AB p
     (match want with
      |true=>ku fs pre R st λP=>eK E o P λv oo=>gy R i (v,oo) λR=>co E pre st ops FL (i+1) R K
      |false=>gy R i (.one .und,none) λR=>co E pre st ops FL (i+1) R K)
     (match want with
      |true=>gy R i (.one .und,none) λR=>co E pre st ops FL (i+1) R K
      |false=>ku fs pre R st λP=>eK E o P λv oo=>gy R i (v,oo) λR=>co E pre st ops FL (i+1) R K)
    | .one .und=>gy R i (.one .und,none) λR=>co E pre st ops FL (i+1) R K
    |_=>False
   |_=>False
section
variable {E:aE} {S:aZ} {ops:List Oper} {D:List (List Nat)} {n0:Nat} {st:ASt}
theorem fb{R:List (AV×Option AO)}{i j:Nat}{x:AV×Option AO}(h:j≠i):vAt (R.set i x) j=vAt R j:=by
 unfold vAt
 rw[List.getD_eq_getElem?_getD,List.getD_eq_getElem?_getD,List.getElem?_set_ne (λe=>h e.symm)]
theorem lV{R:List (AV×Option AO)}{i j:Nat}{x:AV×Option AO}(h:j≠i):oAt (R.set i x) j=oAt R j:=by
 unfold oAt
 rw[List.getD_eq_getElem?_getD,List.getD_eq_getElem?_getD,List.getElem?_set_ne (λe=>h e.symm)]
theorem lC{R:List (AV×Option AO)}{i:Nat}{x:AV×Option AO}(h:i<R.length):vAt (R.set i x) i=x.1:=by
 unfold vAt
 rw[List.getD_eq_getElem?_getD,List.getElem?_set_self h];rfl
theorem li{R:List (AV×Option AO)}{i:Nat}{x:AV×Option AO}(h:i<R.length):oAt (R.set i x) i=x.2:=by
 unfold oAt
 rw[List.getD_eq_getElem?_getD,List.getElem?_set_self h];rfl
theorem nP{R R':List (AV×Option AO)}{i:Nat}(h:∀j,inD D j i=true->vAt R j=vAt R' j/\oAt R j=oAt R' j):stP ops D R n0 st i=stP ops D R' n0 st i:=by
 have e1:(List.range n0).filterMap (upP ops D R i)=(List.range n0).filterMap (upP ops D R' i):=lP λj _=>by
  unfold upP
  cases hj:inD D j i with
  |true=>simp[(h j hj).1]
  |false=>simp
 have e2:(List.range n0).filterMap (obF ops R λj=>inD D j i)=(List.range n0).filterMap (obF ops R' λj=>inD D j i):=lP λj _=>by
  unfold obF
  cases hj:inD D j i with
  |true=>simp[(h j hj).2]
  |false=>simp[hj]
 simp only[stP,e1,e2]
theorem yC(T:jA ops D n0){i j:Nat}(hi:i<ops.length)(h:inD D j i=true):j<i:=by
 have:=fj T (lf:=λj=>decide (j<i)) (λk hk e he=>?_) (i:=i) (λe he=>?_) h
 ·simpa using this
 ·have hki:k<i:=by simpa using hk
  rw[aT (List.getElem?_eq_getElem (by omega:k<ops.length))]at he
  have:=T.edge k _ (List.getElem?_eq_getElem Iv) _ he
  simp;omega
 ·rw[aT (List.getElem?_eq_getElem hi)]at he
  have:=T.edge i _ (List.getElem?_eq_getElem hi) _ he
  simpa using this
theorem c6.keep(T:jA ops D n0){R:List (AV×Option AO)}{i k:Nat}{o:Oper}{x:AV×Option AO}(hi:i<k)(hil:i<ops.length)(h:c6 E S D R n0 (stP ops D R n0 st i) i o):c6 E S D (R.set k x) n0 (stP ops D (R.set k x) n0 st i) i o:=by
 have hlt:∀j,inD D j i=true->j≠k:=λj hj e=>by have:=yC T hil hj;omega
 have e:stP ops D (R.set k x) n0 st i=stP ops D R n0 st i:=nP λj hj=>⟨fb (hlt j hj),lV (hlt j hj)⟩
 have e1:vAt (R.set k x) i=vAt R i:=fb Iv
 have e2:oAt (R.set k x) i=oAt R i:=lV Iv
 unfold c6 at h⊢
 rw[e,e1,e2]
 cases hg:o.guard with
 |none=>rw[hg]at h;exact h
 |some gw=>
  obtain⟨g,want⟩:=gw
  rw[hg]at h
  obtain⟨h1,h2,h3⟩:=h
  refine⟨h1,h2,?_⟩
  rw[fb (hlt g h2)]
  exact h3
theorem oT{D:List (List Nat)}{i j:Nat}(h:flP D i j=1):inD D j i=true:=by
 unfold flP at h
 split at h
 ·assumption
 ·split at h
  ·cases h
  ·split at h<;>cases h
theorem tG(he:E.Ok)(T:jA ops D n0){K:List (AV×Option AO)->Prop}:∀(rest:List Oper) (i:Nat) (R:List (AV×Option AO)),(∀k,(ops.take n0)[i+k]? =rest[k]?)->R.length=n0->
  (∀j o,j<i->ops[j]? =some o->c6 E S D R n0 (stP ops D R n0 st j) j o)->co E (ops.take n0) st rest ((List.range' i rest.length).map λi=>(List.range n0).map (flP D i)) i R K->∃RA,K RA/\∀j o,j<n0->ops[j]? =some o->c6 E S D RA n0 (stP ops D RA n0 st j) j o
 |[],i,R,hr,hl,hf,h=>by
  refine⟨R,h,λj o hj ho=>hf j o ?_ ho⟩
  have:=hr 0
  simp only[Nat.add_zero,List.getElem?_nil]at this
  have h2:=List.getElem?_eq_none_iff.1 this
  have:=T.le
  simp at h2
  omega
 |o::rest,i,R,hr,hl,hf,h=>by
  have h0:=hr 0
  simp only[Nat.add_zero,List.getElem?_cons_zero]at h0
  have hi:i<n0:=by
   have:=(List.getElem?_eq_some_iff.1 h0).1
   simp at this
   omega
  have hio:ops[i]? =some o:=by
   rw[List.getElem?_take,if_pos hi]at h0
   exact h0
  have hil:i<ops.length:=(List.getElem?_eq_some_iff.1 hio).1
  have hr':∀k,(ops.take n0)[i+1+k]? =rest[k]? :=λk=>by
   have:=hr (k+1)
   rw[show i+1+k=i+(k+1)by omega]
   simpa using this
  have next:∀x:AV×Option AO,co E (ops.take n0) st rest ((List.range' (i+1) rest.length).map λi=>(List.range n0).map (flP D i)) (i+1) (R.set i x) K->c6 E S D (R.set i x) n0 (stP ops D (R.set i x) n0 st i) i o->∃RA,K RA/\∀j o,j<n0->ops[j]? =some o->c6 E S D RA n0 (stP ops D RA n0 st j) j o:=λx hk hd=>
   tG he T rest (i+1) (R.set i x) hr' (by simpa using hl) (λj o' hj ho'=>by
    rcases Nat.lt_succ_iff_lt_or_eq.1 hj with hj|hj
    ·exact(hf j o' hj ho').keep T hj Iv
    ·subst hj
     rw[hio]at ho'
     injection ho' with ho'
     subst ho'
     exact hd) hk
  have eP:∀x:AV×Option AO,stP ops D (R.set i x) n0 st i=stP ops D R n0 st i:=λx=>nP λj hj=>by
   have:=yC T hil hj
   exact⟨fb Iv,lV Iv⟩
  have free:(ku ((List.range n0).map (flP D i)) (ops.take n0) R st λP=>eK E o P λv oo=>gy R i (v,oo) λR=>co E (ops.take n0) st rest ((List.range' (i+1) rest.length).map λi=>(List.range n0).map (flP D i)) (i+1) R K)->∃x:AV×Option AO,fL E S o (stP ops D R n0 st i) x.1 x.2/\co E (ops.take n0) st rest ((List.range' (i+1) rest.length).map λi=>(List.range n0).map (flP D i)) (i+1) (R.set i x) K:=λh=>by
   have hlen:(ops.take n0).length=n0:=by have:=T.le;simp;omega
   have h1:=lD T.le (oJ (by rw[hlen];exact h))
   obtain⟨v,oo,h2,h3⟩:=tC he h1
   exact⟨(v,oo),h2,eT h3⟩
  rw[List.length_cons,List.range'_succ,List.map_cons]at h
  unfold co at h
  cases hg:o.guard with
  |none=>
   rw[hg]at h
   obtain⟨x,hx,hk⟩:=free h
   refine next x hk ?_
   unfold c6
   rw[hg,eP,lC Iv,li Iv]
   exact hx
  |some gw=>
   obtain⟨g,want⟩:=gw
   rw[hg]at h
   obtain⟨f,hf1,h3⟩:=bS h
   have hf0:f=flP D i g:=by
    rw[List.getElem?_map]at hf1
    obtain⟨g',hg',rfl⟩:=Option.map_eq_some_iff.1 hf1
    have:=List.getElem?_eq_some_iff.1 hg'
    obtain⟨_,e⟩:=this
    simp at e
    rw[e]
   split at h3
   case h_2=>exact h3.elim
   have h1:inD D g i=true:=oT hf0.symm
   obtain⟨rg,hrg,h3⟩:=bS h3
   have hgi:=yC T hil h1
   have hvg:∀x:AV×Option AO,vAt (R.set i x) g=rg.1:=λx=>by
    rw[fb Iv]
    unfold vAt
    rw[List.getD_eq_getElem?_getD,hrg];rfl
   split at h3
   ·rename_i p hp
    have run:(p=want)->(ku ((List.range n0).map (flP D i)) (ops.take n0) R st λP=>eK E o P λv oo=>gy R i (v,oo) λR=>co E (ops.take n0) st rest ((List.range' (i+1) rest.length).map λi=>(List.range n0).map (flP D i)) (i+1) R K)->∃RA,K RA/\∀j o,j<n0->ops[j]? =some o->c6 E S D RA n0 (stP ops D RA n0 st j) j o:=λe h=>by
     obtain⟨x,hx,hk⟩:=free h
     refine next x hk ?_
     unfold c6
     rw[hg,eP,lC Iv,li Iv]
     exact⟨by omega,h1,.inl ⟨p,by rw[hvg,hp],.inl ⟨e,hx⟩⟩⟩
    have skip:(p≠want)->(gy R i (.one .und,none) λR=>co E (ops.take n0) st rest ((List.range' (i+1) rest.length).map λi=>(List.range n0).map (flP D i)) (i+1) R K)->∃RA,K RA/\∀j o,j<n0->ops[j]? =some o->c6 E S D RA n0 (stP ops D RA n0 st j) j o:=λe h=>by
     refine next (.one .und,none) (eT h) ?_
     unfold c6
     rw[hg,eP,lC Iv,li Iv]
     exact⟨by omega,h1,.inl ⟨p,by rw[hvg,hp],.inr ⟨e,rfl,rfl⟩⟩⟩
    cases p with
    |true=>
     have h:=h3.t rfl
     cases want with
     |true=>exact run rfl h
     |false=>exact skip Iy h
    |false=>
     have h:=h3.f rfl
     cases want with
     |true=>exact skip Iy h
     |false=>exact run rfl h
   ·rename_i hp
    refine next (.one .und,none) (eT h3) ?_
    unfold c6
    rw[hg,eP,lC Iv,li Iv]
    exact⟨by omega,h1,.inr ⟨by rw[hvg,hp],rfl,rfl⟩⟩
   ·exact h3.elim
end
theorem AWP.drawF{E:aE}(he:E.Ok){S:aZ}{ops:Array Oper}{K:Exit->ASt->Prop}{id:Nat}{st:ASt}(n0:Nat)(D:List (List Nat))(R:List (AV×Option AO))(T:jA ops.toList D n0)(F:mx E S ops.toList D R n0 st)
  (ht:kr (ops.toList.take n0) R st λst=>l8 E S ops.toList (ops.toList.drop n0) st (K .normal)):AWP E S (.region id ops true) K st:=by
 refine⟨λa w hs=>wp_region_any he.mixed ?_⟩
 have hg:w.grownBy {w with drawn:=w.drawn+1} none:=⟨rfl,rfl,rfl,Nat.le_refl _,λb hb _=>rfl⟩
 refine tH (Q:=λe a' w'=>∃st',ce E.W S st' a' w'/\K e st') he T F (λa w h=>h) ht ops.size (Array.replicate ops.size false) a _ Iy (λj _=>?_) (λj hj=>?_) ?_ ?_
 ·simp[a7,Array.getD_eq_getD_getElem?,Array.getElem?_replicate]
  split<;>rfl
 ·exfalso
  simp[a7,Array.getD_eq_getD_getElem?,Array.getElem?_replicate]at hj
  split at hj<;>simp at hj
 ·have:∀(lf:Nat->Bool) n,fD lf n<=n:=λlf n=>by
   induction n with
   |zero=>exact Nat.le_refl _
   |succ n ih=>simp only[fD];split<;>omega
  exact this _ _
 ·obtain⟨Z,ρ,hs⟩:=hs
  have e:stS ops.toList R n0 st (a7 (Array.replicate ops.size false))=st:=by
   have e1:∀j,a7 (Array.replicate ops.size false) j=false:=λj=>by
    simp[a7,Array.getD_eq_getD_getElem?,Array.getElem?_replicate]
    split<;>rfl
   have e2:(List.range n0).filterMap (upS ops.toList R (a7 (Array.replicate ops.size false)))=[]:=by
    rw[List.filterMap_eq_nil_iff];intro j _;simp[upS,e1]
   have e3:(List.range n0).filterMap (obF ops.toList R (a7 (Array.replicate ops.size false)))=[]:=by
    rw[List.filterMap_eq_nil_iff];intro j _;simp[obF,e1]
   simp[stS,e2,e3,dC]
  rw[e]
  exact⟨Z,ρ,hs.grow hg (λ_ h=>h) λ_ h=> .inl h⟩
def unq:Nat->Nat->List Nat
 |0,_=>[]
 |n+1,x=>match Nat.beq x 0 with
  |true=>[]
  |false=>(x % 64-1)::unq n (x/64)
def cX:List Nat->List (List Nat)
 |[]=>[]
 |x::r=>unq 64 x::cX r
def unp:Nat->Nat->List Nat
 |0,_=>[]
 |n+1,x=>(x % 3)::unp n (x/3)
def dQ(n:Nat):List Nat->List (List Nat)
 |[]=>[]
 |x::r=>unp n x::dQ n r
theorem AWP.drawK{E:aE}(he:E.Ok){S:aZ}{ops:Array Oper}{K:Exit->ASt->Prop}(id:Nat){st:ASt}(n0:Nat)(D FL:List (List Nat))(hD:f8 [] ops.toList=D)(hok:u6 ops.toList D n0=true)(hfl:((List.range n0).map λi=>(List.range n0).map (flP D i))=FL)(hl:vq ops.toList n0 st.tm.length=true)
  (h:co E (ops.toList.take n0) st (ops.toList.take n0) FL 0 (List.replicate n0 (.one .dead,none)) λR=>noB ops.toList D R n0 st=true/\kr (ops.toList.take n0) R st λst=>l8 E S ops.toList (ops.toList.drop n0) st (K .normal)):AWP E S (.region id ops true) K st:=by
 have T:=oP hD hok
 have hlen:(ops.toList.take n0).length=n0:=by have:=T.le;simp at*;omega
 subst hfl
 have e:((List.range n0).map λi=>(List.range n0).map (flP D i))=((List.range' 0 (ops.toList.take n0).length).map λi=>(List.range n0).map (flP D i)):=by rw[hlen,<-List.range_eq_range']
 rw[e]at h
 obtain⟨R,⟨hno,ht⟩,hf⟩:=tG (S:=S) he T (ops.toList.take n0) 0 (List.replicate n0 (.one .dead,none)) (λk=>by simp) Iy (λj o hj=>absurd hj (Nat.not_lt_zero _)) h
 exact AWP.drawF he n0 D R T ⟨zm T hl hno,hf⟩ ht
end Go.Proofs.YtnlhpdbijmnkhaaGreatDoor
namespace Go.Proofs.YtnlhpdbijmnkhaaGreatDoor
open Go.RowKit
theorem vY{i:Nat}{o:AO}:∀{l:List (Nat×AO)} {K:List (Nat×AO)->Prop},K (cm l i o)->de i o l K
 |[],_,h=>h
 |(k,x)::r,K,h=>by
  simp only[de]
  unfold cm at h
  cases e:Nat.beq k i with
  |true=>rw[if_pos (Nat.eq_of_beq_eq_true e)]at h;exact h
  |false=>rw[if_neg (Nat.ne_of_beq_eq_false e)]at h;exact vY (l:=r) (K:=λr'=>K ((k,x)::r')) h
theorem yd{K:AV->Prop}:∀{l:List AV} {n:Nat} {x:AV},l[n]? =some x->K x->aTm l n K
 |[],n,x,h,_=>by simp at h
 |y::r,0,x,h,hk=>by simp at h;subst h;exact hk
 |y::r,n+1,x,h,hk=>yd (l:=r) (n:=n) (by simpa using h) hk
theorem v7{E:aE}{tm:List AV}{ob:List (Nat×AO)}{t:TypeId}{c k s off:Nat}{vv:AV}{o0 o1:AO}(hob:az ob c=some o0)(h:kx E ⟨[],[(c,o0)]⟩ t (.one (.ref c k s off)) vv λst=>st=⟨[],[(c,o1)]⟩):
  kx E ⟨tm,ob⟩ t (.one (.ref c k s off)) vv λst=>st=⟨tm,cm ob c o1⟩:=by
 have fin:∀X:AO,(de c X [(c,o0)] λob=>(⟨[],ob⟩:ASt)=⟨[],[(c,o1)]⟩)->de c X ob λob'=>(⟨tm,ob'⟩:ASt)=⟨tm,cm ob c o1⟩:=λX hX=>by
  have h1:=bZ hX
  simp only[cm,if_true,ASt.mk.injEq,List.cons.injEq,Prod.mk.injEq,true_and,and_true]at h1
  subst h1
  exact vY rfl
 unfold kx at h⊢
 refine(bI E.T t).mono (λi h=>(iL vv).mono (λvs h=>?_) h) h
 cases hl:n6 vs i.size with
 |false=>rw[hl]at h;exact h
 |true=>
  rw[hl]at h
  obtain⟨o,ho,hk⟩:=bw (l:=[(c,o0)]) (i:=c) h
  have:o=o0:=by simp only[az,if_true,Option.some.injEq]at ho;exact ho.symm
  subst this
  refine uL hob ?_
  cases o with
  |cells u cs=>
   cases k with
   |zero=>exact(fd cs off vs).mono (λcs' h=>fin _ h) hk
   |succ k=>exact hk
  |row e s' xs=>
   cases hs:Nat.beq s s' with
   |false=>simp only[hs]at hk
   |true=>
    simp only[hs]at hk⊢
    obtain⟨k',x,e1,e2,hk⟩:=hk.h
    exact⟨⟨k',x,e1,e2,(lH x).mono (λx h=>(fd x off vs).mono (λx' h=>(na x').mono (λx' h=>fin _ h) h) h) hk⟩⟩
  |frame vs us=>exact hk
  |any Q=>exact hk
  |many P Q=>exact hk
structure eh (ops:List Oper) (D:List (List Nat)) (m:Nat):Prop where
 hD:f8 [] ops=D
 lt:m<ops.length
 nd:((List.range m).map (dAt ops)).Nodup
 edge:∀i o,ops[i]? =some o->∀x∈iO o,x<i
 dst:∀i o,i<m->ops[i]? =some o->o.dst=some (dAt ops i)
 tail:∀i,m<i->i<ops.length->∀j,j<i->inD D j i=true
def pD(ops:List Oper)(D:List (List Nat))(m:Nat):Bool:=
 Nat.blt m ops.length&&nodupB ((List.range m).map (dAt ops))&&
 (List.range ops.length).all λi=>match ops[i]? with
  |some o=>((iO o).all λx=>Nat.blt x i)&&(if i<m then o.dst.isSome else(if i=m then true else(List.range i).all λj=>inD D j i))
  |none=>true
theorem nm{ops:List Oper}{D:List (List Nat)}{m:Nat}(hD:f8 [] ops=D)(h:pD ops D m=true):eh ops D m:=by
 simp only[pD,Bool.and_eq_true,List.all_eq_true]at h
 obtain⟨⟨h1,h2⟩,h3⟩:=h
 have key:∀i o,ops[i]? =some o->_:=λi o ho=>by
  have hlt:=(List.getElem?_eq_some_iff.1 ho).1
  have:=h3 i (List.mem_range.2 hlt)
  rw[ho]at this
  simp only[Bool.and_eq_true,List.all_eq_true]at this
  exact this
 refine⟨hD,Nat.le_of_ble_eq_true h1,ov h2,λi o ho e he=>?_,λi o hi ho=>?_,λi hi hlt j hj=>?_⟩
 ·exact Nat.le_of_ble_eq_true ((key i o ho).1 e he)
 ·have:=(key i o ho).2
  rw[if_pos hi]at this
  obtain⟨d,hd⟩:=Option.isSome_iff_exists.1 this
  rw[hd]
  simp[dAt,ho,hd]
 ·have:=(key i ops[i] (List.getElem?_eq_getElem hlt)).2
  rw[if_neg Iv,if_neg Iv,List.all_eq_true]at this
  exact this j (List.mem_range.2 hj)
theorem dr{ops:List Oper}{D:List (List Nat)}{m:Nat}(T:eh ops D m){lf:Nat->Bool}(hc:∀j,lf j=true->∀e∈bU ops j,lf e=true){i:Nat}(hi:∀e∈bU ops i,lf e=true){j:Nat}(hj:inD D j i=true):lf j=true:=by
 have:=gR ops (λj=>lf j=true) hc ops [] (λk=>by simp) (λj hj=>absurd hj (Nat.not_lt_zero _)) i hi j
 rw[T.hD]at this
 refine this ?_
 simpa[inD]using hj
section
variable {E:aE} {S:aZ} {ops:List Oper} {D:List (List Nat)} {R:List (AV×Option AO)} {n0:Nat} {st0 st:ASt}
theorem eh.le{ops:List Oper}{D:List (List Nat)}{m:Nat}(T:eh ops D m):m<=ops.length:=Nat.le_of_lt T.lt
theorem wg{D:List (List Nat)}{ops:List Oper}(T:eh ops D n0)(hl:vq ops n0 st0.tm.length=true)(hno:noB ops D R n0 st0=true):DBase ops D R n0 st0:=by
 simp only[vq,List.all_eq_true]at hl
 simp only[noB,List.all_eq_true]at hno
 have hno':∀i,i<n0->∀o,oAt R i=some o->_:=λi hi o ho=>by
  have:=hno i (List.mem_range.2 hi)
  rw[ho]at this
  simp only[Bool.and_eq_true,List.all_eq_true]at this
  exact this
 refine⟨T.le,T.nd,T.dst,λj hj=>Nat.le_of_ble_eq_true (hl j (List.mem_range.2 hj)),λj hj hne=>?_,λi hi hne=>?_,λi j hi hj hne hd hji=>?_⟩
 ·obtain⟨o,ho⟩:=Option.ne_none_iff_exists'.1 hne
  have:=(hno' j hj o ho).1.1.1
  simpa using this
 ·obtain⟨o,ho⟩:=Option.ne_none_iff_exists'.1 hne
  have:=hno' i hi o ho
  exact⟨this.1.1.2,this.1.2⟩
 ·obtain⟨o,ho⟩:=Option.ne_none_iff_exists'.1 hne
  have:=(hno' i hi o ho).2 j (List.mem_range.2 hj)
  simp only[hd,Bool.false_or,Bool.or_eq_true,Bool.and_eq_true]at this
  rcases this with this|⟨h1,h2⟩
  ·exact absurd (Nat.eq_of_beq_eq_true this) hji
  ·refine⟨h1,λo' ho'=>?_⟩
   rw[ho']at h2
   exact h2
theorem Dv(he:E.Ok){D:List (List Nat)}{ops:List Oper}(T:eh ops D n0){i:Nat}{o:Oper}(hi:i<n0){r:AV×Option AO}(hr:R[i]? =some r)(hfact:oH E D (ops.take n0) R st0 i o r):c6 E S D R n0 (stP ops D R n0 st0 i) i o:=by
 have hv:vAt R i=r.1:=by simp[vAt,List.getD,hr]
 have hoo:oAt R i=r.2:=by simp[oAt,List.getD,hr]
 have free:(qf D (ops.take n0) R i st0 λP=>eK E o P λv oo=>v=r.1/\oo=r.2)->fL E S o (stP ops D R n0 st0 i) (vAt R i) (oAt R i):=λh=>by
  rw[hv,hoo]
  exact mH he (lD T.le h)
 unfold c6
 unfold oH at hfact
 cases hg:o.guard with
 |none=>
  rw[hg]at hfact
  exact free hfact
 |some gw=>
  obtain⟨g,want⟩:=gw
  rw[hg]at hfact
  obtain⟨h1,h2,h3⟩:=hfact
  obtain⟨rg,hrg,h3⟩:=bS h3
  have hgn:g<n0:=by
   have h4:g<(ops.take n0).length:=Nat.le_of_ble_eq_true h2
   simp at h4
   omega
  refine⟨hgn,h1,?_⟩
  have hvg:vAt R g=rg.1:=by simp[vAt,List.getD,hrg]
  split at h3
  ·rename_i p hp
   refine .inl ⟨p,by rw[hvg,hp],?_⟩
   cases p with
   |true=>
    have h:=h3.t rfl
    cases want with
    |true=>exact .inl ⟨rfl,free h⟩
    |false=>exact .inr ⟨by simp,by rw[hv,show r=(.one .und,none)from h],by rw[hoo,show r=(.one .und,none)from h]⟩
   |false=>
    have h:=h3.f rfl
    cases want with
    |false=>exact .inl ⟨rfl,free h⟩
    |true=>exact .inr ⟨by simp,by rw[hv,show r=(.one .und,none)from h],by rw[hoo,show r=(.one .und,none)from h]⟩
  ·exact h3.elim
theorem nq(T:eh ops D n0){i j:Nat}(hi:i<ops.length)(h:inD D j i=true):j<i:=by
 have:=dr T (lf:=λj=>decide (j<i)) (λk hk e he=>?_) (i:=i) (λe he=>?_) h
 ·simpa using this
 ·have hki:k<i:=by simpa using hk
  rw[aT (List.getElem?_eq_getElem (by omega:k<ops.length))]at he
  have:=T.edge k _ (List.getElem?_eq_getElem Iv) _ he
  simp;omega
 ·rw[aT (List.getElem?_eq_getElem hi)]at he
  have:=T.edge i _ (List.getElem?_eq_getElem hi) _ he
  simpa using this
theorem c6.keepF(T:eh ops D n0){R:List (AV×Option AO)}{i k:Nat}{o:Oper}{x:AV×Option AO}(hi:i<k)(hil:i<ops.length)(h:c6 E S D R n0 (stP ops D R n0 st i) i o):c6 E S D (R.set k x) n0 (stP ops D (R.set k x) n0 st i) i o:=by
 have hlt:∀j,inD D j i=true->j≠k:=λj hj e=>by have:=nq T hil hj;omega
 have e:stP ops D (R.set k x) n0 st i=stP ops D R n0 st i:=nP λj hj=>⟨fb (hlt j hj),lV (hlt j hj)⟩
 have e1:vAt (R.set k x) i=vAt R i:=fb Iv
 have e2:oAt (R.set k x) i=oAt R i:=lV Iv
 unfold c6 at h⊢
 rw[e,e1,e2]
 cases hg:o.guard with
 |none=>rw[hg]at h;exact h
 |some gw=>
  obtain⟨g,want⟩:=gw
  rw[hg]at h
  obtain⟨h1,h2,h3⟩:=h
  refine⟨h1,h2,?_⟩
  rw[fb (hlt g h2)]
  exact h3
theorem qQ(he:E.Ok)(T:eh ops D n0){K:List (AV×Option AO)->Prop}:∀(rest:List Oper) (i:Nat) (R:List (AV×Option AO)),(∀k,(ops.take n0)[i+k]? =rest[k]?)->R.length=n0->
  (∀j o,j<i->ops[j]? =some o->c6 E S D R n0 (stP ops D R n0 st j) j o)->co E (ops.take n0) st rest ((List.range' i rest.length).map λi=>(List.range n0).map (flP D i)) i R K->∃RA,K RA/\∀j o,j<n0->ops[j]? =some o->c6 E S D RA n0 (stP ops D RA n0 st j) j o
 |[],i,R,hr,hl,hf,h=>by
  refine⟨R,h,λj o hj ho=>hf j o ?_ ho⟩
  have:=hr 0
  simp only[Nat.add_zero,List.getElem?_nil]at this
  have h2:=List.getElem?_eq_none_iff.1 this
  have:=T.le
  simp at h2
  omega
 |o::rest,i,R,hr,hl,hf,h=>by
  have h0:=hr 0
  simp only[Nat.add_zero,List.getElem?_cons_zero]at h0
  have hi:i<n0:=by
   have:=(List.getElem?_eq_some_iff.1 h0).1
   simp at this
   omega
  have hio:ops[i]? =some o:=by
   rw[List.getElem?_take,if_pos hi]at h0
   exact h0
  have hil:i<ops.length:=(List.getElem?_eq_some_iff.1 hio).1
  have hr':∀k,(ops.take n0)[i+1+k]? =rest[k]? :=λk=>by
   have:=hr (k+1)
   rw[show i+1+k=i+(k+1)by omega]
   simpa using this
  have next:∀x:AV×Option AO,co E (ops.take n0) st rest ((List.range' (i+1) rest.length).map λi=>(List.range n0).map (flP D i)) (i+1) (R.set i x) K->c6 E S D (R.set i x) n0 (stP ops D (R.set i x) n0 st i) i o->∃RA,K RA/\∀j o,j<n0->ops[j]? =some o->c6 E S D RA n0 (stP ops D RA n0 st j) j o:=λx hk hd=>
   qQ he T rest (i+1) (R.set i x) hr' (by simpa using hl) (λj o' hj ho'=>by
    rcases Nat.lt_succ_iff_lt_or_eq.1 hj with hj|hj
    ·exact(hf j o' hj ho').keepF T hj Iv
    ·subst hj
     rw[hio]at ho'
     injection ho' with ho'
     subst ho'
     exact hd) hk
  have eP:∀x:AV×Option AO,stP ops D (R.set i x) n0 st i=stP ops D R n0 st i:=λx=>nP λj hj=>by
   have:=nq T hil hj
   exact⟨fb Iv,lV Iv⟩
  have free:(ku ((List.range n0).map (flP D i)) (ops.take n0) R st λP=>eK E o P λv oo=>gy R i (v,oo) λR=>co E (ops.take n0) st rest ((List.range' (i+1) rest.length).map λi=>(List.range n0).map (flP D i)) (i+1) R K)->∃x:AV×Option AO,fL E S o (stP ops D R n0 st i) x.1 x.2/\co E (ops.take n0) st rest ((List.range' (i+1) rest.length).map λi=>(List.range n0).map (flP D i)) (i+1) (R.set i x) K:=λh=>by
   have hlen:(ops.take n0).length=n0:=by have:=T.le;simp;omega
   have h1:=lD T.le (oJ (by rw[hlen];exact h))
   obtain⟨v,oo,h2,h3⟩:=tC he h1
   exact⟨(v,oo),h2,eT h3⟩
  rw[List.length_cons,List.range'_succ,List.map_cons]at h
  unfold co at h
  cases hg:o.guard with
  |none=>
   rw[hg]at h
   obtain⟨x,hx,hk⟩:=free h
   refine next x hk ?_
   unfold c6
   rw[hg,eP,lC Iv,li Iv]
   exact hx
  |some gw=>
   obtain⟨g,want⟩:=gw
   rw[hg]at h
   obtain⟨f,hf1,h3⟩:=bS h
   have hf0:f=flP D i g:=by
    rw[List.getElem?_map]at hf1
    obtain⟨g',hg',rfl⟩:=Option.map_eq_some_iff.1 hf1
    have:=List.getElem?_eq_some_iff.1 hg'
    obtain⟨_,e⟩:=this
    simp at e
    rw[e]
   split at h3
   case h_2=>exact h3.elim
   have h1:inD D g i=true:=oT hf0.symm
   obtain⟨rg,hrg,h3⟩:=bS h3
   have hgi:=nq T hil h1
   have hvg:∀x:AV×Option AO,vAt (R.set i x) g=rg.1:=λx=>by
    rw[fb Iv]
    unfold vAt
    rw[List.getD_eq_getElem?_getD,hrg];rfl
   split at h3
   ·rename_i p hp
    have run:(p=want)->(ku ((List.range n0).map (flP D i)) (ops.take n0) R st λP=>eK E o P λv oo=>gy R i (v,oo) λR=>co E (ops.take n0) st rest ((List.range' (i+1) rest.length).map λi=>(List.range n0).map (flP D i)) (i+1) R K)->∃RA,K RA/\∀j o,j<n0->ops[j]? =some o->c6 E S D RA n0 (stP ops D RA n0 st j) j o:=λe h=>by
     obtain⟨x,hx,hk⟩:=free h
     refine next x hk ?_
     unfold c6
     rw[hg,eP,lC Iv,li Iv]
     exact⟨by omega,h1,.inl ⟨p,by rw[hvg,hp],.inl ⟨e,hx⟩⟩⟩
    have skip:(p≠want)->(gy R i (.one .und,none) λR=>co E (ops.take n0) st rest ((List.range' (i+1) rest.length).map λi=>(List.range n0).map (flP D i)) (i+1) R K)->∃RA,K RA/\∀j o,j<n0->ops[j]? =some o->c6 E S D RA n0 (stP ops D RA n0 st j) j o:=λe h=>by
     refine next (.one .und,none) (eT h) ?_
     unfold c6
     rw[hg,eP,lC Iv,li Iv]
     exact⟨by omega,h1,.inl ⟨p,by rw[hvg,hp],.inr ⟨e,rfl,rfl⟩⟩⟩
    cases p with
    |true=>
     have h:=h3.t rfl
     cases want with
     |true=>exact run rfl h
     |false=>exact skip Iy h
    |false=>
     have h:=h3.f rfl
     cases want with
     |true=>exact skip Iy h
     |false=>exact run rfl h
   ·rename_i hp
    refine next (.one .und,none) (eT h3) ?_
    unfold c6
    rw[hg,eP,lC Iv,li Iv]
    exact⟨by omega,h1,.inr ⟨by rw[hvg,hp],rfl,rfl⟩⟩
   ·exact h3.elim
end
structure Flt (E:aE) (S:aZ) (ops:List Oper) (D:List (List Nat)) (m:Nat) (R0 R1:List (AV×Option AO)) (st0 st1:ASt):Prop where
 F0:mx E S ops D R0 m st0
 B1:DBase ops D R1 m st1
 out1:∀i o,i<m->inD D i m=false->ops[i]? =some o->c6 E S D R1 m (stP ops D R1 m st1 i) i o
 step:∀o,ops[m]? =some o->o.guard=none/\∀l:Nat->Bool,(∀j,inD D j m=true->l j=true)->∀a w,ce E.W S (stS ops R0 m st0 l) a w->∀Q,Oper.wp E.P o a w (λa' w'=>ce E.W S (stS ops R1 m st1 l) a' w') Q
section
variable {E:aE} {S:aZ} {ops:Array Oper} {n0:Nat} {st0 st1:ASt} {R0 R1:List (AV×Option AO)} {K:ASt->Prop} {Q:Exit->Act->World->Prop}
theorem iz{listed:Array Bool}(hs:listed.size=ops.size){i:Nat}:
  i∈Region.ready .any ops listed↔i<ops.size/\a7 listed i=false/\∀e∈bU ops.toList i,a7 listed e=true:=by
 rw[mem_ready]
 constructor
 ·rintro⟨h1,o,ho,h2⟩
  have hlt:=(Array.getElem?_eq_some_iff.1 ho).1
  refine⟨hlt,?_,λe he=>?_⟩
  ·simp only[a7,Array.getD_eq_getD_getElem?]at h1⊢
   rw[Array.getElem?_eq_getElem Iv]at h1⊢
   simpa using h1
  ·rw[aT (by simpa using ho)]at he
   obtain⟨e',he',rfl⟩:=List.mem_map.1 he
   obtain⟨hm,hb⟩:=List.mem_filter.1 he'
   exact h2 e' (by simpa using hm) hb
 ·rintro⟨hlt,h1,h2⟩
  refine⟨?_,ops[i],Array.getElem?_eq_getElem hlt,λe he hb=>?_⟩
  ·simp only[a7,Array.getD_eq_getD_getElem?]at h1⊢
   rw[Array.getElem?_eq_getElem Iv]at h1⊢
   simpa using h1
  ·refine h2 _ ?_
   rw[aT (o:=ops[i]) (by simp[hlt])]
   exact List.mem_map.2 ⟨e,List.mem_filter.2 ⟨by simpa using he,hb⟩,rfl⟩
theorem yq(he:E.Ok){D:List (List Nat)}(T:eh ops.toList D n0)(hQ:∀a w,(∃st',ce E.W S st' a w/\K st')->Q .normal a w):
  ∀(fuel m:Nat) (listed:Array Bool) (st:ASt) (a:Act) (w:World),listed.size=ops.size->n0<m->(∀j,j<ops.size->a7 listed j=decide (j<m))->ops.size-m<=fuel->ce E.W S st a w->l8 E S ops.toList (ops.toList.drop m) st K->wpAny E.P .any ops Q fuel listed a w:=by
 intro fuel
 induction fuel with
 |zero=>
  intro m listed st a w hs hm hl hf h hk
  rw[List.drop_eq_nil_of_le IB]at hk
  refine⟨?_,hQ a w ⟨st,h,hk⟩⟩
  rw[List.eq_nil_iff_forall_not_mem]
  intro i hi
  obtain⟨h1,h2,_⟩:=(iz hs).1 hi
  rw[hl i h1]at h2
  simp at h2
  omega
 |succ fuel ih=>
  intro m listed st a w hs hm hl hf h hk
  have hready:∀i,i∈Region.ready .any ops listed↔i=m/\m<ops.size:=by
   intro i
   rw[iz hs]
   constructor
   ·rintro⟨h1,h2,h3⟩
    rw[hl i h1]at h2
    simp at h2
    have hc:∀j,a7 listed j=true->∀e∈bU ops.toList j,a7 listed e=true:=by
     intro j hj e hej
     by_cases hjs:j<ops.size
     ·rw[hl j hjs]at hj
      rw[aT (o:=ops[j]) (by simp[hjs])]at hej
      have:=T.edge j ops[j] (by simp[hjs]) _ hej
      rw[hl _ Iv]
      simp at hj⊢
      omega
     ·simp[a7,Array.getD_eq_getD_getElem?,Array.getElem?_eq_none (show listed.size<=j by omega)]at hj
    refine⟨?_,by omega⟩
    apply Nat.le_antisymm _ h2
    apply Nat.le_of_not_lt
    intro hlt
    have:=dr T hc h3 (T.tail i Iv (by simpa using h1) m hlt)
    rw[hl m Iv]at this
    simp at this
   ·rintro⟨rfl,h1⟩
    refine⟨h1,by rw[hl i h1];simp,λe hej=>?_⟩
    rw[aT (o:=ops[i]) (by simp[h1])]at hej
    have:=T.edge i ops[i] (by simp[h1]) _ hej
    rw[hl _ Iv]
    simpa using this
  refine⟨λhnil=>?_,λi hi=>?_⟩
  ·have:ops.size<=m:=by
    apply Nat.le_of_not_lt
    intro hlt
    have:=(hready m).2 ⟨rfl,hlt⟩
    rw[hnil]at this
    cases this
   rw[List.drop_eq_nil_of_le (by simpa using this)]at hk
   exact hQ a w ⟨st,h,hk⟩
  ·obtain⟨rfl,hlt⟩:=(hready i).1 hi
   rw[List.drop_eq_getElem_cons (by simpa using hlt)]at hk
   unfold wpOp
   rw[Array.getElem?_eq_getElem hlt]
   have next:∀st' a' w',ce E.W S st' a' w'->l8 E S ops.toList (ops.toList.drop (i+1)) st' K->wpAny E.P .any ops Q fuel (listed.setIfInBounds i true) a' w':=by
    intro st' a' w' h' hk'
    refine ih (i+1) _ st' a' w' (by simpa using hs) Iv (λj hj=>?_) Iv h' hk'
    rw[fv Iv]
    simp only[]
    rw[hl j hj]
    by_cases hji:j=i
    ·subst hji;simp[Nat.beq_refl]
    ·have:Nat.beq j i=false:=by
      cases h':Nat.beq j i with
      |false=>rfl
      |true=>exact absurd (Nat.eq_of_beq_eq_true h') hji
     simp[this]
     omega
   obtain⟨Z,ρ,h⟩:=h
   simp only[Array.getElem_toList]at hk
   rcases eO h hk with⟨hw,st',hs',hk⟩|⟨hw,st',hs',hk⟩
   ·simp only[Array.toArray_toList]at hw
    simp only[hw,if_true]
    refine .inl (Oper.wp_mono (λa' w' h'=>?_) (lL he hs' hk Q))
    obtain⟨st2,h2,hk2⟩:=h'
    exact next st2 a' w' h2 hk2
   ·simp only[Array.toArray_toList]at hw
    simp only[hw,Bool.false_eq_true,if_false]
    have:=hs'.put ops[i].dst (x:= .one .und) (v:=undef) (.one _ _ (show cH Z w ρ .und undef from rfl))
    exact next _ _ w ⟨Z,ρ,this⟩ (cT hk)
theorem yp(he:E.Ok){D:List (List Nat)}{m:Nat}(T:eh ops.toList D m)(F:Flt E S ops.toList D m R0 R1 st0 st1)(hQ:∀a w,(∃st',ce E.W S st' a w/\K st')->Q .normal a w)
  (ht:kr (ops.toList.take m) R1 st1 λst=>l8 E S ops.toList (ops.toList.drop (m+1)) st K):
  ∀(fuel:Nat) (listed:Array Bool) (a:Act) (w:World),listed.size=ops.size->(∀j,m<j->a7 listed j=false)->(∀j,a7 listed j=true->∀e∈bU ops.toList j,a7 listed e=true)->fD (a7 listed) ops.size<=fuel->
   (a7 listed m=false->ce E.W S (stS ops.toList R0 m st0 (a7 listed)) a w)->(a7 listed m=true->ce E.W S (stS ops.toList R1 m st1 (a7 listed)) a w)->wpAny E.P .any ops Q fuel listed a w:=by
 intro fuel
 have hle:m<=ops.toList.length:=T.le
 have hlt0:m<ops.toList.length:=T.lt
 have hle':m<ops.size:=by simpa using hlt0
 induction fuel with
 |zero=>
  intro listed a w hs htl hc hf h0 h1
  have hall:=od (Nat.le_zero.1 hf)
  have h:=h1 (hall m hle')
  have hn0:ops.size<=m+1:=by
   apply Nat.le_of_not_lt
   intro hlt
   have h1:=hall (m+1) hlt
   rw[htl (m+1) Iv]at h1
   cases h1
  refine⟨?_,hQ a w ⟨_,h,?_⟩⟩
  ·rw[List.eq_nil_iff_forall_not_mem]
   intro i hi
   obtain⟨h1,h2,_⟩:=(iz hs).1 hi
   rw[hall i h1]at h2
   cases h2
  ·have:=iK hle ht
   rw[List.drop_eq_nil_of_le (by simpa using hn0)]at this
   have e:stS ops.toList R1 m st1 (a7 listed)=stS ops.toList R1 m st1 λ_=>true:=iE λj hj=>by rw[hall j Iv]
   rw[e]
   exact this
 |succ fuel ih=>
  intro listed a w hs htl hc hf h0 h1
  by_cases hall:∀j,j<m+1->a7 listed j=true
  ·have h:=h1 (hall m Iv)
   have e:stS ops.toList R1 m st1 (a7 listed)=stS ops.toList R1 m st1 λ_=>true:=iE λj hj=>by rw[hall j Iv]
   rw[e]at h
   have h2:=uV (m:=m+1) (λj hj=>htl j Iv) (n:=ops.size)
   refine yq he T hQ (fuel+1) (m+1) listed _ a w hs Iv (λj hj=>?_) Iv h (iK hle ht)
   by_cases hj0:j<m+1
   ·rw[hall j hj0];simp[hj0]
   ·rw[htl j Iv];simp[hj0]
  ·refine⟨λhnil=>?_,λi hi=>?_⟩
   ·exfalso
    apply hall
    intro j
    induction j using Nat.strongRecOn with
    |ind j ihj=>
     intro hj
     cases hlj:a7 listed j with
     |true=>rfl
     |false=>
      have:j∈Region.ready .any ops listed:=(iz hs).2 ⟨by omega,hlj,λe hej=>by
       have hjs:j<ops.size:=by omega
       rw[aT (o:=ops[j]) (by simp[hjs])]at hej
       have:=T.edge j ops[j] (by simp[hjs]) _ hej
       exact ihj _ this Iv⟩
      rw[hnil]at this
      cases this
   ·obtain⟨hlt,hli,haf⟩:=(iz hs).1 hi
    have hi0:i<=m:=by
     apply Nat.le_of_not_lt
     intro hge
     apply hall
     intro j hj
     exact dr T hc haf (T.tail i hge (by simpa using hlt) j Iv)
    have hDl:∀j,inD D j i=true->a7 listed j=true:=λj hj=>dr T hc haf hj
    have hAl:∀j,j<m->inD D i j=true->a7 listed j=false:=λj _ hj=>by
     cases hlj:a7 listed j with
     |false=>rfl
     |true=>
      have:=dr T hc (hc j hlj) hj
      rw[hli]at this
      cases this
    have hget:ops.toList[i]? =some ops[i]:=by simp[hlt]
    have elf:=fv (listed:=listed) (i:=i) Iv
    have next:∀a' w',(a7 listed m=false->i≠m->ce E.W S (stS ops.toList R0 m st0 λj=>a7 listed j||Nat.beq j i) a' w')->(a7 listed m=true\/i=m->ce E.W S (stS ops.toList R1 m st1 λj=>a7 listed j||Nat.beq j i) a' w')->wpAny E.P .any ops Q fuel (listed.setIfInBounds i true) a' w':=λa' w' h0' h1'=>by
     have bim:Nat.beq m i=true↔i=m:=⟨λe=>(Nat.eq_of_beq_eq_true e).symm,λe=>by rw[e];exact Nat.beq_refl m⟩
     refine ih _ a' w' (by simpa using hs) (λj hj=>?_) (λj hj e' hej=>?_) ?_ (λhm=>?_) (λhm=>?_)
     ·rw[elf]
      simp only[htl j hj,Bool.false_or]
      cases hb:Nat.beq j i with
      |false=>rfl
      |true=>have:=Nat.eq_of_beq_eq_true hb;omega
     ·rw[elf]at hj⊢
      simp only[Bool.or_eq_true]at hj⊢
      rcases hj with hj|hj
      ·exact .inl (hc j hj e' hej)
      ·rw[Nat.eq_of_beq_eq_true hj]at hej
       exact .inl (haf e' hej)
     ·rw[elf]
      have:=(lN hli (n:=ops.size)).2 hlt
      omega
     ·rw[elf]at hm⊢
      simp only[Bool.or_eq_false_iff]at hm
      exact h0' hm.1 (λe=>by rw[bim.2 e]at hm;exact absurd hm.2 Iy)
     ·rw[elf]at hm⊢
      simp only[Bool.or_eq_true]at hm
      exact h1' (hm.imp_right bim.1)
    by_cases him:i=m
    ·subst him
     obtain⟨hgu,hst⟩:=F.step ops[i] hget
     unfold wpOp
     rw[Array.getElem?_eq_getElem hlt]
     simp only
     have hw:Region.wanted ops[i] (yielded ops a.tmps)=true:=by simp[Region.wanted,hgu]
     rw[if_pos hw]
     refine .inl (Oper.wp_mono (λa' w' h'=>?_) (hst (a7 listed) hDl a w (h0 hli) Q))
     refine next a' w' (λ_ hne=>absurd rfl hne) λ_=>?_
     have e:stS ops.toList R1 i st1 (λj=>a7 listed j||Nat.beq j i)=stS ops.toList R1 i st1 (a7 listed):=iE λj hj=>by
      have:Nat.beq j i=false:=by
       cases hb:Nat.beq j i with
       |false=>rfl
       |true=>have:=Nat.eq_of_beq_eq_true hb;omega
      rw[this,Bool.or_false]
     rw[e]
     exact h'
    ·have hi1:i<m:=by omega
     cases hlm:a7 listed m with
     |false=>
      have step:=tI (Kont:=wpAny E.P .any ops Q fuel (listed.setIfInBounds i true)) (Q:=Q) F.F0 hi1 hget hli hDl hAl (h0 hlm) λa' w' h'=>next a' w' (λ_ _=>h') λhm=>by
       rcases hm with hm|hm
       ·rw[hlm]at hm;cases hm
       ·exact absurd hm him
      simp only[Array.toArray_toList]at step
      unfold wpOp
      rw[Array.getElem?_eq_getElem hlt]
      simp only
      split
      ·rename_i hw;exact .inl (step.1 hw)
      ·rename_i hw;exact step.2 (by simpa using hw)
     |true=>
      have hnm:inD D i m=false:=by
       cases hx:inD D i m with
       |false=>rfl
       |true=>
        have:=dr T hc (hc m hlm) hx
        rw[hli]at this
        cases this
      have step:=qS (Kont:=wpAny E.P .any ops Q fuel (listed.setIfInBounds i true)) (Q:=Q) F.B1 hi1 hget hli hDl hAl (zN (D:=D) F.B1.nd F.B1.len F.B1.ob hli (λj _ h=>hDl j h) hAl) (F.out1 i _ hi1 hnm hget) (h1 hlm) λa' w' h'=>next a' w' (λhm=>by rw[hlm]at hm;cases hm) λ_=>h'
      simp only[Array.toArray_toList]at step
      unfold wpOp
      rw[Array.getElem?_eq_getElem hlt]
      simp only
      split
      ·rename_i hw;exact .inl (step.1 hw)
      ·rename_i hw;exact step.2 (by simpa using hw)
theorem AWP.drawFlt(he:E.Ok){K:Exit->ASt->Prop}{id m:Nat}{D:List (List Nat)}(T:eh ops.toList D m)(F:Flt E S ops.toList D m R0 R1 st0 st1)
  (ht:kr (ops.toList.take m) R1 st1 λst=>l8 E S ops.toList (ops.toList.drop (m+1)) st (K .normal)):AWP E S (.region id ops true) K st0:=by
 refine⟨λa w hs=>wp_region_any he.mixed ?_⟩
 have hg:w.grownBy {w with drawn:=w.drawn+1} none:=⟨rfl,rfl,rfl,Nat.le_refl _,λb hb _=>rfl⟩
 have e1:∀j,a7 (Array.replicate ops.size false) j=false:=λj=>by
  simp[a7,Array.getD_eq_getD_getElem?,Array.getElem?_replicate]
  split<;>rfl
 refine yp (Q:=λe a' w'=>∃st',ce E.W S st' a' w'/\K e st') he T F (λa w h=>h) ht ops.size (Array.replicate ops.size false) a _ Iy (λj _=>e1 j) (λj hj=>?_) ?_ (λ_=>?_) (λhm=>?_)
 ·rw[e1]at hj;cases hj
 ·have:∀(lf:Nat->Bool) n,fD lf n<=n:=λlf n=>by
   induction n with
   |zero=>exact Nat.le_refl _
   |succ n ih=>simp only[fD];split<;>omega
  exact this _ _
 ·obtain⟨Z,ρ,hs⟩:=hs
  have e:stS ops.toList R0 m st0 (a7 (Array.replicate ops.size false))=st0:=by
   have e2:(List.range m).filterMap (upS ops.toList R0 (a7 (Array.replicate ops.size false)))=[]:=by
    rw[List.filterMap_eq_nil_iff];intro j _;simp[upS,e1]
   have e3:(List.range m).filterMap (obF ops.toList R0 (a7 (Array.replicate ops.size false)))=[]:=by
    rw[List.filterMap_eq_nil_iff];intro j _;simp[obF,e1]
   simp[stS,e2,e3,dC]
  rw[e]
  exact⟨Z,ρ,hs.grow hg (λ_ h=>h) λ_ h=> .inl h⟩
 ·rw[e1]at hm;cases hm
end
def m5(E:aE)(D:List (List Nat))(pre:List Oper)(R:List (AV×Option AO))(st:ASt)(m:Nat):List Oper->List (AV×Option AO)->Nat->Prop
 |[],[],_=>True
 | o :: ops, r :: rs, i => (match inD D i m with
  |true=>True
  |false=>oH E D pre R st i o r)/\m5 E D pre R st m ops rs (i+1)
 |_,_,_=>False
theorem oI{E:aE}{D:List (List Nat)}{pre:List Oper}{R:List (AV×Option AO)}{st:ASt}{m:Nat}:∀{ops:List Oper} {rs:List (AV×Option AO)} {i:Nat},m5 E D pre R st m ops rs i->∀k o,ops[k]? =some o->inD D (i+k) m=false->∃r,rs[k]? =some r/\oH E D pre R st (i+k) o r
 |[],_,_,_,k,o,h,_=>by simp at h
 |o'::ops,[],_,h,k,o,_,_=>h.elim
 |o'::ops,r::rs,i,h,k,o,ho,hn=>by
  cases k with
  |zero=>
   simp at ho
   subst ho
   have h1:=h.1
   rw[show i+0=i from rfl]at hn
   rw[hn]at h1
   exact⟨r,rfl,h1⟩
  |succ k=>
   obtain⟨r',h1,h2⟩:=oI h.2 k o (by simpa using ho) (by rwa[show i+1+k=i+(k+1)by omega])
   exact⟨r',by simpa using h1,by rwa[show i+(k+1)=i+1+k by omega]⟩
section
variable {E:aE} {S:aZ} {ops:List Oper} {D:List (List Nat)} {R0 R1:List (AV×Option AO)} {m:Nat} {st0 st1:ASt}
theorem Fe(hv:∀j,j<m->vAt R1 j=vAt R0 j)(ht:st1.tm=st0.tm)(l:Nat->Bool):(stS ops R1 m st1 l).tm=(stS ops R0 m st0 l).tm:=by
 have e:(List.range m).filterMap (upS ops R1 l)=(List.range m).filterMap (upS ops R0 l):=lP λj hj=>by simp only[upS,hv j (List.mem_range.1 hj)]
 show dC st1.tm ((List.range m).filterMap (upS ops R1 l))=dC st0.tm ((List.range m).filterMap (upS ops R0 l))
 rw[e,ht]
theorem E4(he:E.Ok)(T:eh ops D m)(F0:mx E S ops D R0 m st0)(B1:DBase ops D R1 m st1){t:TypeId}{jx jv dx dv c k s off:Nat}{o0 o1:AO}
  (hop:∃o,ops[m]? =some o/\o.op= .store t (.tmp dx) (.tmp dv)/\o.dst=none/\o.guard=none) (hdx:dAt ops jx=dx) (hdv:dAt ops jv=dv) (hjx:inD D jx m=true) (hjv:inD D jv m=true)
  (hv:∀j,j<m->vAt R1 j=vAt R0 j) (ht:st1.tm=st0.tm) (hvx:vAt R0 jx= .one (.ref c k s off)) (hst:kx E ⟨[],[(c,o0)]⟩ t (.one (.ref c k s off)) (vAt R0 jv) λst=>st=⟨[],[(c,o1)]⟩)
  (hget:∀l:Nat->Bool,(∀j,inD D j m=true->l j=true)->az (stS ops R0 m st0 l).ob c=some o0)
  (hsub:∀l:Nat->Bool,(∀j,inD D j m=true->l j=true)->ae (cm (stS ops R0 m st0 l).ob c o1) (stS ops R1 m st1 l).ob)
  (hl:R1.length=m) (hf:m5 E D (ops.take m) R1 st1 m (ops.take m) R1 0):Flt E S ops D m R0 R1 st0 st1:=by
 refine⟨F0,B1,λi o hi hn ho=>?_,λo ho=>?_⟩
 ·obtain⟨r,hr,hfact⟩:=oI hf i o (by rw[List.getElem?_take,if_pos hi];exact ho) (by rwa[Nat.zero_add])
  rw[Nat.zero_add]at hfact
  exact Dv he T hi hr hfact
 ·obtain⟨o',ho',hstore,hdst,hgu⟩:=hop
  rw[ho]at ho'
  injection ho' with ho'
  subst ho'
  refine⟨hgu,λl hlD a w hs Q=>?_⟩
  obtain⟨Z,ρ,hs⟩:=hs
  have hjx':jx<m:=nq T T.lt hjx
  have hjv':jv<m:=nq T T.lt hjv
  have g:=qY (K:=λst=>st=⟨(stS ops R0 m st0 l).tm,cm (stS ops R0 m st0 l).ob c o1⟩) he hs hstore (by
   refine yd (x:=vAt R0 jx) (by rw[<-hdx];exact jq F0.nd hjx' (hlD jx hjx) (F0.len jx hjx')) ?_
   refine yd (x:=vAt R0 jv) (by rw[<-hdv];exact jq F0.nd hjv' (hlD jv hjv) (F0.len jv hjv')) ?_
   rw[hvx,hdst]
   exact v7 (hget l hlD) hst)
  refine Oper.wp_mono (λa' w' h'=>?_) (g Q)
  obtain⟨st',h1,h2⟩:=h'
  subst h2
  refine h1.sub ?_ (hsub l hlD)
  rw[Fe hv ht]
  exact iJ.of_get rfl λs x y hx hy=>by
   rw[hx]at hy
   injection hy with hy
   rw[hy]
   exact .refl _
theorem Db(he:E.Ok)(T:eh ops D m)(F0:mx E S ops D R0 m st0)(hlm:vq ops m st0.tm.length=true){t:TypeId}{jx jv dx dv c k s off:Nat}{o0 o1:AO}
  (hop:∃o,ops[m]? =some o/\o.op= .store t (.tmp dx) (.tmp dv)/\o.dst=none/\o.guard=none) (hdx:dAt ops jx=dx) (hdv:dAt ops jv=dv) (hjx:inD D jx m=true) (hjv:inD D jv m=true)
  (hvx:vAt R0 jx= .one (.ref c k s off)) (hc:az st0.ob c=some o0) (hst:kx E ⟨[],[(c,o0)]⟩ t (.one (.ref c k s off)) (vAt R0 jv) λst=>st=⟨[],[(c,o1)]⟩)
  (hno:noB ops D R0 m ⟨st0.tm,cm st0.ob c o1⟩=true)
  (hl:R0.length=m) (hf:m5 E D (ops.take m) R0 ⟨st0.tm,cm st0.ob c o1⟩ m (ops.take m) R0 0):Flt E S ops D m R0 R0 st0 ⟨st0.tm,cm st0.ob c o1⟩:=by
 have hfar:∀j,j<m->oAt R0 j≠none->c≠dAt ops j:=λj hj hne e=>by
  have:=F0.ob j hj hne
  rw[<-e,hc]at this
  cases this
 refine E4 he T F0 (wg T hlm hno) hop hdx hdv hjx hjv (λ_ _=>rfl) rfl hvx hst (λl _=>?_) (λl _ id o ho=>?_) hl hf
 ·rw[gp F0.nd]
  exact .inr ⟨λj hj _ e=>by
   cases ho2:oAt R0 j with
   |none=>rfl
   |some o2=>exact absurd e.symm (hfar j hj (by rw[ho2];simp)),hc⟩
 ·rw[gp F0.nd]at ho
  rw[aY]
  rcases ho with⟨j,hj,hlj,e,h⟩|⟨h,hb⟩
  ·rw[if_neg (λe'=>hfar j hj (by rw[h];simp) (by rw[e,e'])),gp F0.nd]
   exact .inl ⟨j,hj,hlj,e,h⟩
  ·have hb:az (cm st0.ob c o1) id=some o:=hb
   rw[aY]at hb
   by_cases hci:c=id
   ·rw[if_pos hci]at hb⊢
    exact hb
   ·rw[if_neg hci]at hb⊢
    rw[gp F0.nd]
    exact .inr ⟨h,hb⟩
end
section
variable {E:aE} {S:aZ} {ops:Array Oper}
theorem yo(he:E.Ok){st:ASt}{m:Nat}{D FL:List (List Nat)}{K:List (AV×Option AO)->Prop}(hD:f8 [] ops.toList=D)(hok:pD ops.toList D m=true)(hfl:((List.range m).map λi=>(List.range m).map (flP D i))=FL)
  (h:co E (ops.toList.take m) st (ops.toList.take m) FL 0 (List.replicate m (.one .dead,none)) K):∃R,K R/\∀j o,j<m->ops.toList[j]? =some o->c6 E S D R m (stP ops.toList D R m st j) j o:=by
 have T:=nm hD hok
 have hlen:(ops.toList.take m).length=m:=by have:=T.le;simp at*;omega
 subst hfl
 have e:((List.range m).map λi=>(List.range m).map (flP D i))=((List.range' 0 (ops.toList.take m).length).map λi=>(List.range m).map (flP D i)):=by rw[hlen,<-List.range_eq_range']
 rw[e]at h
 exact qQ (S:=S) he T (ops.toList.take m) 0 (List.replicate m (.one .dead,none)) (λk=>by simp) Iy (λj o hj=>absurd hj (Nat.not_lt_zero _)) h
theorem AWP.drawSO(he:E.Ok){K:Exit->ASt->Prop}(id:Nat){tm:List AV}{ob:List (Nat×AO)}(m:Nat)(D FL:List (List Nat))(jx jv:Nat){t:TypeId}{dx dv:Nat}(hD:f8 [] ops.toList=D)(hok:pD ops.toList D m=true)(hfl:((List.range m).map λi=>(List.range m).map (flP D i))=FL)(hl:vq ops.toList m tm.length=true)
  (hop:∃o,ops.toList[m]? =some o/\o.op= .store t (.tmp dx) (.tmp dv)/\o.dst=none/\o.guard=none) (hdx:dAt ops.toList jx=dx) (hdv:dAt ops.toList jv=dv) (hjx:inD D jx m=true) (hjv:inD D jv m=true)
  (h : co E (ops.toList.take m) ⟨tm, ob⟩ (ops.toList.take m) FL 0 (List.replicate m (.one .dead, none)) fun R => ∃ c k s off o0 o1, vAt R jx = .one (.ref c k s off) ∧ az ob c = some o0 ∧ R.length = m ∧ noB ops.toList D R m ⟨tm, ob⟩ = true ∧
   (kx E ⟨[],[(c,o0)]⟩ t (.one (.ref c k s off)) (vAt R jv) λst=>st=⟨[],[(c,o1)]⟩)/\de c o1 ob λob=>noB ops.toList D R m ⟨tm,ob⟩=true/\m5 E D (ops.toList.take m) R ⟨tm,ob⟩ m (ops.toList.take m) R 0/\
   kr (ops.toList.take m) R ⟨tm,ob⟩ λst=>l8 E S ops.toList (ops.toList.drop (m+1)) st (K .normal)):AWP E S (.region id ops true) K ⟨tm,ob⟩:=by
 have T:=nm hD hok
 obtain⟨R,⟨c,k,s,off,o0,o1,hvx,hc,hlR,hno,hst,h1⟩,hf⟩:=yo (S:=S) he hD hok hfl h
 obtain⟨hno1,hfL,ht⟩:=bZ h1
 exact AWP.drawFlt he T (Db he T ⟨wg T hl hno,hf⟩ hl hop hdx hdv hjx hjv hvx hc hst hno1 hlR hfL) ht
end
end Go.Proofs.YtnlhpdbijmnkhaaGreatDoor
namespace Go.Proofs.YtnlhpdbijmnkhaaGreatDoor
open Go.RowKit
def rH:AD->Value
 | .pv v=>v
 |_=>undef
def AD.isPv:AD->Bool
 | .pv _=>true
 |_=>false
def AP1.pl:AP1->Value
 | .one d=>rH d
 | .agg ds=> .agg (ds.map rH).toArray
def AP1.isPl:AP1->Bool
 | .one d=>d.isPv
 | .agg ds=>ds.all AD.isPv
theorem lW{Z:Nat->Prop}{w:World}{d:AD}{u:Value}(h:d.isPv=true)(hr:bj Z w d u):u=rH d:=by
 cases hr with
 |pv=>rfl
 |sl=>cases h
 |x=>cases h
theorem zH{Z:Nat->Prop}{w:World}{p:AP1}{u:Value}(h:p.isPl=true)(hr:cK Z w p u):u=p.pl:=by
 cases p with
 |one d=>exact lW h hr
 |agg ds=>
  obtain⟨us,rfl,hl,hh⟩:=hr
  have:us=ds.map rH:=by
   apply List.ext_getElem?
   intro i
   rw[List.getElem?_map]
   cases hd:ds[i]? with
   |none=>rw[List.getElem?_eq_none];rfl;rw[hl];exact List.getElem?_eq_none_iff.1 hd
   |some d=>
    have hlt:i<us.length:=by rw[hl];exact(List.getElem?_eq_some_iff.1 hd).1
    rw[List.getElem?_eq_getElem hlt]
    have hp:d.isPv=true:=List.all_eq_true.1 h d (List.mem_of_getElem? hd)
    simp[lW hp (hh i d us[i] hd (List.getElem?_eq_getElem hlt))]
  rw[this]
  rfl
theorem Dd{E:aE}(he:E.Ok){Z:Nat->Prop}{w:World}(h:GZ E.W Z w):E.W w:=by
 obtain⟨w1,h1,h2,_⟩:=h
 exact he.below w1 w h1 h2
theorem an.plain{E:aE}(he:E.Ok){f:FuncId}{args:List AP1}{v:Value}(enter:∀(us:Array Value) w,(callFunc f us).run E.P w= .ok (.enter f us) w)(hp:args.all AP1.isPl=true)(hv:v.oneCell'=true)
  (h:∀w,E.W w->Calls E.P f (args.map AP1.pl).toArray w λe w'=>e= .returned v/\Below w.heap.size w w'):an E f args (.val (.one (.pv v))):=by
 refine⟨enter,λZ w us hz hg hl hr=>?_⟩
 have:us=args.map AP1.pl:=by
  apply List.ext_getElem?
  intro i
  rw[List.getElem?_map]
  cases hd:args[i]? with
  |none=>rw[List.getElem?_eq_none];rfl;rw[hl];exact List.getElem?_eq_none_iff.1 hd
  |some d=>
   have hlt:i<us.length:=by rw[hl];exact(List.getElem?_eq_some_iff.1 hd).1
   rw[List.getElem?_eq_getElem hlt]
   have hp:d.isPl=true:=List.all_eq_true.1 hp d (List.mem_of_getElem? hd)
   simp[zH hp (hr i d us[i] hd (List.getElem?_eq_getElem hlt))]
 subst this
 refine(h w (Dd he hg)).mono ?_
 rintro e w' ⟨rfl,hb⟩
 exact⟨v,Z,rfl,hb,λ_ h=>h,λ_ h=> .inl h,.pv v hv⟩
theorem cU{w w':World}(h:w=w'):Below w.heap.size w w':=by subst h;exact Below.refl _ _
end Go.Proofs.YtnlhpdbijmnkhaaGreatDoor
namespace Go.Proofs.YtnlhpdbijmnkhaaGreatDoor
open Go.RowKit
theorem wu{α:Type}{us:List (List α)}{s:Nat}(h:∀u∈us,u.length=s):∀{k r:Nat} {u:List α},us[k]? =some u->r<s->us.flatten[k*s+r]? =u[r]? :=by
 induction us with
 |nil=>intro k r u hu;simp at hu
 |cons x l ih=>
  intro k r u hu hr
  have hx:=h x Iy
  cases k with
  |zero=>
   simp at hu
   subst hu
   rw[List.flatten_cons,Nat.zero_mul,Nat.zero_add,List.getElem?_append_left Iv]
  |succ k=>
   rw[List.flatten_cons,List.getElem?_append_right (by rw[hx,Nat.succ_mul];omega),hx,show(k+1)*s+r-s=k*s+r by rw[Nat.succ_mul];omega]
   exact ih (λu hu=>h u (by simp[hu])) (by simpa using hu) hr
inductive fz (w:World):(Nat->Prop)->AD->Value->Prop
 |pv (P:Nat->Prop) (v:Value) (h1:v.oneCell'=true):fz w P (.pv v) v
 |emp (P:Nat->Prop) (A:Option Addr) (cap:Nat) (hm:cap<=maxLen):fz w P (.sl []) (.slice A 0 cap)
 |sl (P:Nat->Prop) (xs:List (List AD)) (e:TypeId) (s:Nat) (us:List (List Value)) (v:Value) (Q:Nat->Nat->Prop)
   (hs:0<s) (hl:us.length=xs.length) (hx:∀x∈xs,x.length=s) (hu:∀u∈us,u.length=s)
   (hown:w.ownsRow 0 e s v xs.length us.flatten)
   (hb:∀b,aO v=some b->P b/\∀i,¬Q i b) (hQ:∀i b,Q i b->P b) (hd:∀i j b,Q i b->Q j b->i=j)
   (h:∀(i:Nat) a u,xs.flatten[i]? =some a->us.flatten[i]? =some u->fz w (Q i) a u):fz w P (.sl xs) v
section
variable {w w':World} {P P':Nat->Prop} {d:AD} {v:Value}
theorem fz.mono(hp:∀b,P b->P' b)(h:fz w P d v):fz w P' d v:=by
 cases h with
 |pv P v h1=>exact .pv _ _ h1
 |emp P A cap hm=>exact .emp _ A cap hm
 |sl P xs e s us v Q hs hl hx hu hown hb hQ hd h=>exact .sl _ xs e s us _ Q hs hl hx hu hown (λb e=>⟨hp b (hb b e).1,(hb b e).2⟩) (λi b q=>hp b (hQ i b q)) hd h
theorem fz.keep(h:fz w P d v)(hk:∀b,P b->w'.heap[b]? =w.heap[b]?):fz w' P d v:=by
 induction h with
 |pv P v h1=>exact .pv _ v h1
 |emp P A cap hm=>exact .emp _ A cap hm
 |sl P xs e s us v Q hs hl hx hu hown hb hQ hd h ih=>
  refine .sl _ xs e s us v Q hs hl hx hu ⟨hown.1,?_⟩ hb hQ hd λi a u ha hu=>ih i a u ha hu λb q=>hk b (hQ i b q)
  rcases hown.2 with h0|⟨g,cap,cur,hv,hbg,hg,r⟩
  ·exact .inl h0
  ·exact .inr ⟨g,cap,cur,hv,hbg,(hk g (hb g (by rw[hv];rfl)).1).trans hg,r⟩
theorem fz.one(h:fz w P d v):v.oneCell'=true:=by
 cases h with
 |pv P v h1=>exact h1
 |emp P A cap hm=>rfl
 |sl P xs e s us v Q hs hl hx hu hown hb hQ hd h=>rcases hown.2 with⟨hv,_⟩|⟨g,cap,cur,hv,_⟩<;>rw[hv]<;>rfl
theorem fz.relD{Z:Nat->Prop}(h:fz w P d v)(hz:∀b,P b->Z b):bj Z w d v:=by
 induction h with
 |pv P v h1=>exact .pv v h1
 |emp P A cap hm=>exact .sl [] A cap 1 [] (Nat.zero_le _) hm rfl Iy Iy (.inl rfl) Iy
 |sl P xs e s us v Q hs hl hx hu hown hb hQ hd h ih=>
  have key:∀(i j:Nat) x u a b,xs[i]? =some x->us[i]? =some u->x[j]? =some a->u[j]? =some b->bj Z w a b:=λi j x u a b h1 h2 h3 h4=>by
   have hj:j<s:=by rw[<-hx x (List.mem_of_getElem? h1)];exact(List.getElem?_eq_some_iff.1 h3).1
   exact ih (i*s+j) a b (by rw[wu hx h1 hj];exact h3) (by rw[wu hu h2 hj];exact h4) λb q=>hz b (hQ _ b q)
  rcases hown.2 with⟨hv,hn⟩|⟨g,cap,cur,hv,_,hg,h1,h2,h3,h4⟩
  ·have:xs=[]:=List.eq_nil_of_length_eq_zero hn
   subst this hv
   exact .sl [] none 0 0 [] (Nat.le_refl _) (Nat.zero_le _) rfl Iy Iy (.inl rfl) Iy
  ·subst hv
   exact .sl xs _ cap s us h1 h2 hl hx hu (.inr ⟨g,0,rfl,hz g (hb g rfl).1,λi u hu=>by rw[Nat.zero_add];exact lj hown rfl hu⟩) key
end
def cw(w:World)(P:Nat->Prop)(ds:List AD)(us:List Value):Prop:=
 us.length=ds.length/\∃Q:Nat->Nat->Prop,(∀i b,Q i b->P b)/\(∀i j b,Q i b->Q j b->i=j)/\∀(i:Nat) a u,ds[i]? =some a->us[i]? =some u->fz w (Q i) a u
section
variable {w w':World} {P P1 P2 P':Nat->Prop} {ds d1 d2:List AD} {us u1 u2:List Value}
theorem cw.mono(hp:∀b,P b->P' b)(h:cw w P ds us):cw w P' ds us:=by
 obtain⟨l,Q,q,e,r⟩:=h
 exact⟨l,Q,λi b h=>hp b (q i b h),e,r⟩
theorem cw.keep(h:cw w P ds us)(hk:∀b,P b->w'.heap[b]? =w.heap[b]?):cw w' P ds us:=by
 obtain⟨l,Q,q,e,r⟩:=h
 exact⟨l,Q,q,e,λi a u ha hu=>(r i a u ha hu).keep λb h=>hk b (q i b h)⟩
theorem cw.nil:cw w P [] []:=⟨rfl,λ_ _=>False,λ_ _ h=>h.elim,λ_ _ _ h=>h.elim,λi a u ha=>by simp at ha⟩
theorem cw.append(h1:cw w P1 d1 u1)(h2:cw w P2 d2 u2)(hd:∀b,P1 b->P2 b->False)(a1:∀b,P1 b->P b)(a2:∀b,P2 b->P b):cw w P (d1++d2) (u1++u2):=by
 obtain⟨l1,Q1,q1,e1,r1⟩:=h1
 obtain⟨l2,Q2,q2,e2,r2⟩:=h2
 refine⟨by simp[l1,l2],λi b=>if i<d1.length then Q1 i b else Q2 (i-d1.length) b,?_,?_,?_⟩
 ·intro i b h
  split at h
  ·exact a1 b (q1 _ _ h)
  ·exact a2 b (q2 _ _ h)
 ·intro i j b h h'
  split at h<;>split at h'
  ·exact e1 i j b h h'
  ·exact(hd b (q1 _ _ h) (q2 _ _ h')).elim
  ·exact(hd b (q1 _ _ h') (q2 _ _ h)).elim
  ·have:=e2 _ _ b h h'
   omega
 ·intro i a u ha hu
  by_cases hi:i<d1.length
  ·rw[List.getElem?_append_left hi]at ha
   rw[List.getElem?_append_left Iv]at hu
   simp only[if_pos hi]
   exact r1 i a u ha hu
  ·rw[List.getElem?_append_right Iv]at ha
   rw[List.getElem?_append_right Iv,l1]at hu
   simp only[if_neg hi]
   exact r2 _ a u ha hu
theorem cw.split(h:cw w P (d1++d2) us):∃(u1 u2:List Value) (P1 P2:Nat->Prop),us=u1++u2/\(∀b,P1 b->P2 b->False)/\(∀b,P1 b->P b)/\(∀b,P2 b->P b)/\cw w P1 d1 u1/\cw w P2 d2 u2:=by
 obtain⟨l,Q,q,e,r⟩:=h
 have hl:us.length=d1.length+d2.length:=by simpa using l
 refine⟨us.take d1.length,us.drop d1.length,λb=>∃i,i<d1.length/\Q i b,λb=>∃i,Q (d1.length+i) b,(List.take_append_drop _ _).symm,?_,?_,?_,⟨by simp;omega,λi b=>i<d1.length/\Q i b,?_,?_,?_⟩,⟨by simp;omega,λi b=>Q (d1.length+i) b,?_,?_,?_⟩⟩
 ·rintro b ⟨i,hi,h1⟩ ⟨j,h2⟩
  have:=e _ _ _ h1 h2
  omega
 ·rintro b ⟨i,_,h⟩;exact q _ _ h
 ·rintro b ⟨i,h⟩;exact q _ _ h
 ·rintro i b ⟨hi,h⟩;exact⟨i,hi,h⟩
 ·rintro i j b ⟨_,h⟩ ⟨_,h'⟩;exact e _ _ _ h h'
 ·intro i a u ha hu
  have hi:i<d1.length:=(List.getElem?_eq_some_iff.1 ha).1
  refine(r i a u (by rw[List.getElem?_append_left hi];exact ha) ?_).mono λb h=>⟨hi,h⟩
  rw[List.getElem?_take,if_pos hi]at hu
  exact hu
 ·intro i b h;exact⟨i,h⟩
 ·intro i j b h h'
  have:=e _ _ _ h h'
  omega
 ·intro i a u ha hu
  refine r _ a u (by rw[List.getElem?_append_right Iv];simpa using ha) ?_
  rw[List.getElem?_drop]at hu
  exact hu
theorem cw.one{d:AD}{v:Value}(h:fz w P d v):cw w P [d] [v]:=by
 refine⟨rfl,λi b=>i=0/\P b,λi b h=>h.2,λi j b h h'=>by omega,λi a u ha hu=>?_⟩
 cases i with
 |zero=>simp at ha hu;subst ha hu;exact h.mono λb hb=>⟨rfl,hb⟩
 |succ i=>simp at ha
theorem cw.get{i:Nat}{a:AD}{u:Value}(h:cw w P ds us)(ha:ds[i]? =some a)(hu:us[i]? =some u):fz w P a u:=by
 obtain⟨l,Q,q,e,r⟩:=h
 exact(r i a u ha hu).mono λb h=>q i b h
theorem cw.relD{Z:Nat->Prop}(h:cw w P ds us)(hz:∀b,P b->Z b):us.length=ds.length/\∀(i:Nat) a u,ds[i]? =some a->us[i]? =some u->bj Z w a u:=⟨h.1,λi a u ha hu=>(h.get ha hu).relD hz⟩
end
def Fam(lo hi:Nat)(cs ds:List AD):Prop:=
 cs.length=ds.length/\∀(Z:Nat->Prop) (w:World) (us:List Value),us.length=cs.length->(∀(i:Nat) c u,cs[i]? =some c->us[i]? =some u->bj Z w c u)->cw w (λb=>lo<=b/\b<hi/\Z b) ds us
def AD.isBl:AD->Bool
 | .pv _=>true
 | .sl []=>true
 |_=>false
theorem Fam.mono{lo hi lo' hi':Nat}{cs ds:List AD}(h:Fam lo hi cs ds)(h1:lo'<=lo)(h2:hi<=hi'):Fam lo' hi' cs ds:=
 ⟨h.1,λZ w us hl hr=>(h.2 Z w us hl hr).mono λb hb=>⟨by omega,by omega,hb.2.2⟩⟩
def Hk(lo hi:Nat)(w:World):AP1->Value->Prop
 | .one d,v=>cw w (λb=>lo<=b/\b<hi) [d] [v]
 | .agg ds,v=>∃us:List Value,v= .agg us.toArray/\cw w (λb=>lo<=b/\b<hi) ds us
structure D7 (E:aE) (f:FuncId) (args:List AP1) (res:AP1):Prop where
 enter:∀(us:Array Value) w,(callFunc f us).run E.P w= .ok (.enter f us) w
 run:∀(Z:Nat->Prop) (w:World) (us:List Value),(∀b,Z b->b<w.heap.size)->GZ E.W Z w->us.length=args.length->(∀(i:Nat) p u,args[i]? =some p->us[i]? =some u->cK Z w p u)->
  Calls E.P f us.toArray w λe w'=>∃v,e= .returned v/\Below w.heap.size w w'/\Hk w.heap.size w'.heap.size w' res v
def Rm(n m:Nat):(Nat->Prop)->World->Value->Prop:=λZ _ _=>m<=n\/∃k,m=k+1/\Z k
def wQ(n m:Nat):AO:= .frame [.one (.d (.x (Rm n m)))] [.bool true]
theorem AM{Z:Nat->Prop}{w:World}{ρ:Nat->Value}{id n m:Nat}(hρ:ρ id=undef)(h:m<=n\/∃k,m=k+1/\Z k):bB Z w ρ id (wQ n m):=by
 refine⟨hρ,rfl,λi x u hx hu=>?_⟩
 cases i with
 |zero=>
  simp at hx hu
  subst hx hu
  refine .one _ _ (show bj Z w (.x (Rm n m)) (.bool true)from .x _ _ rfl λZ' w' hz hb=>?_)
  rcases h with h|⟨k,e,h⟩
  ·exact .inl h
  ·exact .inr ⟨k,e,hz k h⟩
 |succ i=>simp at hx
theorem Ci{Z:Nat->Prop}{w:World}{ρ:Nat->Value}{id n m:Nat}(h:bB Z w ρ id (wQ n m)):m<=n\/∃k,m=k+1/\Z k:=by
 have:=h.2.2 0 _ _ rfl rfl
 cases this with
 |one _ _ h=>
  have h:bj Z w (.x (Rm n m)) (.bool true):=h
  cases h with
  |x R v h1 h=>exact h Z w (λ_ h=>h) λ_ _=>rfl
theorem WS.reframe{T:World->Prop}{S:aZ}{Z:Nat->Prop}{w:World}{ρ:Nat->Value}{ob:List (Nat×AO)}(h:WS T S Z w ρ ob){id:Nat}{vs:List AV}{us:List Value}(hrel:bB Z w ρ id (.frame vs us)):WS T S Z w ρ (cm ob id (.frame vs us)):=by
 have nob:aO (ρ id)=none:=by rw[hrel.1];rfl
 refine⟨h.os,h.tape,h.output,h.size,h.old,h.zlt,λj o b ho hb=>?_,λi j oi oj b hi hj hij hbi hbj=>?_,λj o ho=>?_,⟨λj P Q ho=>?_,λi j P Q P' Q' hi hj=>?_⟩,h.g,h.z0,h.znew⟩
 ·rw[aY]at ho
  split at ho
  ·rename_i e;subst e;rw[nob]at hb;cases hb
  ·exact h.mine j o b ho hb
 ·rw[aY]at hi hj
  split at hi
  ·rename_i e;subst e;rw[nob]at hbi;cases hbi
  ·split at hj
   ·rename_i e;subst e;rw[nob]at hbj;cases hbj
   ·exact h.sep i j oi oj b hi hj hij hbi hbj
 ·rw[aY]at ho
  split at ho
  ·rename_i e;subst e;injection ho with ho;subst ho;exact hrel.up
  ·exact h.obj j o ho
 ·rw[aY]at ho
  split at ho
  ·cases ho
  ·obtain⟨h1,h2⟩:=h.many.ok j P Q ho
   refine⟨λb hb=>⟨(h1 b hb).1,(h1 b hb).2.1,(h1 b hb).2.2.1,λi o hi hbi=>?_⟩,h2⟩
   rw[aY]at hi
   split at hi
   ·rename_i e;subst e;rw[nob]at hbi;cases hbi
   ·exact(h1 b hb).2.2.2 i o hi hbi
 ·rw[aY]at hi hj
  split at hi
  ·cases hi
  ·split at hj
   ·cases hj
   ·exact h.many.sep i j P Q P' Q' hi hj
def kq(R:Nat->(Nat->Prop)->World->Value->Prop):Nat->List AD->List AD
 |_,[]=>[]
 |i,.pv v::r=> .pv v::kq R (i+1) r
 |i,_::r=> .x (R i)::kq R (i+1) r
def Du(R:Nat->(Nat->Prop)->World->Value->Prop):AP1->AV
 | .one (.pv v)=> .one (.d (.pv v))
 | .one _=> .one (.d (.x (R 0)))
 | .agg ds=> .agg ((kq R 0 ds).map .d)
def cV:AP1->List AD
 | .one d=>[d]
 | .agg ds=>ds
theorem gj(R:Nat->(Nat->Prop)->World->Value->Prop):∀(ds:List AD) (i:Nat),(kq R i ds).length=ds.length
 |[],_=>rfl
 | .pv _::r,i=>by simp[kq,gj R r]
 | .sl _::r,i=>by simp[kq,gj R r]
 | .x _::r,i=>by simp[kq,gj R r]
theorem rC(R:Nat->(Nat->Prop)->World->Value->Prop):∀{ds:List AD} {k i:Nat} {c:AD},(kq R k ds)[i]? =some c->∃d,ds[i]? =some d/\((∃v,d= .pv v/\c= .pv v)\/c= .x (R (k+i)))
 |[],_,_,_,h=>by simp[kq]at h
 |d::r,k,0,c,h=>by
  refine⟨d,rfl,?_⟩
  cases d with
  |pv v=>simp[kq]at h;exact .inl ⟨v,rfl,h.symm⟩
  |sl xs=>simp[kq]at h;exact .inr h.symm
  |x R'=>simp[kq]at h;exact .inr h.symm
 |d::r,k,i+1,c,h=>by
  have h':(kq R (k+1) r)[i]? =some c:=by cases d<;>simpa[kq]using h
  obtain⟨d',h1,h2⟩:=rC R h'
  refine⟨d',by simpa using h1,?_⟩
  rcases h2 with h2|h2
  ·exact .inl h2
  ·exact .inr (by rw[h2];congr 2;omega)
section
variable {E:aE} {S:aZ}
theorem aa.fresh{f:FuncId}{args:List AV}{tm:List AV}{ob:List (Nat×AO)}{K:AV->ASt->Prop}{ps:List AP1}{res:AP1}{m:Nat}(hc:D7 E f ps res)(hps:aRs ob args (· =ps))(hm:aOb ob 9997 λo=>o=wQ S.w0.heap.size m)
  (hk:∀R lo hi,m<=lo->lo<=hi->Fam lo hi (kq R 0 (cV res)) (cV res)->de 9997 (wQ S.w0.heap.size hi) ob λob=>K (Du R res) ⟨tm,ob⟩):aa E S f args ⟨tm,ob⟩ K:=by
 refine⟨hc.enter,λZ ρ a w us hs hl hr=>?_⟩
 obtain⟨ps',h1,h2,rfl⟩:=fN hs.ws hl hr hps
 obtain⟨o,ho,rfl⟩:=bw hm
 have hmark:=Ci (hs.ws.obj 9997 _ ho)
 have hρ:ρ 9997=undef:=(hs.ws.obj 9997 _ ho).1
 have hmle:m<=w.heap.size:=by
  rcases hmark with h|⟨k,e,h⟩
  ·exact Nat.le_trans h hs.ws.size
  ·have:=hs.ws.zlt k h;omega
 refine(hc.run (fA Z ρ ob) w us (fA.lt hs.ws) ?_ h1 h2).mono ?_
 ·obtain⟨w1,g1,g2,g3⟩:=hs.ws.g
  exact⟨w1,g1,g2,λb hb=> .inl (g3 b hb)⟩
 ·rintro e w' ⟨v,rfl,hb,hv⟩
  have hsz:=hb.size
  obtain⟨us',hf,hvu⟩:∃us',cw w' (λb=>w.heap.size<=b/\b<w'.heap.size) (cV res) us'/\(match res with| .one _=>us'=[v]| .agg _=>v= .agg us'.toArray):=by
   cases res with
   |one d=>exact⟨[v],hv,rfl⟩
   |agg ds=>obtain⟨us',e,h⟩:=hv;exact⟨us',h,e⟩
  obtain⟨lF,Q,q,eQ,rQ⟩:=hf
  let R:Nat->(Nat->Prop)->World->Value->Prop:=λi Zx wx u=>(∀b,Q i b->Zx b)/\∃a,(cV res)[i]? =some a/\fz wx (Q i) a u
  let Z':Nat->Prop:=λb=>Z b\/(w.heap.size<=b/\b<w'.heap.size)
  have hg:=hs.grow (Z':=Z') (cL hb) (λb h=> .inl h) λb h=>h
  have hcell:∀(i:Nat) c u,(kq R 0 (cV res))[i]? =some c->us'[i]? =some u->bj Z' w' c u:=by
   intro i c u hc hu
   obtain⟨d,hd,h⟩:=rC R hc
   have ht:=rQ i d u hd hu
   rcases h with⟨x,rfl,rfl⟩|h
   ·cases ht with|pv _ _ h1=>exact .pv _ h1
   ·rw[Nat.zero_add]at h
    subst h
    refine .x _ _ ht.one λZx wx hzx hbx=>⟨λb hb=>hzx b (.inr (q i b hb)),d,hd,ht.keep λb hb=>hbx b (.inr (q i b hb))⟩
  have hfam:∀lo hi:Nat,(∀b,w.heap.size<=b->b<w'.heap.size->lo<=b/\b<hi)->Fam lo hi (kq R 0 (cV res)) (cV res):=by
   intro lo hi hlh
   refine⟨gj R _ _,λZx wx ux hl hr=>⟨by rw[hl,gj],λi b=>Q i b/\Zx b,λi b h=>?_,λi j b h h'=>eQ i j b h.1 h'.1,λi a u ha hu=>?_⟩⟩
   ·have:=hlh b (q i b h.1).1 (q i b h.1).2
    exact⟨this.1,this.2,h.2⟩
   ·have hi:i<(kq R 0 (cV res)).length:=by rw[gj];exact(List.getElem?_eq_some_iff.1 ha).1
    obtain⟨d,hd,h⟩:=rC R (List.getElem?_eq_getElem hi)
    have hrel:=hr i _ u (List.getElem?_eq_getElem hi) hu
    rw[ha]at hd
    injection hd with hd
    subst hd
    rcases h with⟨x,e1,e2⟩|h
    ·rw[e2]at hrel
     rw[e1]
     cases hrel with|pv _ h1=>exact .pv _ _ h1
    ·rw[h,Nat.zero_add]at hrel
     cases hrel with
     |x _ _ h1 hR=>
      obtain⟨hz,a',ha',ht⟩:=hR Zx wx (λ_ h=>h) λ_ _=>rfl
      rw[ha]at ha'
      injection ha' with ha'
      subst ha'
      exact ht.mono λb hb=>⟨hb,hz b hb⟩
  have hval:aV Z' w' ρ (Du R res) v:=by
   cases res with
   |one d=>
    simp only at hvu
    subst hvu
    cases d with
    |pv x=>exact .one _ _ (hcell 0 (.pv x) v rfl rfl)
    |sl xs=>exact .one _ _ (hcell 0 (.x (R 0)) v rfl rfl)
    |x R'=>exact .one _ _ (hcell 0 (.x (R 0)) v rfl rfl)
   |agg ds=>
    simp only at hvu
    subst hvu
    refine .agg _ us' (by rw[List.length_map,gj];exact lF) λi c u hc hu=>?_
    rw[List.getElem?_map]at hc
    obtain⟨d,hd,rfl⟩:=Option.map_eq_some_iff.1 hc
    exact hcell i d u hd hu
  have fin:∀hi:Nat,(hi<=S.w0.heap.size\/∃k,hi=k+1/\Z' k)->Sim E.W S Z' ρ ⟨tm,cm ob 9997 (wQ S.w0.heap.size hi)⟩ a w':=λhi h=>
   ⟨hg.ws.reframe (AM hρ h),hg.len,hg.tm,hg.df⟩
  by_cases hlt:w.heap.size<w'.heap.size
  ·refine⟨v,_,_,Z',ρ,rfl,fin w'.heap.size (.inr ⟨w'.heap.size-1,by omega,.inr Iv⟩),hval,bZ (K:=λob=>K (Du R res) ⟨tm,ob⟩) (hk R w.heap.size w'.heap.size hmle hsz (hfam _ _ λb h1 h2=>⟨h1,h2⟩))⟩
  ·refine⟨v,_,_,Z',ρ,rfl,fin m ?_,hval,bZ (K:=λob=>K (Du R res) ⟨tm,ob⟩) (hk R m m (Nat.le_refl _) (Nat.le_refl _) (hfam _ _ λb h1 h2=>by omega))⟩
   rcases hmark with h|⟨k,e,h⟩
   ·exact .inl h
   ·exact .inr ⟨k,e,.inl h⟩
end
end Go.Proofs.YtnlhpdbijmnkhaaGreatDoor
namespace Go.Proofs.YtnlhpdbijmnkhaaGreatDoor
open Go.RowKit
structure ej (P:Nat->Prop) (w w':World):Prop where
 os:w'.os=w.os
 tape:w'.tape=w.tape
 output:w'.output=w.output
 size:w'.heap.size=w.heap.size
 block:∀b,¬P b->w'.heap[b]? =w.heap[b]?
section
variable {P P':Nat->Prop} {w w1 w':World}
theorem ej.refl(P:Nat->Prop)(w:World):ej P w w:=⟨rfl,rfl,rfl,rfl,λ_ _=>rfl⟩
theorem ej.trans(h:ej P w w1)(h':ej P w1 w'):ej P w w':=⟨h'.os.trans h.os,h'.tape.trans h.tape,h'.output.trans h.output,h'.size.trans h.size,λb hb=>(h'.block b hb).trans (h.block b hb)⟩
theorem ej.mono(h:ej P w w')(hp:∀b,P b->P' b):ej P' w w':=⟨h.os,h.tape,h.output,h.size,λb hb=>h.block b λhq=>hb (hp b hq)⟩
theorem ej.setCell{a:Addr}(ha:P a.block)(u:Value):ej P w (w.setCell a u):=⟨rfl,rfl,rfl,by simp[World.setCell],λb hb=>Below.heap_setCell _ _ _ _ (λe=>hb (e▸ha))⟩
theorem ej.below{B:Nat}(h:ej P w w')(hp:∀b,P b->B<=b):Below B w w':=⟨h.os,h.tape,h.output,by rw[h.size];exact Nat.le_refl _,λk hk=>h.block k λhq=>by have:=hp k hq;omega⟩
end
theorem cw.set{w:World}{P:Nat->Prop}{x:List AD}{us:List Value}(h:cw w P x us){c:Nat}{u:Value}(h1:u.oneCell'=true):cw w P (x.set c (.pv u)) (us.set c u):=by
 obtain⟨l,Q,q,e,r⟩:=h
 refine⟨by simp[l],Q,q,e,λi a y ha hy=>?_⟩
 rw[List.getElem?_set]at ha hy
 by_cases hi:c=i
 ·subst hi
  simp only[if_true]at ha hy
  split at ha
  ·split at hy
   ·injection ha with ha;injection hy with hy;subst ha hy;exact .pv _ _ h1
   ·cases hy
  ·cases ha
 ·rw[if_neg hi]at ha hy
  exact r i a y ha hy
structure El (w0:World) (b o s:Nat) (Q:Nat->Prop) (w:World) (x:List AD) (us:List Value):Prop where
 len:us.length=s
 fam:cw w Q x us
 cell:∀(c:Nat) u,us[c]? =some u->w.cell? ⟨b,o+c,none⟩=some u
 oth:∀o',(o'<o\/o+s<=o')->w.cell? ⟨b,o',none⟩=w0.cell? ⟨b,o',none⟩
 row:∃cur cur' t,w0.heap[b]? =some (.cells cur t (0,0))/\w.heap[b]? =some (.cells cur' t (0,0))/\cur'.size=cur.size
 turn:ej (λg=>g=b\/Q g) w0 w
 nb:¬Q b
section
variable {w0 w:World} {b o s:Nat} {Q:Nat->Prop} {x:List AD} {us:List Value}
theorem El.frozen(h:El w0 b o s Q w x us)(o':Nat):w.frozen? ⟨b,o',none⟩=false:=by
 obtain⟨cur,cur',t,_,h2,_⟩:=h.row
 simp[World.frozen?,h2]
theorem El.set(h:El w0 b o s Q w x us){c:Nat}(hc:c<s)(u:Value)(h1:u.oneCell'=true):El w0 b o s Q (w.setCell ⟨b,o+c,none⟩ u) (x.set c (.pv u)) (us.set c u):=by
 have hlt:c<us.length:=by rw[h.len];exact hc
 obtain⟨cur,cur',t,r1,r2,r3⟩:=h.row
 refine⟨by simp[h.len],?_,λc' y hy=>?_,λo' ho=>?_,⟨cur,cur'.setIfInBounds (o+c) u,t,r1,by simp[World.setCell,Array.getElem?_modify,r2],by simp[r3]⟩,h.turn.trans (ej.setCell (.inl rfl) u),h.nb⟩
 ·exact cw.set (h.fam.keep λg hg=>Below.heap_setCell w ⟨b,o+c,none⟩ u g (λe=>h.nb (by have e2:g=b:=e;subst e2;exact hg))) h1
 ·rw[List.getElem?_set]at hy
  by_cases hcc:c=c'
  ·subst hcc
   rw[if_pos rfl,if_pos hlt]at hy
   injection hy with hy
   subst hy
   exact World.cell?_setCell_same _ _ _ (h.cell c _ (List.getElem?_eq_getElem hlt))
  ·rw[if_neg hcc]at hy
   exact(World.cell?_setCell_other _ _ _ _ (by intro e;injection e;omega)).trans (h.cell c' y hy)
 ·exact(World.cell?_setCell_other _ _ _ _ (by intro e;injection e;omega)).trans (h.oth o' ho)
theorem El.sub(h:El w0 b o s Q w x us){c:Nat}{a:AD}{u:Value}(ha:x[c]? =some a)(hu:us[c]? =some u):
  ∃Qc,(∀g,Qc g->Q g)/\fz w Qc a u/\∀w' a',ej Qc w w'->fz w' Qc a' u->El w0 b o s Q w' (x.set c a') us:=by
 obtain⟨l,R,q,e,r⟩:=h.fam
 refine⟨R c,q c,r c a u ha hu,λw' a' ht hr=>?_⟩
 have hb:w'.heap[b]? =w.heap[b]? :=ht.block b λhq=>h.nb (q c b hq)
 have hcell:∀o',w'.cell? ⟨b,o',none⟩=w.cell? ⟨b,o',none⟩:=λo'=>World.cell?_of_block (a:=⟨b,o',none⟩) hb
 obtain⟨cur,cur',t,r1,r2,r3⟩:=h.row
 refine⟨h.len,⟨by simp[l],R,q,e,λi a2 y h1 h2=>?_⟩,λc' y hy=>(hcell _).trans (h.cell c' y hy),λo' ho=>(hcell _).trans (h.oth o' ho),⟨cur,cur',t,r1,hb.trans r2,r3⟩,h.turn.trans (ht.mono λg hg=> .inr (q c g hg)),h.nb⟩
 rw[List.getElem?_set]at h1
 by_cases hi:c=i
 ·subst hi
  rw[hu]at h2
  injection h2 with h2
  subst h2
  rw[if_pos rfl]at h1
  split at h1
  ·injection h1 with h1;subst h1;exact hr
  ·cases h1
 ·rw[if_neg hi]at h1
  exact(r i a2 y h1 h2).keep λg hg=>ht.block g λhq=>hi (e _ _ g hq hg)
end
theorem fz.form{w:World}{P:Nat->Prop}{xs:List (List AD)}{v:Value}(h:fz w P (.sl xs) v):∃A cap,v= .slice A xs.length cap/\xs.length<=cap/\cap<=maxLen:=by
 cases h with
 |emp P A cap hm=>exact⟨A,cap,rfl,Nat.zero_le _,hm⟩
 |sl P xs e s us v Q hs hl hx hu hown hb hQ hd h=>
  rcases hown.2 with⟨hv,hn⟩|⟨g,cap,cur,hv,_,hg,h1,h2,h3,h4⟩
  ·exact⟨none,0,by rw[hv,hn],by omega,Nat.zero_le _⟩
  ·exact⟨_,cap,hv,h1,h2⟩
def Hj(k:Int)(P:Nat->Prop)(w:World)(G:World->Prop)(e:Ending)(w':World):Prop:=e= .returned (.int .i64 k)/\ej P w w'/\G w'
section
variable {α:Type} {mk:Int->α->α} {cnt:α->Int}
end
end Go.Proofs.YtnlhpdbijmnkhaaGreatDoor
namespace Go.Proofs.YtnlhpdbijmnkhaaGreatDoor
open Go.RowKit
structure mg (P:Nat->Prop) (w w':World):Prop where
 os:w'.os=w.os
 tape:w'.tape=w.tape
 output:w'.output=w.output
 size:w.heap.size<=w'.heap.size
 block:∀b,b<w.heap.size->¬P b->w'.heap[b]? =w.heap[b]?
theorem ej.a{P:Nat->Prop}{w w':World}(h:ej P w w'):mg P w w':=⟨h.os,h.tape,h.output,by rw[h.size];exact Nat.le_refl _,λb _ hb=>h.block b hb⟩
theorem mg.mono{P P':Nat->Prop}{w w':World}(h:mg P w w')(hp:∀b,P b->P' b):mg P' w w':=⟨h.os,h.tape,h.output,h.size,λb hl hb=>h.block b hl λhq=>hb (hp b hq)⟩
theorem cw.focusA{w:World}{P:Nat->Prop}{d1 d2 d3:List AD}{u1 u2 u3:List Value}(h:cw w P (d1++d2++d3) (u1++u2++u3))(e1:u1.length=d1.length)(e2:u2.length=d2.length)(hlt:∀b,P b->b<w.heap.size):
  ∃Q,(∀b,Q b->P b)/\cw w Q d2 u2/\∀w' d2',mg Q w w'->cw w' Q d2' u2->cw w' P (d1++d2'++d3) (u1++u2++u3):=by
 obtain⟨v12,v3,P12,P3,ev,dj,a12,a3,f12,f3⟩:=h.split
 obtain⟨e12,e3⟩:=List.append_inj ev (by rw[f12.1];simp[e1,e2])
 subst e12 e3
 obtain⟨v1,v2,P1,P2,ev,dk,b1,b2,f1,f2⟩:=f12.split
 obtain⟨e5,e6⟩:=List.append_inj ev (by rw[f1.1];exact e1)
 subst e5 e6
 refine⟨P2,λb hb=>a12 b (b2 b hb),f2,λw' d2' ht hf=>?_⟩
 exact cw.append (P1:=P12) (P2:=P3) (cw.append (P1:=P1) (P2:=P2) (f1.keep λb hb=>ht.block b (hlt b (a12 b (b1 b hb))) λhq=>dk b hb hq) hf dk b1 b2) (f3.keep λb hb=>ht.block b (hlt b (a3 b hb)) λhq=>dj b (b2 b hq) hb) dj a12 a3
def dm(u:Nat->Value):Nat->List AD->List Value
 |_,[]=>[]
 |i,.pv v::r=>v::dm u (i+1) r
 |i,_::r=>u i::dm u (i+1) r
def oy(u:Nat->Value):Nat->List AD->List AD
 |_,[]=>[]
 |i,.pv v::r=> .pv v::oy u (i+1) r
 |i,_::r=> .pv (u i)::oy u (i+1) r
def CA(u:Nat->Value)(i:Nat):AP1->AV
 | .one (.pv v)=> .one (.d (.pv v))
 | .one _=> .one (.d (.pv (u i)))
 | .agg ds=> .agg ((oy u i ds).map .d)
def uOf(us:List Value):Nat->Value:=λi=>us.getD i undef
def xP(p:AP1)(us:List Value)(v:Value):Prop:=
 match p with
 | .one _=>us=[v]
 | .agg _=>v= .agg us.toArray
theorem lk(u:Nat->Value):∀(ds:List AD) (i:Nat),(dm u i ds).length=ds.length
 |[],_=>rfl
 | .pv _::r,i=>by simp[dm,lk u r]
 | .sl _::r,i=>by simp[dm,lk u r]
 | .x _::r,i=>by simp[dm,lk u r]
theorem zE{w:World}{u:Nat->Value}:∀{ds:List AD} {us:List Value} {i:Nat},us.length=ds.length->(∀(j:Nat) a x,ds[j]? =some a->us[j]? =some x->∃P,fz w P a x)->(∀(j:Nat) x,us[j]? =some x->u (i+j)=x)->dm u i ds=us
 |[],[],_,_,_,_=>rfl
 |d::r,x::us,i,hl,hr,hu=>by
  have h0:u i=x:=hu 0 x rfl
  have ih:=zE (ds:=r) (us:=us) (i:=i+1) (by simpa using hl) (λj a y h1 h2=>hr (j+1) a y (by simpa using h1) (by simpa using h2)) λj y hy=>by rw[<-hu (j+1) y (by simpa using hy)];congr 1;omega
  obtain⟨P,ht⟩:=hr 0 d x rfl rfl
  cases d with
  |pv v=>cases ht with|pv _ _=>simp only[dm,ih]
  |sl xs=>simp only[dm,ih,h0]
  |x R=>simp only[dm,ih,h0]
 |[],_::_,_,hl,_,_=>by simp at hl
 |_::_,[],_,hl,_,_=>by simp at hl
theorem tZ{Z:Nat->Prop}{w:World}(u:Nat->Value):∀{ds:List AD} {i:Nat} {us:List Value},us.length=ds.length->(∀(j:Nat) c x,(oy u i ds)[j]? =some c->us[j]? =some x->bj Z w c x)->us=dm u i ds
 |[],_,[],_,_=>rfl
 |d::r,i,x::us,hl,hr=>by
  have ih:us=dm u (i+1) r:=tZ u (by simpa using hl) λj c y h1 h2=>hr (j+1) c y (by cases d<;>simpa[oy]using h1) (by simpa using h2)
  cases d with
  |pv v=>
   have:=hr 0 (.pv v) x rfl rfl
   cases this with|pv _ _=>rw[dm,<-ih]
  |sl xs=>
   have:=hr 0 (.pv (u i)) x rfl rfl
   cases this with|pv _ _=>show _=u i::dm u (i+1) r;rw[<-ih]
  |x R=>
   have:=hr 0 (.pv (u i)) x rfl rfl
   cases this with|pv _ _=>show _=u i::dm u (i+1) r;rw[<-ih]
 |[],_,_::_,hl,_=>by simp at hl
 |_::_,_,[],hl,_=>by simp at hl
theorem iy(u:Nat->Value):∀(ds:List AD) (i:Nat),(oy u i ds).length=ds.length
 |[],_=>rfl
 | .pv _::r,i=>by simp[oy,iy u r]
 | .sl _::r,i=>by simp[oy,iy u r]
 | .x _::r,i=>by simp[oy,iy u r]
theorem zF{Z:Nat->Prop}{w:World}{ρ:Nat->Value}{u:Nat->Value}{i:Nat}{p:AP1}{v:Value}(h:aV Z w ρ (CA u i p) v):xP p (dm u i (cV p)) v:=by
 cases p with
 |one d=>
  cases d with
  |pv x=>cases h with|one _ _ h=>cases(show bj Z w (.pv x) v from h)with|pv _ _=>rfl
  |sl xs=>cases h with|one _ _ h=>cases(show bj Z w (.pv (u i)) v from h)with|pv _ _=>rfl
  |x R=>cases h with|one _ _ h=>cases(show bj Z w (.pv (u i)) v from h)with|pv _ _=>rfl
 |agg ds=>
  cases h with
  |agg _ us hl h=>
   have:us=dm u i ds:=tZ (Z:=Z) (w:=w) u (by simpa[iy]using hl) λj c x h1 h2=>h j (.d c) x (by rw[List.getElem?_map,h1];rfl) h2
   show Value.agg us.toArray= .agg (dm u i ds).toArray
   rw[this]
theorem DA{Z:Nat->Prop}{w w':World}{P:Nat->Prop}{ρ:Nat->Value}{u:Nat->Value}{i:Nat}{p:AP1}{v:Value}(hf:cw w' P (cV p) (dm u i (cV p)))(hv:xP p (dm u i (cV p)) v):aV Z w ρ (CA u i p) v:=by
 have one:∀(j:Nat) a x,(cV p)[j]? =some a->(dm u i (cV p))[j]? =some x->x.oneCell'=true:=λj a x h1 h2=>(hf.get h1 h2).one
 cases p with
 |one d=>
  have h1:v.oneCell'=true:=one 0 d v rfl (by rw[show dm u i (cV (.one d))=[v]from hv];rfl)
  cases d with
  |pv x=>
   have e:[x]=[v]:=hv
   injection e with e
   subst e
   exact .one _ _ (show bj Z w (.pv x) x from .pv _ h1)
  |sl xs=>
   have e:[u i]=[v]:=hv
   injection e with e
   subst e
   exact .one _ _ (show bj Z w (.pv (u i)) (u i)from .pv _ h1)
  |x R=>
   have e:[u i]=[v]:=hv
   injection e with e
   subst e
   exact .one _ _ (show bj Z w (.pv (u i)) (u i)from .pv _ h1)
 |agg ds=>
  have hv:v= .agg (dm u i ds).toArray:=hv
  subst hv
  refine .agg _ _ (by simp[lk,iy]) λj c x hc hx=>?_
  rw[List.getElem?_map]at hc
  obtain⟨d,hd,rfl⟩:=Option.map_eq_some_iff.1 hc
  have hjl:j<ds.length:=by rw[<-iy u ds i];exact(List.getElem?_eq_some_iff.1 hd).1
  have h1:=one j ds[j] x (List.getElem?_eq_getElem hjl) hx
  have same:∀(ds:List AD) (i j:Nat) d x,(oy u i ds)[j]? =some d->(dm u i ds)[j]? =some x->d= .pv x:=by
   intro ds
   induction ds with
   |nil=>intro i j d x h;simp[oy]at h
   |cons a r ih=>
    intro i j d x h1 h2
    cases j with
    |zero=>cases a<;>(simp[oy]at h1;simp[dm]at h2;subst h1 h2;rfl)
    |succ j=>exact ih (i+1) j d x (by cases a<;>simpa[oy]using h1) (by cases a<;>simpa[dm]using h2)
  rw[same ds i j d x hd hx]
  exact .pv _ h1
def EU(P:Nat->Prop)(ds:List AD)(us:List Value):World->Prop:=λw=>cw w P ds us
def xN(P:Nat->Prop)(ds:List AD)(us:List Value):AO:= .many P (EU P ds us)
section
variable {T:World->Prop} {S:aZ} {Z:Nat->Prop} {w w':World} {ρ:Nat->Value} {ob:List (Nat×AO)}
theorem WS.renewT(h:WS T S Z w ρ ob)(id:Nat){P:Nat->Prop}{Q:World->Prop}(hP:∀b,P b->b<w.heap.size/\¬Z b/\(S.w0.heap.size<=b\/S.O b)/\∀j o,az ob j=some o->aO (ρ j)≠some b)
  (hd:∀j P' Q',az ob j=some (.many P' Q')->∀b,P b->P' b->False) (hq:∀w':World,(∀b,P b->w'.heap[b]? =w.heap[b]?)->Q w'):WS T S Z w (λi=>if i=id then undef else ρ i) (cm (gE id ob) id (.many P Q)):=by
 have old:∀j o,j≠id->az (cm (gE id ob) id (.many P Q)) j=some o->∃o0,az ob j=some o0/\o=gB id o0:=by
  intro j o hj ho
  rw[aY,if_neg (λe=>hj e.symm),ji]at ho
  obtain⟨o0,h0,h1⟩:=Option.map_eq_some_iff.1 ho
  exact⟨o0,h0,h1.symm⟩
 have blk:∀j b,aO (if j=id then undef else ρ j)=some b->j≠id/\aO (ρ j)=some b:=by
  intro j b hb
  by_cases hj:j=id
  ·rw[if_pos hj]at hb;cases hb
  ·rw[if_neg hj]at hb;exact⟨hj,hb⟩
 have omany:∀j P' Q',az (cm (gE id ob) id (.many P Q)) j=some (.many P' Q')->(j=id/\P'=P/\Q'=Q)\/(j≠id/\az ob j=some (.many P' Q')):=by
  intro j P' Q' ho
  by_cases hj:j=id
  ·subst hj
   rw[aY,if_pos rfl]at ho
   injection ho with ho
   injection ho with e1 e2
   exact .inl ⟨rfl,e1.symm,e2.symm⟩
  ·obtain⟨o0,h0,e⟩:=old j _ hj ho
   exact .inr ⟨hj,by rw[h0,rf e.symm]⟩
 refine⟨h.os,h.tape,h.output,h.size,h.old,h.zlt,λj o b ho hb=>?_,λi j oi oj b hi hj hij hbi hbj=>?_,λj o ho=>?_,⟨λj P' Q' ho=>?_,λi j P1 Q1 P2 Q2 hi hj hij b hb1 hb2=>?_⟩,h.g,h.z0,h.znew⟩
 ·obtain⟨hj,hb⟩:=blk j b hb
  obtain⟨o0,h0,_⟩:=old j o hj ho
  exact h.mine j o0 b h0 hb
 ·obtain⟨hi0,hbi⟩:=blk i b hbi
  obtain⟨hj0,hbj⟩:=blk j b hbj
  obtain⟨o0,h0,_⟩:=old i oi hi0 hi
  obtain⟨o1,h1,_⟩:=old j oj hj0 hj
  exact h.sep i j o0 o1 b h0 h1 hij hbi hbj
 ·by_cases hj:j=id
  ·subst hj
   rw[aY,if_pos rfl]at ho
   injection ho with ho
   subst ho
   show(if j=j then undef else ρ j)=undef
   rw[if_pos rfl]
  ·obtain⟨o0,h0,rfl⟩:=old j o hj ho
   exact rh hj (h.obj j o0 h0)
 ·have apart:∀b,(∀i o,az ob i=some o->aO (ρ i)≠some b)->∀i o,az (cm (gE id ob) id (.many P Q)) i=some o->aO (if i=id then undef else ρ i)≠some b:=by
   intro b hb i o hi hbi
   obtain⟨hi0,hbi⟩:=blk i b hbi
   obtain⟨o0,h0,_⟩:=old i o hi0 hi
   exact hb i o0 h0 hbi
  rcases omany j P' Q' ho with⟨_,rfl,rfl⟩|⟨_,ho⟩
  ·exact⟨λb hb=>⟨(hP b hb).1,(hP b hb).2.1,(hP b hb).2.2.1,apart b (hP b hb).2.2.2⟩,hq⟩
  ·obtain⟨h1,h2⟩:=h.many.ok j P' Q' ho
   exact⟨λb hb=>⟨(h1 b hb).1,(h1 b hb).2.1,(h1 b hb).2.2.1,apart b (h1 b hb).2.2.2⟩,h2⟩
 ·rcases omany i P1 Q1 hi with⟨e1,e2,e3⟩|⟨hi0,hi1⟩<;>rcases omany j P2 Q2 hj with⟨f1,f2,f3⟩|⟨hj0,hj1⟩
  ·exact hij (e1.trans f1.symm)
  ·exact hd j P2 Q2 hj1 b (e2▸hb1) hb2
  ·exact hd i P1 Q1 hi1 b (f2▸hb2) hb1
  ·exact h.many.sep i j P1 Q1 P2 Q2 hi1 hj1 hij b hb1 hb2
theorem WS.turn(h:WS T S Z w ρ ob){id:Nat}{P:Nat->Prop}{Q Q':World->Prop}(ho:az ob id=some (.many P Q))(ht:mg P w w')(hq:∀w2:World,(∀b,P b->w2.heap[b]? =w'.heap[b]?)->Q' w2):WS T S Z w' ρ (cm ob id (.many P Q')):=by
 obtain⟨hP,_⟩:=h.many.ok id P Q ho
 have hρ:ρ id=undef:=h.obj id _ ho
 have hz:∀b,Z b->w'.heap[b]? =w.heap[b]? :=λb hb=>ht.block b (h.zlt b hb) λhp=>(hP b hp).2.1 hb
 have hob:∀j o b,az ob j=some o->aO (ρ j)=some b->w'.heap[b]? =w.heap[b]? :=λj o b hj hb=>ht.block b (h.lt hj hb) λhp=>(hP b hp).2.2.2 j o hj hb
 have old:∀j o1,az (cm ob id (.many P Q')) j=some o1->∃o0,az ob j=some o0/\(j≠id->o1=o0):=by
  intro j o1 h1
  rw[aY]at h1
  split at h1
  ·rename_i e;subst e;exact⟨_,ho,λh=>absurd rfl h⟩
  ·exact⟨o1,h1,λ_=>rfl⟩
 have omany:∀j P1 Q1,az (cm ob id (.many P Q')) j=some (.many P1 Q1)->(j=id/\P1=P/\Q1=Q')\/(j≠id/\az ob j=some (.many P1 Q1)):=by
  intro j P1 Q1 h1
  by_cases hj:j=id
  ·subst hj
   rw[aY,if_pos rfl]at h1
   injection h1 with h1
   injection h1 with e1 e2
   exact .inl ⟨rfl,e1.symm,e2.symm⟩
  ·obtain⟨o0,h0,e⟩:=old j _ h1
   exact .inr ⟨hj,by rw[h0,<-e hj]⟩
 refine⟨ht.os.trans h.os,ht.tape.trans h.tape,ht.output.trans h.output,Nat.le_trans h.size ht.size,λb hb hO=>?_,λb hb=>Nat.lt_of_lt_of_le (h.zlt b hb) ht.size,λj o b hj hb=>?_,λi j oi oj b hi hj hij hbi hbj=>?_,λj o hj=>?_,⟨λj P1 Q1 hj=>?_,λi j P1 Q1 P2 Q2 hi hj hij b hb1 hb2=>?_⟩,?_,h.z0,h.znew⟩
 ·refine(ht.block b (Nat.lt_of_lt_of_le hb h.size) λhp=>?_).trans (h.old b hb hO)
  rcases(hP b hp).2.2.1 with h3|h3
  ·omega
  ·exact hO h3
 ·obtain⟨o0,h0,_⟩:=old j o hj
  exact h.mine j o0 b h0 hb
 ·obtain⟨o0,h0,_⟩:=old i oi hi
  obtain⟨o1,h1,_⟩:=old j oj hj
  exact h.sep i j o0 o1 b h0 h1 hij hbi hbj
 ·by_cases hjd:j=id
  ·subst hjd
   rw[aY,if_pos rfl]at hj
   injection hj with hj
   subst hj
   exact hρ
  ·obtain⟨o0,h0,e⟩:=old j o hj
   rw[e hjd]
   exact(h.obj j o0 h0).mono (λ_ h=>h) hz λb hb=>hob j o0 b h0 hb
 ·have apart:∀b,(∀i o,az ob i=some o->aO (ρ i)≠some b)->∀i o,az (cm ob id (.many P Q')) i=some o->aO (ρ i)≠some b:=by
   intro b hb i o hi hbi
   obtain⟨o0,h0,_⟩:=old i o hi
   exact hb i o0 h0 hbi
  rcases omany j P1 Q1 hj with⟨_,rfl,rfl⟩|⟨hjd,hj⟩
  ·exact⟨λb hb=>⟨Nat.lt_of_lt_of_le (hP b hb).1 ht.size,(hP b hb).2.1,(hP b hb).2.2.1,apart b (hP b hb).2.2.2⟩,hq⟩
  ·obtain⟨h1,h2⟩:=h.many.ok j P1 Q1 hj
   refine⟨λb hb=>⟨Nat.lt_of_lt_of_le (h1 b hb).1 ht.size,(h1 b hb).2.1,(h1 b hb).2.2.1,apart b (h1 b hb).2.2.2⟩,λw2 hw=>h2 w2 λb hb=>(hw b hb).trans (ht.block b (h1 b hb).1 λhp=>h.many.sep j id P1 Q1 P Q hj ho hjd b hb hp)⟩
 ·rcases omany i P1 Q1 hi with⟨e1,e2,e3⟩|⟨hi0,hi1⟩<;>rcases omany j P2 Q2 hj with⟨f1,f2,f3⟩|⟨hj0,hj1⟩
  ·exact hij (e1.trans f1.symm)
  ·exact h.many.sep id j P Q P2 Q2 ho hj1 (λe=>hj0 e.symm) b (e2▸hb1) hb2
  ·exact h.many.sep i id P1 Q1 P Q hi1 ho hi0 b hb1 (f2▸hb2)
  ·exact h.many.sep i j P1 Q1 P2 Q2 hi1 hj1 hij b hb1 hb2
 ·obtain⟨w1,g1,g2,g3⟩:=h.g
  exact⟨w1,g1,⟨ht.os.trans g2.os,ht.tape.trans g2.tape,ht.output.trans g2.output,Nat.le_trans g2.size ht.size,λk hk=>(hz k (g3 k hk)).trans (g2.block k hk)⟩,g3⟩
end
section
variable {E:aE} {S:aZ}
theorem xS.rs{T:World->Prop}{ob:List (Nat×AO)}{args:List AV}{ps:List AP1}(h:aRs ob args (· =ps)):xS T ob args ps:=by
 refine⟨λS Z ρ w us hs hl hr=>?_⟩
 obtain⟨ps',h1,h2,rfl⟩:=fN (E:=⟨default,.leaf,T⟩) (st:=⟨[],ob⟩) hs hl hr h
 exact⟨fA Z ρ ob,λb hb=> .inl hb,fA.lt hs,h1,h2⟩
theorem cK.up{Z Z':Nat->Prop}{w:World}(hz:∀b,Z b->Z' b){p:AP1}{v:Value}(h:cK Z w p v):cK Z' w p v:=by
 cases p with
 |one d=>exact bj.mono hz (λ_ _=>rfl) h
 |agg ds=>obtain⟨us,e,hl,hr⟩:=h;exact⟨us,e,hl,λi d u h5 h6=>(hr i d u h5 h6).mono hz λ_ _=>rfl⟩
theorem C1{P:Nat->Prop}{w:World}{p:AP1}{us:List Value}{v:Value}(h:cw w P (cV p) us)(hv:xP p us v):cK P w p v:=by
 cases p with
 |one d=>have hv:us=[v]:=hv;subst hv;exact(h.relD λ_ h=>h).2 0 d v rfl rfl
 |agg ds=>exact⟨us,hv,(h.relD λ_ h=>h).1,(h.relD λ_ h=>h).2⟩
theorem xS.tree{T:World->Prop}{ob:List (Nat×AO)}{x:AV}{rest:List AV}{p0:AP1}{psr:List AP1}(id:Nat){P:Nat->Prop}{u:Nat->Value}(hx:x=CA u 0 p0)(hob:aOb ob id λo=>o=xN P (cV p0) (dm u 0 (cV p0)))(hrest:aRs ob rest (· =psr)):xS T ob (x::rest) (p0::psr):=by
 refine⟨λS Z ρ w us hs hl hr=>?_⟩
 subst hx
 obtain⟨o,ho,rfl⟩:=bw hob
 obtain⟨hP,hQ⟩:=hs.many.ok id P _ ho
 have hF:cw w P (cV p0) (dm u 0 (cV p0)):=hQ w λ_ _=>rfl
 cases us with
 |nil=>simp at hl
 |cons v us=>
  obtain⟨ps',h1,h2,rfl⟩:=fN (E:=⟨default,.leaf,T⟩) (st:=⟨[],ob⟩) hs (xs:=rest) (us:=us) (by simpa using hl) (λi y z h1 h2=>hr (i+1) y z (by simpa using h1) (by simpa using h2)) hrest
  have hv:=zF (hr 0 _ v rfl rfl)
  refine⟨λb=>fA Z ρ ob b\/P b,λb hb=> .inl (.inl hb),λb hb=>?_,by simp[h1],λi p y h3 h4=>?_⟩
  ·rcases hb with hb|hb
   ·exact fA.lt hs b hb
   ·exact(hP b hb).1
  ·cases i with
   |zero=>simp at h3 h4;subst h3 h4;exact(C1 hF hv).up λb hb=> .inr hb
   |succ i=>exact(h2 i p y (by simpa using h3) (by simpa using h4)).up λb hb=> .inl hb
theorem aa.ext{f:FuncId}{args:List AV}{st:ASt}{K:AV->ASt->Prop}{ps:List AP1}{res:AP}(hc:an E f ps res)(hx:xS E.W st.ob args ps)(hsc:res.scalar=true)(hk:K res.v st):aa E S f args st K:=by
 refine⟨hc.enter,λZ ρ a w us hs hl hr=>?_⟩
 obtain⟨Z2,z1,z2,h1,h2⟩:=hx.h S Z ρ w us hs.ws hl hr
 refine(hc.run Z2 w us z2 ?_ h1 h2).mono ?_
 ·obtain⟨w1,g1,g2,g3⟩:=hs.ws.g
  exact⟨w1,g1,g2,λb hb=>z1 b (g3 b hb)⟩
 ·rintro e w' ⟨v,Z',rfl,hb,hz,hz2,hv⟩
  exact⟨v,res.v,st,Z,ρ,rfl,hs.grow (cL hb) (λ_ h=>h) (λ_ h=> .inl h),(hv.any hsc).v,hk⟩
theorem aa.tree{f:FuncId}{args:List AV}{st:ASt}{K:AV->ASt->Prop}{ps:List AP1}{res:AP1}(id:Nat)(hc:D7 E f ps res)(hx:xS E.W st.ob args ps)(hk:∀(P:Nat->Prop) (u:Nat->Value),uK st id (xN P (cV res) (dm u 0 (cV res))) (K (CA u 0 res))):aa E S f args st K:=by
 refine⟨hc.enter,λZ ρ a w us hs hl hr=>?_⟩
 obtain⟨Z2,z1,z2,h1,h2⟩:=hx.h S Z ρ w us hs.ws hl hr
 refine(hc.run Z2 w us z2 ?_ h1 h2).mono ?_
 ·obtain⟨w1,g1,g2,g3⟩:=hs.ws.g
  exact⟨w1,g1,g2,λb hb=>z1 b (g3 b hb)⟩
 ·rintro e w' ⟨v,rfl,hb,hv⟩
  obtain⟨us',hf,hvu⟩:∃us',cw w' (λb=>w.heap.size<=b/\b<w'.heap.size) (cV res) us'/\xP res us' v:=by
   cases res with
   |one d=>exact⟨[v],hv,rfl⟩
   |agg ds=>obtain⟨us',e,h⟩:=hv;exact⟨us',h,e⟩
  have hU:dm (uOf us') 0 (cV res)=us':=zE (w:=w') hf.1 (λj a x h1 h2=>⟨_,hf.get h1 h2⟩) λj x hj=>by simp[uOf,List.getD_eq_getElem?_getD,hj]
  have hg:=hs.grow (Z':=Z) (cL hb) (λ_ h=>h) (λ_ h=> .inl h)
  have hsz:=hs.ws.size
  have hws:=hg.ws.renewT id (P:=λb=>w.heap.size<=b/\b<w'.heap.size) (Q:=EU (λb=>w.heap.size<=b/\b<w'.heap.size) (cV res) us') (λb hb=>⟨hb.2,λhz=>by have:=hs.ws.zlt b hz;omega,.inl Iv,λj o ho hbj=>by have:=hs.ws.lt ho hbj;omega⟩)
   (λj P' Q' ho b hb hb'=>by have:=((hs.ws.many.ok j P' Q' ho).1 b hb').1;omega) λw2 hw=>hf.keep hw
  have h3:=fc (hk (λb=>w.heap.size<=b/\b<w'.heap.size) (uOf us'))
  rw[hU]at h3
  refine⟨v,_,_,Z,_,rfl,⟨hws,by simp[dX,hg.len],λi x y hx hy=>?_,hg.df⟩,DA (w':=w') (by rw[hU];exact hf) (by rw[hU];exact hvu),h3⟩
  simp only[dX,List.getElem?_map]at hx
  obtain⟨x0,h0,rfl⟩:=Option.map_eq_some_iff.1 hx
  exact io (hg.tm i x0 y h0 hy)
structure Bo (E:aE) (f:FuncId) (p:AP1) (k:Int) (p':AP1) (k':Int):Prop where
 enter:∀(us:Array Value) w,(callFunc f us).run E.P w= .ok (.enter f us) w
 run:∀(P Z:Nat->Prop) (w:World) (us:List Value) (v:Value),(∀b,Z b->b<w.heap.size)->GZ E.W Z w->(∀b,P b->b<w.heap.size/\¬Z b)->cw w P (cV p) us->xP p us v->
  Calls E.P f #[v,.int .i64 k] w λe w'=>e= .returned (.int .i64 k')/\mg P w w'/\cw w' P (cV p') us
theorem Bo.of{f:FuncId}{d d':AD}{k k':Int}(enter:∀(us:Array Value) w,(callFunc f us).run E.P w= .ok (.enter f us) w)
  (h:∀P w v,fz w P d v->Calls E.P f #[v,.int .i64 k] w (Hj k' P w λw'=>fz w' P d' v)):Bo E f (.one d) k (.one d') k':=by
 refine⟨enter,λP Z w us v hz hg hP hf hv=>?_⟩
 have hv:us=[v]:=hv
 subst hv
 refine(h P w v (hf.get (i:=0) rfl rfl)).mono ?_
 rintro e w' ⟨rfl,ht,hr⟩
 exact⟨rfl,ht.a,.one hr⟩
theorem aa.turn{f:FuncId}{x:AV}{tm:List AV}{ob:List (Nat×AO)}{K:AV->ASt->Prop}{p p':AP1}{k k':Int}(id:Nat)(j:Nat)(d1 d3:List AD)(u1 u3:List Value){P:Nat->Prop}{u:Nat->Value}{D:List AD}{U:List Value}(hc:Bo E f p k p' k')(hx:x=CA u j p)
  (hob:aOb ob id λo=>o=xN P D U) (hD:D=d1++cV p++d3) (hU:U=u1++dm u j (cV p)++u3) (hl:u1.length=d1.length)
  (hk:de id (xN P (d1++cV p'++d3) (u1++dm u j (cV p)++u3)) ob λob=>K (vI .i64 k') ⟨tm,ob⟩):aa E S f [x,vI .i64 k] ⟨tm,ob⟩ K:=by
 refine⟨hc.enter,λZ ρ a w us hs hln hr=>?_⟩
 subst hx hD hU
 obtain⟨o,ho,rfl⟩:=bw hob
 obtain⟨hP,hQ⟩:=hs.ws.many.ok id P _ ho
 have hF:cw w P (d1++cV p++d3) (u1++dm u j (cV p)++u3):=hQ w λ_ _=>rfl
 obtain⟨Q,hQP,hfq,hcl⟩:=hF.focusA hl (lk _ _ _) λb hb=>(hP b hb).1
 match us,hln with
 |[v,y],_=>
  have hv:=zF (hr 0 _ v rfl rfl)
  have hy:y= .int .i64 k:=by
   have:=hr 1 _ y rfl rfl
   cases this with|one _ _ h=>cases(show bj Z w (.pv (.int .i64 k)) y from h)with|pv _ _=>rfl
  subst hy
  refine(hc.run Q Z w _ v hs.ws.zlt hs.ws.g (λb hb=>⟨(hP b (hQP b hb)).1,(hP b (hQP b hb)).2.1⟩) hfq hv).mono ?_
  rintro e w' ⟨rfl,ht,hf'⟩
  have hF':=hcl w' (cV p') ht hf'
  have hws:=hs.ws.turn (Q':=EU P (d1++cV p'++d3) (u1++dm u j (cV p)++u3)) ho (ht.mono hQP) λw2 hw=>hF'.keep hw
  refine⟨_,_,⟨tm,cm ob id (xN P (d1++cV p'++d3) (u1++dm u j (cV p)++u3))⟩,Z,ρ,rfl,⟨hws,hs.len,λi z q hz hq=>(hs.tm i z q hz hq).mono (λ_ h=>h) λb hb=>ht.block b (hs.ws.zlt b hb) λhq=>(hP b (hQP b hq)).2.1 hb,hs.df⟩,.one (.d (.pv (.int .i64 k'))) _ (show bj Z w' (.pv (.int .i64 k')) (.int .i64 k')from .pv _ rfl),bZ hk⟩
end
end Go.Proofs.YtnlhpdbijmnkhaaGreatDoor
namespace Go.Proofs.YtnlhpdbijmnkhaaGreatDoor
open Go.RowKit
structure Fl (E:aE) (f:FuncId) (e:TypeId) (s:Nat) (xs xs':List (List AD)) (ps:List AP1):Prop where
 enter:∀(us:Array Value) w,(callFunc f us).run E.P w= .ok (.enter f us) w
 run:∀(Z:Nat->Prop) (w:World) (v:Value) (us:List Value),(∀b,Z b->b<w.heap.size)->GZ E.W Z w->bB Z w (λ_=>v) 0 (.row e s xs)->(∀b,aO v=some b->¬Z b)->us.length=ps.length->(∀(i:Nat) p u,ps[i]? =some p->us[i]? =some u->cK Z w p u)->
  Calls E.P f (v::us).toArray w λen w'=>en= .returned (.tuple #[])/\mg (λb=>aO v=some b) w w'/\bB Z w' (λ_=>v) 0 (.row e s xs')
theorem WS.turnRow{T:World->Prop}{S:aZ}{Z:Nat->Prop}{w w':World}{ρ:Nat->Value}{ob:List (Nat×AO)}(h:WS T S Z w ρ ob){id s:Nat}{e:TypeId}{xs xs':List (List AD)}(ho:az ob id=some (.row e s xs))(ht:mg (λb=>aO (ρ id)=some b) w w')
  (hr:bB Z w' (λ_=>ρ id) 0 (.row e s xs')):WS T S Z w' ρ (cm ob id (.row e s xs')):=by
 have hz:∀b,Z b->w'.heap[b]? =w.heap[b]? :=λb hb=>ht.block b (h.zlt b hb) λhp=>(h.mine id _ b ho hp).1 hb
 have far:∀j o b,j≠id->az ob j=some o->aO (ρ j)=some b->w'.heap[b]? =w.heap[b]? :=λj o b hj hjo hb=>ht.block b (h.lt hjo hb) λhp=>h.sep j id o _ b hjo ho hj hb hp
 have old:∀j o1,az (cm ob id (.row e s xs')) j=some o1->∃o0,az ob j=some o0/\(j≠id->o1=o0):=by
  intro j o1 h1
  rw[aY]at h1
  split at h1
  ·rename_i e;subst e;exact⟨_,ho,λh=>absurd rfl h⟩
  ·exact⟨o1,h1,λ_=>rfl⟩
 refine⟨ht.os.trans h.os,ht.tape.trans h.tape,ht.output.trans h.output,Nat.le_trans h.size ht.size,λb hb hO=>?_,λb hb=>Nat.lt_of_lt_of_le (h.zlt b hb) ht.size,λj o b hj hb=>?_,λi j oi oj b hi hj hij hbi hbj=>?_,λj o hj=>?_,⟨λj P Q hj=>?_,λi j P Q P' Q' hi hj hij=>?_⟩,?_,h.z0,h.znew⟩
 ·refine(ht.block b (Nat.lt_of_lt_of_le hb h.size) λhp=>?_).trans (h.old b hb hO)
  rcases(h.mine id _ b ho hp).2 with h3|h3
  ·omega
  ·exact hO h3
 ·obtain⟨o0,h0,_⟩:=old j o hj
  exact h.mine j o0 b h0 hb
 ·obtain⟨o0,h0,_⟩:=old i oi hi
  obtain⟨o1,h1,_⟩:=old j oj hj
  exact h.sep i j o0 o1 b h0 h1 hij hbi hbj
 ·by_cases hjd:j=id
  ·subst hjd
   rw[aY,if_pos rfl]at hj
   injection hj with hj
   subst hj
   exact hr
  ·obtain⟨o0,h0,e⟩:=old j o hj
   rw[e hjd]
   exact(h.obj j o0 h0).mono (λ_ h=>h) hz λb hb=>far j o0 b hjd h0 hb
 ·have hjd:j≠id:=by
   rintro rfl
   rw[aY,if_pos rfl]at hj
   cases hj
  obtain⟨o0,h0,e⟩:=old j _ hj
  have:=e hjd
  subst this
  obtain⟨h1,h2⟩:=h.many.ok j P Q h0
  refine⟨λb hb=>⟨Nat.lt_of_lt_of_le (h1 b hb).1 ht.size,(h1 b hb).2.1,(h1 b hb).2.2.1,λi o hi hbi=>?_⟩,λw2 hw=>h2 w2 λb hb=>(hw b hb).trans (ht.block b (h1 b hb).1 λhp=>(h1 b hb).2.2.2 id _ ho hp)⟩
  obtain⟨o1,h3,_⟩:=old i o hi
  exact(h1 b hb).2.2.2 i o1 h3 hbi
 ·have hid:∀k P Q,az (cm ob id (.row e s xs')) k=some (.many P Q)->az ob k=some (.many P Q):=by
   intro k P Q hk
   rw[aY]at hk
   split at hk
   ·cases hk
   ·exact hk
  exact h.many.sep i j P Q P' Q' (hid i P Q hi) (hid j P' Q' hj) hij
 ·obtain⟨w1,g1,g2,g3⟩:=h.g
  exact⟨w1,g1,⟨ht.os.trans g2.os,ht.tape.trans g2.tape,ht.output.trans g2.output,Nat.le_trans g2.size ht.size,λk hk=>(hz k (g3 k hk)).trans (g2.block k hk)⟩,g3⟩
section
variable {E:aE} {S:aZ}
theorem aa.row{f:FuncId}{rest:List AV}{tm:List AV}{ob:List (Nat×AO)}{K:AV->ASt->Prop}{id s:Nat}{e:TypeId}{xs xs':List (List AD)}{ps:List AP1}(hc:Fl E f e s xs xs' ps)(hob:aOb ob id λo=>o= .row e s xs)(hps:aPs rest (· =ps))
  (hk:de id (.row e s xs') ob λob=>K (.tup []) ⟨tm,ob⟩):aa E S f (.one (.own id)::rest) ⟨tm,ob⟩ K:=by
 refine⟨hc.enter,λZ ρ a w us hs hl hr=>?_⟩
 obtain⟨o,ho,rfl⟩:=bw hob
 cases us with
 |nil=>simp at hl
 |cons v us=>
  have hv:v=ρ id:=by
   have:=hr 0 _ v rfl rfl
   cases this with|one _ _ h=>exact h.1
  subst hv
  have hws0:WS E.W S Z w ρ []:=hs.ws.sub ae.nil
  obtain⟨ps',h1,h2,rfl⟩:=fN (st:=⟨[],[]⟩) hws0 (xs:=rest) (us:=us) (by simpa using hl) (λi y z h1 h2=>hr (i+1) y z (by simpa using h1) (by simpa using h2)) (x8 hps)
  have hz0:∀b,fA Z ρ [] b->Z b:=by rintro b (hb|⟨id,o,ho,_⟩);exact hb;cases ho
  refine(hc.run Z w (ρ id) us hs.ws.zlt hs.ws.g (hs.ws.obj id _ ho) (λb hb=>(hs.ws.mine id _ b ho hb).1) h1 λi p u h3 h4=>(h2 i p u h3 h4).up hz0).mono ?_
  rintro en w' ⟨rfl,ht,hr'⟩
  have hz:∀b,Z b->w'.heap[b]? =w.heap[b]? :=λb hb=>ht.block b (hs.ws.zlt b hb) λhp=>(hs.ws.mine id _ b ho hp).1 hb
  refine⟨_,.tup [],⟨tm,cm ob id (.row e s xs')⟩,Z,ρ,rfl,⟨hs.ws.turnRow ho ht hr',hs.len,λi z q hz' hq=>(hs.tm i z q hz' hq).mono (λ_ h=>h) hz,hs.df⟩,.tup [] [] rfl Iy,bZ hk⟩
end
end Go.Proofs.YtnlhpdbijmnkhaaGreatDoor
namespace Go.Proofs.YtnlhpdbijmnkhaaGreatDoor
open Go.RowKit
section
variable {E:aE} {S:aZ} {Z:Nat->Prop} {ρ:Nat->Value} {st:ASt} {a:Act} {w:World} {K:ASt->Prop} {o:Oper}
structure gZ where
 id:Nat
 fid:Nat
 b:Nat
 us:List Value
 t:TypeId
def xc(b:Nat)(us:List Value)(t:TypeId):World->Value->Prop:=λw v=>v= .pointer (some ⟨b,0,none⟩)/\w.heap[b]? =some (.cells us.toArray t (0,0))
def zO(R:(Nat->Prop)->World->Value->Prop):AO:= .frame [.one (.d (.x R))] [.bool true]
def uA(ps:List gZ)(w:World):Prop:=∀p∈ps,w.heap[p.b]? =some (.cells p.us.toArray p.t (0,0))
def Fk(E:aE)(Z:Nat->Prop)(ρ:Nat->Value)(o:Oper)(a:Act)(w:World)(C:World->Prop)(K:AV->Prop):Prop:=∃x v,aV Z w ρ x v/\(∀w',C w'->(execOp a.eval o).run E.P w'= .ok (.value v) w')/\K x
theorem gk{t:TypeId}{i:TI}(hi:al E.P t i){b off:Nat}{us:List Value}{cs:List AC}(hl:us.length=cs.length)(hr:∀(j:Nat) c u,cs[j]? =some c->us[j]? =some u->cH Z w ρ c u){K:AV->Prop}(hk:kz i cs K):
  ∃x v,(∀w':World,(∀j u,us[j]? =some u->w'.cell? ⟨b,off+j,none⟩=some u)->(loadVar t ⟨b,off,none⟩).run E.P w'= .ok v w')/\aV Z w ρ x v/\K x:=by
 unfold kz at hk
 unfold loadVar
 split at hk
 ·rename_i hg
  obtain⟨hle,hk⟩:=g9 hk
  refine⟨_,.agg (us.take i.size).toArray,λw' hc=>?_,.agg _ (us.take i.size) (by simp[hl]) λj c u h1 h2=>?_,hk⟩
  ·have hlen:(us.take i.size).length=i.size:=by simp;omega
   have:=run_loadCells_list (P:=E.P) w' ⟨b,off,none⟩ (us.take i.size) (λj u hu=>by
    have hadd:(⟨b,off,none⟩:Addr).add j=⟨b,off+j,none⟩:=by unfold Addr.add;split<;>simp_all
    rw[hadd]
    rw[List.getElem?_take]at hu
    split at hu
    ·exact hc j u hu
    ·cases hu)
   rw[hlen]at this
   simp only[Sem.run_bind,hi.ag,hg,Result.andThen_ok,if_true,hi.sz,this,Sem.run_pure]
  ·rw[List.getElem?_take]at h1 h2
   split at h1
   ·rename_i hlt;rw[if_pos hlt]at h2;exact hr j c u h1 h2
   ·cases h1
 ·rename_i hg
  split at hk
  ·rename_i c r
   cases us with
   |nil=>simp at hl
   |cons u us=>
    refine⟨_,u,λw' hc=>?_,.one _ _ (hr 0 c u rfl rfl),hk⟩
    have:=hc 0 u rfl
    simp only[Nat.add_zero]at this
    simp[hi.ag,hg,this]
  ·exact hk.elim
theorem yf(he:E.Ok){t:TypeId}{i:TI}(hi:al E.P t i){us:List Value}{cs:List AC}(hl:us.length=cs.length)(hr:∀(j:Nat) c u,cs[j]? =some c->us[j]? =some u->cH Z w ρ c u){off:Nat}(hoff:off<=cs.length){K:AV->Prop}(hk:kz i (cs.drop off) K):
  ∃x v,(∀w',(part t us.toArray off).run E.P w'= .ok v w')/\aV Z w ρ x v/\K x:=by
 unfold kz at hk
 unfold part
 split at hk
 ·rename_i hg
  obtain⟨hle,hk⟩:=g9 hk
  refine⟨_,.agg ((us.drop off).take i.size).toArray,λw'=>?_,.agg _ ((us.drop off).take i.size) (by simp[hl]) λj c u h1 h2=>?_,hk⟩
  ·simp only[Sem.run_bind,hi.ag,hg,Result.andThen_ok,if_true,hi.sz,Sem.run_pure]
   congr 2
   simp[List.extract]
  ·rw[List.getElem?_take]at h1 h2
   split at h1
   ·rename_i hlt
    rw[if_pos hlt]at h2
    rw[List.getElem?_drop]at h1 h2
    exact hr _ c u h1 h2
   ·cases h1
 ·rename_i hg
  split at hk
  ·rename_i c r hcs
   have h1:cs[off]? =some c:=by
    have:=congrArg (·[0]?) hcs
    simpa using this
   have hlt:off<us.length:=by rw[hl];exact(List.getElem?_eq_some_iff.1 h1).1
   refine⟨_,us[off],λw'=>?_,.one _ _ (hr off c us[off] h1 (List.getElem?_eq_getElem hlt)),hk⟩
   simp[hi.ag,hg,hlt]
  ·exact hk.elim
def uN:List gZ->Nat->(gZ->Prop)->Prop
 |[],_,_=>False
 |p::r,i,K=>match Nat.beq p.id i with
  |true=>K p
  |false=>uN r i K
theorem qv{K:gZ->Prop}{i:Nat}:∀{ps:List gZ},uN ps i K->∃p∈ps,p.id=i/\K p
 |[],h=>h.elim
 |p::r,h=>by
  unfold uN at h
  split at h
  ·rename_i e;exact⟨p,by simp,Nat.eq_of_beq_eq_true e,h⟩
  ·obtain⟨q,h1,h2⟩:=qv h;exact⟨q,by simp[h1],h2⟩
def zg:List AV->(List AC->Prop)->Prop
 |[],K=>K []
 | .one c::r,K=>zg r λcs=>K (c::cs)
 |_::_,_=>False
theorem n7:∀{vs:List AV} {K:List AC->Prop},zg vs K->∃cs,vs=cs.map .one/\K cs
 |[],_,h=>⟨[],rfl,h⟩
 | .one c::r,K,h=>by obtain⟨cs,e,hk⟩:=n7 (vs:=r) h;exact⟨c::cs,by rw[e];rfl,hk⟩
 | .agg _::_,_,h=>h.elim
 | .tup _::_,_,h=>h.elim
def Bx(E:aE)(ps:List gZ)(pre:Bool)(o:Oper)(st:ASt)(K:AV->Prop):Prop:=
 match o.op with
 | .move x| .assign x=>aEv st x K
 | .field t x f=>aEv st x λx=>mz E t x f K
 | .fieldAddr t x f=>aEv st x λx=>eN E t x f K
 | .extract x i=>aEv st x λx=>match x with
  | .tup vs=>g8 vs i K
  |_=>False
 | .load t x=>aEv st x λx=>match x with
  | .one (.ref id k s off) => uN ps id fun p => aOb st.ob p.id fun o1 => And (o1 = .any (xc p.b p.us p.t)) (aOb st.ob p.fid fun o2 => match o2 with
   | .frame vs us=>And (k=0) (And (us=p.us) (zg vs λcs=>m3 cs off λcs=>aTI E.T t λi=>kz i cs K))
   |_=>False)
  | .one (.ptr ds)=>match pre with
   |true=>oM ds λcs=>aTI E.T t λi=>kz i cs K
   |false=>False
  |_=>False
 | .indexAddr t x i=>aEv st x λx=>aEv st i λi=>match x with
  | .one (.d (.sl xs))=>match i with
   | .one (.d (.pv (.int _ n)))=>aTI E.T t λti=>match ti.kind with
    | .sl e=>aTI E.T e λj=>match j.size with
     |0=>False
     |s+1=>AIx xs n λ_ x=>match vT x (s+1)with
      |true=>K (.one (.ptr x))
      |false=>False
    |_=>False
   |_=>False
  |_=>False
 |_=>False
theorem xd(he:E.Ok){ps:List gZ}{pre:Bool}{C:World->Prop}{K:AV->Prop}(h:Sim E.W S Z ρ st a w)(hC1:∀w',C w'->uA ps w')(hC2:pre=true->∀w',C w'->∀b,Z b->w'.heap[b]? =w.heap[b]?)(hk:Bx E ps pre o st K):Fk E Z ρ o a w C K:=by
 unfold Bx at hk
 split at hk
 ·rename_i x ho
  obtain⟨v,hv,hk⟩:=aG h hk
  exact⟨_,_,hv,λw' _=>by simp[execOp,ho],hk⟩
 ·rename_i x ho
  obtain⟨v,hv,hk⟩:=aG h hk
  exact⟨_,_,hv,λw' _=>by simp[execOp,ho],hk⟩
 ·rename_i t x f ho
  obtain⟨vx,hx,hk⟩:=aG h hk
  unfold mz at hk
  split at hk
  ·rename_i cs
   obtain⟨i,hi,hk⟩:=aK he hk
   split at hk
   ·rename_i fs hfs
    obtain⟨fields,hu,hf⟩:=hi.stf hfs
    obtain⟨p,hp,hk⟩:=bS hk
    obtain⟨j,hj,hk⟩:=aK he hk
    obtain⟨hle,hk⟩:=d5 hk
    rw[<-hf,List.getElem?_map]at hp
    obtain⟨fl,hfl,rfl⟩:=Option.map_eq_some_iff.1 hp
    have hfl':fields[f]? =some fl:=by simpa using hfl
    generalize hev:a.eval x=ve at hx
    cases hx with
    |agg _ us hl hr=>
     obtain⟨y,v,hrun,hy,hk⟩:=yf (w:=w) (ρ:=ρ) he hj hl hr hle hk
     refine⟨_,_,hy,λw' _=>?_,hk⟩
     simp[execOp,ho,hev,Instr.field,run_underlying hu,hfl',asAgg,hrun]
   ·exact hk.elim
  ·exact hk.elim
 ·rename_i t x f ho
  obtain⟨vx,hx,hk⟩:=aG h hk
  obtain⟨i,hi,hk⟩:=aK he hk
  split at hk
  ·rename_i fs hfs
   obtain⟨fields,hu,hf⟩:=hi.stf hfs
   obtain⟨p,hp,hk⟩:=bS hk
   obtain⟨j,hj,hk⟩:=aK he hk
   rw[<-hf,List.getElem?_map]at hp
   obtain⟨fl,hfl,rfl⟩:=Option.map_eq_some_iff.1 hp
   have hfl':fields[f]? =some fl:=by simpa using hfl
   split at hk
   ·exact hk.elim
   ·rename_i n hn
    have run:∀b off,a.eval x= .pointer (some ⟨b,off,none⟩)->∀w',(execOp a.eval o).run E.P w'= .ok (.value (.pointer (some ⟨b,off+fl.offset,none⟩))) w':=by
     intro b off e w'
     have:=lu (P:=E.P) (b:=b) (off:=off) (fl:=fl) w' hj.sz Iv
     simp[execOp,ho,e,Instr.fieldAt,run_underlying hu,hfl',Instr.sureAddr,this]
    split at hk
    ·cases hx with
     |one _ _ hx=>
      obtain⟨b,hb,e⟩:=hx
      refine⟨_,_,(lq hb ?_),(λw' _=>run _ _ e w'),hk⟩
      rw[Nat.add_assoc]
    ·cases hx with
     |one _ _ hx=>
      obtain⟨b,off,us,e,hZ,hl,hc,hd⟩:=hx
      obtain⟨hle,hk⟩:=d5 hk
      refine⟨_,_,(nF ⟨b,off+fl.offset,us.drop fl.offset,rfl,hZ,by simp[hl],λi u hu=>?_,λi x u h1 h2=>?_⟩),(λw' _=>run _ _ e w'),hk⟩
      ·rw[List.getElem?_drop]at hu
       rw[Nat.add_assoc]
       exact hc _ u hu
      ·rw[List.getElem?_drop]at h1 h2
       exact hd _ x u h1 h2
    ·exact hk.elim
  ·exact hk.elim
 ·rename_i x i ho
  obtain⟨vx,hx,hk⟩:=aG h hk
  split at hk
  ·rename_i vs
   obtain⟨y,hy,hk⟩:=bS hk
   generalize hev:a.eval x=ve at hx
   cases hx with
   |tup _ us hl hr=>
    have hlt:i<us.length:=by rw[hl];exact(List.getElem?_eq_some_iff.1 hy).1
    refine⟨_,_,(hr i y us[i] hy (List.getElem?_eq_getElem hlt)),λw' _=>?_,hk⟩
    simp[execOp,ho,hev,Instr.extract,hlt]
  ·exact hk.elim
 ·rename_i t x ho
  obtain⟨vx,hx,hk⟩:=aG h hk
  split at hk
  ·rename_i id k s off
   obtain⟨p,hp,hid,hk⟩:=qv hk
   obtain⟨o1,ho1,rfl,hk⟩:=bw hk
   obtain⟨o2,ho2,hk⟩:=bw hk
   cases o2 with
   |frame vs us=>
    simp only at hk
    obtain⟨ek,eu,hk1⟩:=hk
    subst ek eu
    obtain⟨cs,e0,hk⟩:=n7 hk1
    subst e0
    obtain⟨hle,hk⟩:=d5 hk
    obtain⟨i,hi,hk⟩:=aK he hk
    cases hx with
    |one _ _ hx=>
     obtain⟨b,hb,e⟩:=hx
     obtain⟨b',hb',hlt,hq⟩:=(show bB Z w ρ p.id (.any (xc p.b p.us p.t))from h.ws.obj p.id _ ho1)
     have hq0:=hq w rfl
     rw[<-hid,hq0.1]at hb
     simp only[aO]at hb
     injection hb with hb
     subst hb
     rw[Nat.zero_mul,Nat.zero_add]at e
     obtain⟨_,hfl,hfr⟩:=(show bB Z w ρ p.fid (.frame (cs.map .one) p.us)from h.ws.obj p.fid _ ho2)
     have hl:p.us.length=cs.length:=by simpa using hfl
     obtain⟨y,v,hrun,hy,hk⟩:=gk (E:=E) (Z:=Z) (w:=w) (ρ:=ρ) hi (b:=p.b) (off:=off) (us:=p.us.drop off) (cs:=cs.drop off) (by simp[hl]) (λj c u h1 h2=>by
      rw[List.getElem?_drop]at h1 h2
      have:=hfr (off+j) (.one c) u (by rw[List.getElem?_map,h1];rfl) h2
      cases this with|one _ _ h=>exact h) hk
     refine⟨_,_,hy,λw' hS=>?_,hk⟩
     have hcell:=hC1 w' hS p hp
     have:=hrun w' λj u hu=>by
      rw[List.getElem?_drop]at hu
      rw[cell_of_row w' p.b _ _ _ _ hcell]
      simpa using hu
     simp[execOp,ho,e,Instr.loadAt,Instr.sureAddr,this]
   |_=>exact hk.elim
  ·rename_i ds
   split at hk
   ·have hk:=fT hk
    obtain⟨i,hi,hk⟩:=aK he hk
    cases hx with
    |one _ _ hx=>
     obtain⟨b,off,us,e,hZ,hl,hc,hd⟩:=hx
     obtain⟨y,v,hrun,hy,hk⟩:=gk (E:=E) (Z:=Z) (w:=w) (ρ:=ρ) hi (b:=b) (off:=off) (us:=us) (cs:=ds.map .d) (by simp[hl]) (λj c u h1 h2=>by
      rw[List.getElem?_map]at h1
      obtain⟨d,h3,rfl⟩:=Option.map_eq_some_iff.1 h1
      exact hd j d u h3 h2) hk
     refine⟨_,_,hy,λw' hS=>?_,hk⟩
     have:=hrun w' λj u hu=>(World.cell?_of_block (a:=⟨b,off+j,none⟩) (hC2 rfl w' hS b hZ)).trans (hc j u hu)
     simp[execOp,ho,e,Instr.loadAt,Instr.sureAddr,this]
   ·exact hk.elim
  ·exact hk.elim
 ·rename_i t x ix ho
  obtain⟨vx,hx,hk⟩:=aG h hk
  obtain⟨vi,hi,hk⟩:=aG h hk
  split at hk
  ·rename_i xs
   split at hk
   ·rename_i ki n
    have ei:=be hi
    obtain⟨ti,hti,hk⟩:=aK he hk
    split at hk
    ·rename_i e hs
     have hu:=hti.sl hs
     obtain⟨j,hj,hk⟩:=aK he hk
     split at hk
     ·exact hk.elim
     ·rename_i s hjs
      have run:∀(b off k len cap:Nat),n=(k:Int)->k<len->a.eval x= .slice (some ⟨b,off,none⟩) len cap->∀w',(execOp a.eval o).run E.P w'= .ok (.value (.pointer (some ⟨b,off+k*(s+1),none⟩))) w':=by
       intro b off k len cap hn hkl ev w'
       subst hn
       have hadd:(⟨b,off,none⟩:Addr).add (k*(s+1))=⟨b,off+k*(s+1),none⟩:=by unfold Addr.add;split<;>simp_all
       have hnk:¬len<=k:=by omega
       simp[execOp,ho,ei,ev,Instr.indexAt,asIntOf,run_underlying hu,hkl,hnk,hj.sz,hjs,hadd]
      generalize hev:a.eval x=ve at hx
      cases hx with
      |one _ _ hx=>
       cases hx with
       |sl xs A cap s' us hc hm hl hxs hus hr hd=>
        obtain⟨k,ex,hn,hex,hk⟩:=hk.h
        split at hk
        ·rename_i hlen
         have hlen:=qm hlen
         have hkx:=(List.getElem?_eq_some_iff.1 hex).1
         have hku:k<us.length:=by rw[hl];exact hkx
         have hu1:us[k]? =some us[k]:=List.getElem?_eq_getElem hku
         have hul:=hus us[k] (List.getElem_mem hku)
         have hs':s'=s+1:=by rw[<-hxs ex (List.mem_of_getElem? hex)];exact hlen
         subst hs'
         have hne:us.flatten≠ []:=by
          intro h0
          have:=ij hus hu1 (List.getElem?_eq_getElem (show 0<us[k].length by omega))
          rw[h0]at this
          simp at this
         obtain⟨b,off,hA,hZ,hcell⟩:=hr.resolve_left hne
         subst hA
         refine⟨_,_,(nF ⟨b,off+k*(s+1),us[k],rfl,hZ,by rw[hul,hlen],λi u hu=>?_,λi d u h1 h2=>hd k i ex us[k] d u hex hu1 h1 h2⟩),(λw' _=>run b off k _ cap hn hkx hev w'),hk⟩
         rw[Nat.add_assoc]
         exact hcell _ u (ij hus hu1 hu)
        ·exact hk.elim
    ·exact hk.elim
   ·exact hk.elim
  ·exact hk.elim
 ·exact hk.elim
end
inductive Sch where
 |done
 |take (i:Nat) (s:Sch)
 |one (i:Nat) (s:Sch)
 |two (i:Nat) (s:Sch) (j:Nat) (t:Sch)
 |three (i:Nat) (s:Sch) (j:Nat) (t:Sch) (k:Nat) (u:Sch)
structure bf (X Y:Prop):Prop where
 l:X
 r:Y
def qE(E:aE)(S:aZ)(ops:List Oper)(i:Nat)(st:ASt)(K:ASt->Prop):Prop:=
 g8 ops i λo=>qg ops o st (λst=>aop E S o st K) (λst=>cF st o.dst (.one .und) K)
def fM(R:(Nat->Prop)->World->Value->Prop):List gZ->ASt->Prop->Prop
 |[],st,X=>aOb st.ob 9970 λo=>And (o=zO R) X
 |p::r,st,X=>aOb st.ob p.id λo=>And (o= .any (xc p.b p.us p.t)) (fM R r st X)
def BI(E:aE)(ps:List gZ)(pre:Bool)(ops:List Oper)(i:Nat)(st:ASt)(K:ASt->Prop):Prop:=
 g8 ops i λo=>qg ops o st (λst=>Bx E ps pre o st λv=>cF st o.dst v K) (λst=>cF st o.dst (.one .und) K)
def qF(E:aE)(S:aZ)(ps:List gZ)(R:(Nat->Prop)->World->Value->Prop)(ops:List Oper):Sch->ASt->(ASt->Prop)->Prop
 | .done,st,K=>K st
 | .take i s,st,K=>BI E ps false ops i st λst=>qF E S ps R ops s st K
 | .one i s,st,K=>qE E S ops i st λst=>fM R ps st (qF E S ps R ops s st K)
 | .two i s j t,st,K=>bf (qE E S ops i st λst=>fM R ps st (qF E S ps R ops s st K)) (qE E S ops j st λst=>fM R ps st (qF E S ps R ops t st K))
 | .three i s j t k u,st,K=>bf (qE E S ops i st λst=>fM R ps st (qF E S ps R ops s st K)) (bf (qE E S ops j st λst=>fM R ps st (qF E S ps R ops t st K)) (qE E S ops k st λst=>fM R ps st (qF E S ps R ops u st K)))
def zh(E:aE)(S:aZ)(ps:List gZ)(R:(Nat->Prop)->World->Value->Prop)(ops:List Oper):Sch->ASt->(ASt->Prop)->Prop
 | .take i s,st,K=>BI E ps true ops i st λst=>zh E S ps R ops s st K
 |s,st,K=>qF E S ps R ops s st K
def inL(L:List Nat)(i:Nat):Bool:=L.contains i
def rK(A:List (List Nat))(L:List Nat)(i:Nat):Bool:=Nat.blt i A.length&& !inL L i&&(A.getD i []).all (inL L)
def fx(ops:List Oper)(A:List (List Nat)):Sch->List Nat->Bool
 | .done,L=>(List.range A.length).all (inL L)
 | .take i s, L => rK A L i && (match ops[i]? with
   | some o => (List.range A.length).all fun j => Nat.beq j i || inL L j || inL (A.getD j []) i || (match ops[j]? with
    |some oj=>o.apart ops.toArray oj
    |none=>true)
   |none=>false)&&fx ops A s (i::L)
 | .one i s,L=>rK A L i&&((List.range A.length).all λj=>Nat.beq j i|| !rK A L j)&&fx ops A s (i::L)
 | .two i s k t,L=>rK A L i&&rK A L k&&((List.range A.length).all λj=>Nat.beq j i||Nat.beq j k|| !rK A L j)&&fx ops A s (i::L)&&fx ops A t (k::L)
 | .three i s k t m u,L=>rK A L i&&rK A L k&&rK A L m&&((List.range A.length).all λj=>Nat.beq j i||Nat.beq j k||Nat.beq j m|| !rK A L j)&&fx ops A s (i::L)&&fx ops A t (k::L)&&fx ops A u (m::L)
def Co(ops:List Oper):Bool:=ops.all λo=>match o.op with| .select _ _=>false|_=>true
section
variable {E:aE} {S:aZ} {ops:Array Oper}
theorem d9{listed:Array Bool}(hs:listed.size=ops.size){i:Nat}:
  i∈Region.ready .any ops listed↔i<ops.size/\a7 listed i=false/\∀e∈bU ops.toList i,a7 listed e=true:=by
 rw[mem_ready]
 constructor
 ·rintro⟨h1,o,ho,h2⟩
  have hlt:=(Array.getElem?_eq_some_iff.1 ho).1
  refine⟨hlt,?_,λe he=>?_⟩
  ·simp only[a7,Array.getD_eq_getD_getElem?]at h1⊢
   rw[Array.getElem?_eq_getElem Iv]at h1⊢
   simpa using h1
  ·rw[aT (by simpa using ho)]at he
   obtain⟨e',he',rfl⟩:=List.mem_map.1 he
   obtain⟨hm,hb⟩:=List.mem_filter.1 he'
   exact h2 e' (by simpa using hm) hb
 ·rintro⟨hlt,h1,h2⟩
  refine⟨?_,ops[i],Array.getElem?_eq_getElem hlt,λe he hb=>?_⟩
  ·simp only[a7,Array.getD_eq_getD_getElem?]at h1⊢
   rw[Array.getElem?_eq_getElem Iv]at h1⊢
   simpa using h1
  ·refine h2 _ ?_
   rw[aT (o:=ops[i]) (by simp[hlt])]
   exact List.mem_map.2 ⟨e,List.mem_filter.2 ⟨by simpa using he,hb⟩,rfl⟩
theorem dK{A:List (List Nat)}(hA:ops.toList.map iO=A){listed:Array Bool}{L:List Nat}(hs:listed.size=ops.size)(hl:∀j,j<ops.size->a7 listed j=inL L j)(hlt:∀i o,ops.toList[i]? =some o->∀e∈iO o,e<i){i:Nat}:i∈Region.ready .any ops listed↔rK A L i=true:=by
 have hlen:A.length=ops.size:=by rw[<-hA];simp
 rw[d9 hs]
 unfold rK
 simp only[Bool.and_eq_true,Bool.not_eq_true',List.all_eq_true,hlen]
 constructor
 ·rintro⟨h1,h2,h3⟩
  have hget:ops.toList[i]? =some ops[i]:=by simp[h1]
  refine⟨⟨Nat.ble_eq_true_of_le h1,by rw[<-hl i h1];exact h2⟩,λe he=>?_⟩
  have he':e∈iO ops[i]:=by
   rw[<-hA,List.getD_eq_getElem?_getD,List.getElem?_map,hget]at he
   exact he
  have hei:=hlt i _ hget e he'
  rw[<-hl e Iv]
  exact h3 e (by rw[aT hget];exact he')
 ·rintro⟨⟨h1,h2⟩,h3⟩
  have h1:i<ops.size:=Nat.le_of_ble_eq_true h1
  have hget:ops.toList[i]? =some ops[i]:=by simp[h1]
  refine⟨h1,by rw[hl i h1];exact h2,λe he=>?_⟩
  rw[aT hget]at he
  have hei:=hlt i _ hget e he
  rw[hl e Iv]
  refine h3 e ?_
  rw[<-hA,List.getD_eq_getElem?_getD,List.getElem?_map,hget]
  exact he
theorem AU(he:E.Ok){K:ASt->Prop}{Q:Exit->Act->World->Prop}{A:List (List Nat)}(ps:List gZ)(R:(Nat->Prop)->World->Value->Prop)(C:World->Prop)(hC1:∀w',C w'->uA ps w')(hCz:∀Z w',uA ps w'->R Z w' (.bool true)->C w')(hA:ops.toList.map iO=A)(hlt:∀i o,ops.toList[i]? =some o->∀e∈iO o,e<i)(hsel:Co ops.toList=true)
  (hQ:∀a w,(∃st',ce E.W S st' a w/\K st')->Q .normal a w) (hP:∀c a w,¬Q (.panic c) a w):
  ∀(s:Sch) (L:List Nat) (fuel:Nat) (listed:Array Bool) (st:ASt) (a:Act) (w:World),listed.size=ops.size->(∀j,j<ops.size->a7 listed j=inL L j)->fx ops.toList A s L=true->fD (a7 listed) ops.size<=fuel->ce E.W S st a w->C w->
   qF E S ps R ops.toList s st K->wpAnyH E.P .any ops Q C fuel listed a w:=by
 have hlen:A.length=ops.size:=by rw[<-hA];simp
 have hse:∀(j:Nat) (o:Oper) cs b,ops[j]? =some o->o.op≠ .select cs b:=by
  intro j o cs b ho e
  have:=List.all_eq_true.1 hsel o (by have:=Array.mem_of_getElem? ho;simpa using this)
  rw[e]at this
  cases this
 intro s
 have step:∀(i:Nat) (s:Sch) (L:List Nat) (fuel:Nat) (listed:Array Bool) (st:ASt) (a:Act) (w:World),listed.size=ops.size->(∀j,j<ops.size->a7 listed j=inL L j)->rK A L i=true->fD (a7 listed) ops.size<=fuel+1->
   (∀(L:List Nat) (fuel:Nat) (listed:Array Bool) (st:ASt) (a:Act) (w:World),listed.size=ops.size->(∀j,j<ops.size->a7 listed j=inL L j)->fx ops.toList A s L=true->fD (a7 listed) ops.size<=fuel->ce E.W S st a w->C w->qF E S ps R ops.toList s st K->wpAnyH E.P .any ops Q C fuel listed a w)->
   fx ops.toList A s (i::L)=true->i<ops.size/\a7 listed i=false/\∀(st:ASt) (a:Act) (w:World),ce E.W S st a w->C w->qF E S ps R ops.toList s st K->wpAnyH E.P .any ops Q C fuel (listed.setIfInBounds i true) a w:=by
  intro i s L fuel listed st a w hs hl hr hf ih hok
  have hm:=(dK hA hs hl hlt).2 hr
  obtain⟨h1,h2,_⟩:=(d9 hs).1 hm
  refine⟨h1,h2,λst a w h hS hk=>ih (i::L) fuel _ st a w (by simpa using hs) (λj hj=>?_) hok ?_ h hS hk⟩
  ·rw[fv Iv]
   simp only[hl j hj,inL,List.contains_cons]
   cases hb:Nat.beq j i with
   |true=>have:=Nat.eq_of_beq_eq_true hb;subst this;simp
   |false=>
    have:¬j=i:=Nat.ne_of_beq_eq_false hb
    simp[this]
  ·rw[fv Iv]
   have:=(lN h2 (n:=ops.size)).2 h1
   omega
 have pos:∀{L:List Nat} {fuel:Nat} {listed:Array Bool} {i:Nat},listed.size=ops.size->(∀j,j<ops.size->a7 listed j=inL L j)->rK A L i=true->fD (a7 listed) ops.size<=fuel->∃f,fuel=f+1:=by
  intro L fuel listed i hs hl hr hf
  obtain⟨h1,h2,_⟩:=(d9 hs).1 ((dK hA hs hl hlt).2 hr)
  have:=(lN h2 (n:=ops.size)).2 h1
  exact⟨fuel-1,by omega⟩
 have pins:∀{st:ASt} {a:Act} {w:World} {X:Prop},ce E.W S st a w->fM R ps st X->C w/\X:=by
  intro st a w X h hk
  obtain⟨Z,ρ,h⟩:=h
  have key:∀qs:List gZ,fM R qs st X->(uA qs w/\R Z w (.bool true))/\X:=by
   intro qs hk
   induction qs with
   |nil=>
    obtain⟨o,ho,rfl,hk⟩:=bw (show aOb st.ob 9970 _ from hk)
    refine⟨⟨λp hp=>(by cases hp),?_⟩,hk⟩
    have:=(show bB Z w ρ 9970 (zO R)from h.ws.obj 9970 _ ho).2.2 0 _ _ rfl rfl
    cases this with
    |one _ _ hx=>
     cases(show bj Z w (.x R) (.bool true)from hx)with
     |x _ _ _ hR=>exact hR Z w (λ_ h=>h) λ_ _=>rfl
   |cons p r ih=>
    obtain⟨o,ho,rfl,hk⟩:=bw (show aOb st.ob p.id _ from hk)
    obtain⟨⟨h1,h1'⟩,h2⟩:=ih hk
    refine⟨⟨λq hq=>?_,h1'⟩,h2⟩
    rcases List.mem_cons.1 hq with rfl|hq
    ·obtain⟨b',hb',hlt,hq⟩:=(show bB Z w ρ q.id (.any (xc q.b q.us q.t))from h.ws.obj q.id _ ho)
     exact(hq w rfl).2
    ·exact h1 q hq
  obtain⟨⟨h1,h2⟩,h3⟩:=key ps hk
  exact⟨hCz Z w h1 h2,h3⟩
 have run1:∀{i:Nat} {st:ASt} {a:Act} {w:World} {X:ASt->Prop} {Y:Act->World->Prop},i<ops.size->ce E.W S st a w->qE E S ops.toList i st X->(∀st a w,ce E.W S st a w->X st->Y a w)->wpOp E.P ops Q i Y a w:=by
  intro i st a w X Y hi h hk hY
  obtain⟨o,ho,hk⟩:=bS hk
  have ho':ops[i]? =some o:=by simpa using ho
  unfold wpOp
  rw[ho']
  obtain⟨Z,ρ,h⟩:=h
  simp only
  rcases eO h hk with⟨hw,st',hs',hk⟩|⟨hw,st',hs',hk⟩
  ·simp only[Array.toArray_toList]at hw
   simp only[hw,if_true]
   refine .inl (Oper.wp_mono (λa' w' h'=>?_) (lL he hs' hk Q))
   obtain⟨st2,h2,hk2⟩:=h'
   exact hY st2 a' w' h2 hk2
  ·simp only[Array.toArray_toList]at hw
   simp only[hw,Bool.false_eq_true,if_false]
   have:=hs'.put o.dst (x:= .one .und) (v:=undef) (.one _ _ (show cH Z w ρ .und undef from rfl))
   exact hY _ _ w ⟨Z,ρ,this⟩ (cT hk)
 induction s with
 |done=>
  intro L fuel listed st a w hs hl hok hf h hS hk
  refine wpAnyH_done ?_ (hQ a w ⟨st,h,hk⟩) fuel
  rw[List.eq_nil_iff_forall_not_mem]
  intro i hi
  obtain⟨h1,h2,_⟩:=(d9 hs).1 hi
  have:=List.all_eq_true.1 hok i (List.mem_range.2 Iv)
  rw[hl i h1,this]at h2
  cases h2
 |take i s ih=>
  intro L fuel listed st a w hs hl hok hf h hS hk
  simp only[fx,Bool.and_eq_true]at hok
  obtain⟨⟨hr,hm⟩,hok⟩:=hok
  obtain⟨fuel,rfl⟩:=pos hs hl hr hf
  obtain⟨h1,h2,next⟩:=step i s L fuel listed st a w hs hl hr hf ih hok
  have hio:ops[i]? =some ops[i]:=Array.getElem?_eq_getElem h1
  rw[show ops.toList[i]? =some ops[i]by simp[h1]]at hm
  simp only[List.all_eq_true]at hm
  have hap:=hm
  obtain⟨o,ho,hk⟩:=bS (show g8 ops.toList i _ from hk)
  have:o=ops[i]:=by
   rw[show ops.toList[i]? =some ops[i]by simp[h1]]at ho
   injection ho with ho
   exact ho.symm
  subst this
  have first:∀(v:Value),YieldsIf E.P ops C ops[i] v a->wpAnyH E.P .any ops Q C fuel (listed.setIfInBounds i true) (a.put ops[i].dst v) w->wpAnyH E.P .any ops Q C (fuel+1) listed a w:=by
   intro v hy hw
   refine wpAnyH_first hio hse (λc a w hq=>(hP _ _ _ hq).elim) fuel listed a w (λj oj hj hji hun hno=>?_) ((dK hA hs hl hlt).2 hr) hy hS hw
   have hjs:j<ops.size:=(Array.getElem?_eq_some_iff.1 hj).1
   have hjl:ops.toList[j]? =some oj:=by simpa using hj
   have:=hap j (List.mem_range.2 Iv)
   rw[hjl]at this
   simp only[Bool.or_eq_true]at this
   rcases this with((h3|h3)|h3)|h3
   ·exact absurd (Nat.eq_of_beq_eq_true h3) hji
   ·rw[<-hl j hjs]at h3
    simp only[a7,Array.getD_eq_getD_getElem?]at h3 hun
    rw[Array.getElem?_eq_getElem Iv]at h3 hun
    simp only[Option.getD_some]at h3 hun
    rw[h3]at hun
    cases hun
   ·exfalso
    have h4:i∈iO oj:=by
     rw[<-hA,List.getD_eq_getElem?_getD,List.getElem?_map,hjl]at h3
     simpa[inL]using h3
    obtain⟨e',he',e2⟩:=List.mem_map.1 h4
    obtain⟨hm,hb⟩:=List.mem_filter.1 he'
    exact hno e' (by simpa using hm) hb e2
   ·simpa using h3
  obtain⟨Z,ρ,h⟩:=h
  rcases eO h hk with⟨hw,st',hs',hk⟩|⟨hw,st',hs',hk⟩
  ·simp only[Array.toArray_toList]at hw
   obtain⟨x,v,hx,hrun,hk⟩:=xd he hs' hC1 Iy hk
   exact first v (.inl ⟨hw,hrun⟩) (next _ _ w ⟨Z,ρ,hs'.put ops[i].dst hx⟩ hS (cT hk))
  ·simp only[Array.toArray_toList]at hw
   have:=hs'.put ops[i].dst (x:= .one .und) (v:=undef) (.one _ _ (show cH Z w ρ .und undef from rfl))
   exact first undef (.inr ⟨hw,rfl⟩) (next _ _ w ⟨Z,ρ,this⟩ hS (cT hk))
 |one i s ih=>
  intro L fuel listed st a w hs hl hok hf h hS hk
  simp only[fx,Bool.and_eq_true,List.all_eq_true]at hok
  obtain⟨⟨hr,hm⟩,hok⟩:=hok
  obtain⟨fuel,rfl⟩:=pos hs hl hr hf
  obtain⟨h1,h2,next⟩:=step i s L fuel listed st a w hs hl hr hf ih hok
  refine⟨λh0=>(by have:=(dK hA hs hl hlt).2 hr;rw[h0]at this;cases this),λj hj=>?_⟩
  have hj':=(dK hA hs hl hlt).1 hj
  have hjs:=((d9 hs).1 hj).1
  have hji:j=i:=by
   have:=hm j (List.mem_range.2 Iv)
   simp only[Bool.or_eq_true,Bool.not_eq_true']at this
   rcases this with h3|h3
   ·exact Nat.eq_of_beq_eq_true h3
   ·rw[h3]at hj';cases hj'
  subst hji
  exact run1 h1 h hk λst a w h hk=>by obtain⟨h5,h6⟩:=pins h hk;exact⟨h5,next st a w h h5 h6⟩
 |two i s k t ihs iht=>
  intro L fuel listed st a w hs hl hok hf h hS hk
  simp only[fx,Bool.and_eq_true,List.all_eq_true]at hok
  obtain⟨⟨⟨⟨hr,hr2⟩,hm⟩,hok⟩,hok2⟩:=hok
  obtain⟨fuel,rfl⟩:=pos hs hl hr hf
  obtain⟨h1,h2,next⟩:=step i s L fuel listed st a w hs hl hr hf ihs hok
  obtain⟨h3,h4,next2⟩:=step k t L fuel listed st a w hs hl hr2 hf iht hok2
  refine⟨λh0=>(by have:=(dK hA hs hl hlt).2 hr;rw[h0]at this;cases this),λj hj=>?_⟩
  have hj':=(dK hA hs hl hlt).1 hj
  have hjs:=((d9 hs).1 hj).1
  have hji:j=i\/j=k:=by
   have:=hm j (List.mem_range.2 Iv)
   simp only[Bool.or_eq_true,Bool.not_eq_true']at this
   rcases this with(h3|h3)|h3
   ·exact .inl (Nat.eq_of_beq_eq_true h3)
   ·exact .inr (Nat.eq_of_beq_eq_true h3)
   ·rw[h3]at hj';cases hj'
  rcases hji with rfl|rfl
  ·exact run1 h1 h hk.l λst a w h hk=>by obtain⟨h5,h6⟩:=pins h hk;exact⟨h5,next st a w h h5 h6⟩
  ·exact run1 h3 h hk.r λst a w h hk=>by obtain⟨h5,h6⟩:=pins h hk;exact⟨h5,next2 st a w h h5 h6⟩
 |three i s k t m u ihs iht ihu=>
  intro L fuel listed st a w hs hl hok hf h hS hk
  simp only[fx,Bool.and_eq_true,List.all_eq_true]at hok
  obtain⟨⟨⟨⟨⟨⟨hr,hr2⟩,hr3⟩,hm⟩,hok⟩,hok2⟩,hok3⟩:=hok
  obtain⟨fuel,rfl⟩:=pos hs hl hr hf
  obtain⟨h1,h2,next⟩:=step i s L fuel listed st a w hs hl hr hf ihs hok
  obtain⟨h3,h4,next2⟩:=step k t L fuel listed st a w hs hl hr2 hf iht hok2
  obtain⟨h5,h6,next3⟩:=step m u L fuel listed st a w hs hl hr3 hf ihu hok3
  refine⟨λh0=>(by have:=(dK hA hs hl hlt).2 hr;rw[h0]at this;cases this),λj hj=>?_⟩
  have hj':=(dK hA hs hl hlt).1 hj
  have hjs:=((d9 hs).1 hj).1
  have hji:j=i\/j=k\/j=m:=by
   have:=hm j (List.mem_range.2 Iv)
   simp only[Bool.or_eq_true,Bool.not_eq_true']at this
   rcases this with((h3|h3)|h3)|h3
   ·exact .inl (Nat.eq_of_beq_eq_true h3)
   ·exact .inr (.inl (Nat.eq_of_beq_eq_true h3))
   ·exact .inr (.inr (Nat.eq_of_beq_eq_true h3))
   ·rw[h3]at hj';cases hj'
  rcases hji with rfl|rfl|rfl
  ·exact run1 h1 h hk.l λst a w h hk=>by obtain⟨h5,h6⟩:=pins h hk;exact⟨h5,next st a w h h5 h6⟩
  ·exact run1 h3 h hk.r.l λst a w h hk=>by obtain⟨h5,h6⟩:=pins h hk;exact⟨h5,next2 st a w h h5 h6⟩
  ·exact run1 h5 h hk.r.r λst a w h hk=>by obtain⟨h5,h6⟩:=pins h hk;exact⟨h5,next3 st a w h h5 h6⟩
theorem DO(he:E.Ok){K:ASt->Prop}{Q:Exit->Act->World->Prop}{A:List (List Nat)}(ps:List gZ)(R:(Nat->Prop)->World->Value->Prop)(C:World->Prop)(hC1:∀w',C w'->uA ps w')(hCz:∀Z w',uA ps w'->R Z w' (.bool true)->C w')(hA:ops.toList.map iO=A)(hlt:∀i o,ops.toList[i]? =some o->∀e∈iO o,e<i)(hsel:Co ops.toList=true)
  (hQ:∀a w,(∃st',ce E.W S st' a w/\K st')->Q .normal a w) (hP:∀c a w,¬Q (.panic c) a w) {Z:Nat->Prop} {ρ:Nat->Value} {w:World} (hC2:∀w',C w'->∀b,Z b->w'.heap[b]? =w.heap[b]?) (hS:C w):
  ∀(s:Sch) (L:List Nat) (fuel:Nat) (listed:Array Bool) (st:ASt) (a:Act),listed.size=ops.size->(∀j,j<ops.size->a7 listed j=inL L j)->fx ops.toList A s L=true->fD (a7 listed) ops.size<=fuel->Sim E.W S Z ρ st a w->
   zh E S ps R ops.toList s st K->wpAnyH E.P .any ops Q C fuel listed a w:=by
 have hlen:A.length=ops.size:=by rw[<-hA];simp
 have main:=λs L fuel listed st a w=>AU (S:=S) he ps R C hC1 hCz hA hlt hsel hQ hP s L fuel listed st a w
 have hse:∀(j:Nat) (o:Oper) cs b,ops[j]? =some o->o.op≠ .select cs b:=by
  intro j o cs b ho e
  have:=List.all_eq_true.1 hsel o (by have:=Array.mem_of_getElem? ho;simpa using this)
  rw[e]at this
  cases this
 intro s
 induction s with
 |take i s ih=>
  intro L fuel listed st a hs hl hok hf h hk
  simp only[fx,Bool.and_eq_true]at hok
  obtain⟨⟨hr,hm⟩,hok⟩:=hok
  have hrd:=(dK hA hs hl hlt).2 hr
  obtain⟨h1,h2,_⟩:=(d9 hs).1 hrd
  have hcu:=(lN h2 (n:=ops.size)).2 h1
  obtain⟨fuel,rfl⟩:∃f,fuel=f+1:=⟨fuel-1,by omega⟩
  have hio:ops[i]? =some ops[i]:=Array.getElem?_eq_getElem h1
  rw[show ops.toList[i]? =some ops[i]by simp[h1]]at hm
  simp only[List.all_eq_true]at hm
  obtain⟨o,ho,hk⟩:=bS (show g8 ops.toList i _ from hk)
  have:o=ops[i]:=by
   rw[show ops.toList[i]? =some ops[i]by simp[h1]]at ho
   injection ho with ho
   exact ho.symm
  subst this
  have next:∀(st:ASt) (a:Act),Sim E.W S Z ρ st a w->zh E S ps R ops.toList s st K->wpAnyH E.P .any ops Q C fuel (listed.setIfInBounds i true) a w:=λst a h hk=>ih (i::L) fuel _ st a (by simpa using hs) (λj hj=>by
   rw[fv Iv]
   simp only[hl j hj,inL,List.contains_cons]
   cases hb:Nat.beq j i with
   |true=>have:=Nat.eq_of_beq_eq_true hb;subst this;simp
   |false=>
    have:¬j=i:=Nat.ne_of_beq_eq_false hb
    simp[this]) hok (by rw[fv Iv];omega) h hk
  have first:∀(v:Value),YieldsIf E.P ops C ops[i] v a->wpAnyH E.P .any ops Q C fuel (listed.setIfInBounds i true) (a.put ops[i].dst v) w->wpAnyH E.P .any ops Q C (fuel+1) listed a w:=by
   intro v hy hw
   refine wpAnyH_first hio hse (λc a w hq=>(hP _ _ _ hq).elim) fuel listed a w (λj oj hj hji hun hno=>?_) hrd hy hS hw
   have hjs:j<ops.size:=(Array.getElem?_eq_some_iff.1 hj).1
   have hjl:ops.toList[j]? =some oj:=by simpa using hj
   have:=hm j (List.mem_range.2 Iv)
   rw[hjl]at this
   simp only[Bool.or_eq_true]at this
   rcases this with((h3|h3)|h3)|h3
   ·exact absurd (Nat.eq_of_beq_eq_true h3) hji
   ·rw[<-hl j hjs]at h3
    simp only[a7,Array.getD_eq_getD_getElem?]at h3 hun
    rw[Array.getElem?_eq_getElem Iv]at h3 hun
    simp only[Option.getD_some]at h3 hun
    rw[h3]at hun
    cases hun
   ·exfalso
    have h4:i∈iO oj:=by
     rw[<-hA,List.getD_eq_getElem?_getD,List.getElem?_map,hjl]at h3
     simpa[inL]using h3
    obtain⟨e',he',e2⟩:=List.mem_map.1 h4
    obtain⟨hm,hb⟩:=List.mem_filter.1 he'
    exact hno e' (by simpa using hm) hb e2
   ·simpa using h3
  rcases eO h hk with⟨hw,st',hs',hk⟩|⟨hw,st',hs',hk⟩
  ·simp only[Array.toArray_toList]at hw
   obtain⟨x,v,hx,hrun,hk⟩:=xd he hs' hC1 (λ_=>hC2) hk
   exact first v (.inl ⟨hw,hrun⟩) (next _ _ (hs'.put ops[i].dst hx) (cT hk))
  ·simp only[Array.toArray_toList]at hw
   have:=hs'.put ops[i].dst (x:= .one .und) (v:=undef) (.one _ _ (show cH Z w ρ .und undef from rfl))
   exact first undef (.inr ⟨hw,rfl⟩) (next _ _ this (cT hk))
 |done=>exact λL fuel listed st a hs hl hok hf h hk=>main _ L fuel listed st a w hs hl hok hf ⟨Z,ρ,h⟩ hS hk
 |one i s _=>exact λL fuel listed st a hs hl hok hf h hk=>main _ L fuel listed st a w hs hl hok hf ⟨Z,ρ,h⟩ hS hk
 |two i s j t _ _=>exact λL fuel listed st a hs hl hok hf h hk=>main _ L fuel listed st a w hs hl hok hf ⟨Z,ρ,h⟩ hS hk
 |three i s j t k u _ _ _=>exact λL fuel listed st a hs hl hok hf h hk=>main _ L fuel listed st a w hs hl hok hf ⟨Z,ρ,h⟩ hS hk
def Fr(A:List (List Nat)):Bool:=(List.range A.length).all λi=>(A.getD i []).all λe=>Nat.blt e i
def EW(E:aE)(S:aZ):List (Nat×Nat)->List gZ->ASt->(List gZ->ASt->Prop)->Prop
 |[],ps,st,K=>K ps st
 |(id,fid)::r,ps,st,K=>aOb st.ob id λo=>match o with
  | .cells t cs=>match cs.all (jD fid)with
   |true=>∀(b:Nat) (us:List Value),match st with
    |⟨tm,ob⟩=>de id (.any (xc b us t)) ob λob=>uK ⟨tm,ob⟩ fid (.frame (cs.map .one) us) λst=>EW E S r (⟨id,fid,b,us,t⟩::ps) st K
   |false=>False
  |_=>False
def uR:List gZ->ASt->(ASt->Prop)->Prop
 |[],st,K=>K st
 |p::r,st,K=>match st with
  | ⟨tm, ob⟩ => aOb ob p.id fun o => And (o = .any (xc p.b p.us p.t)) (aOb ob p.fid fun o2 => match o2 with
   | .frame vs us=>And (us=p.us) (zg vs λcs=>de p.id (.cells p.t cs) ob λob=>uR r ⟨tm,ob⟩ K)
   |_=>False)
theorem vU{K:List gZ->ASt->Prop}{Z:Nat->Prop}{a:Act}{w:World}:∀{l:List (Nat×Nat)} {ps:List gZ} {st:ASt} {ρ:Nat->Value},Sim E.W S Z ρ st a w->uA ps w->EW E S l ps st K->∃ps' st' ρ',Sim E.W S Z ρ' st' a w/\uA ps' w/\K ps' st'
 |[],ps,st,ρ,h,hS,hk=>⟨ps,st,ρ,h,hS,hk⟩
 |(id,fid)::r,ps,⟨tm,ob⟩,ρ,h,hS,hk=>by
  obtain⟨o,ho,hk⟩:=bw (show aOb ob id _ from hk)
  split at hk
  case h_2=>exact hk.elim
  rename_i t cs
  split at hk
  case h_2=>exact hk.elim
  rename_i hno
  obtain⟨b,us,hp,hg,hl,hc⟩:=(show bB Z w ρ id (.cells t cs)from h.ws.obj id _ ho)
  have hk:=fc (bZ (hk b us))
  have hlt:b<w.heap.size:=(Array.getElem?_eq_some_iff.1 hg).1
  have h1:=h.upd id (.cells t cs) (.any (xc b us t)) (g:=b) ho (by rw[hp];rfl) (World.grownBy.refl w _) ⟨b,by rw[hp];rfl,hlt,λw' hw=>⟨hp,by rw[hw];exact hg⟩⟩
  have h2:=h1.renew fid undef (.frame (cs.map .one) us) (row:=none) (World.grownBy.refl w _) Iy (λb hb=>by cases hb) ⟨by simp,by simp[hl],λi x u hx hu=>by
   rw[List.getElem?_map]at hx
   obtain⟨c,hcx,rfl⟩:=Option.map_eq_some_iff.1 hx
   have hkc:dH fid c=c:=jf (List.all_eq_true.1 hno c (List.mem_of_getElem? hcx))
   have:=fU (id:=fid) (y:=undef) (hc i c u hcx hu)
   rw[hkc]at this
   exact .one _ _ this⟩
  exact vU h2 (λp hp=>by
   rcases List.mem_cons.1 hp with rfl|hp
   ·exact hg
   ·exact hS p hp) hk
theorem qI{K:ASt->Prop}{a:Act}{w:World}:∀{ps:List gZ} {st:ASt},ce E.W S st a w->uR ps st K->∃st',ce E.W S st' a w/\K st'
 |[],st,h,hk=>⟨st,h,hk⟩
 |p::r,⟨tm,ob⟩,⟨Z,ρ,h⟩,hk=>by
  obtain⟨o,ho,rfl,hk⟩:=bw (show aOb ob p.id _ from hk)
  obtain⟨o2,ho2,hk⟩:=bw hk
  cases o2 with
  |frame vs us=>?_
  |_=>exact hk.elim
  simp only at hk
  obtain⟨e1,hk1⟩:=hk
  subst e1
  obtain⟨cs,e0,hk⟩:=n7 hk1
  subst e0
  obtain⟨b',hb',hlt,hq⟩:=(show bB Z w ρ p.id (.any (xc p.b p.us p.t))from h.ws.obj p.id _ ho)
  obtain⟨hp,hg⟩:=hq w rfl
  obtain⟨_,hfl,hfr⟩:=(show bB Z w ρ p.fid (.frame (cs.map .one) p.us)from h.ws.obj p.fid _ ho2)
  have h1:=h.upd p.id _ (.cells p.t cs) (g:=p.b) ho (by rw[hp];rfl) (World.grownBy.refl w _) ⟨p.b,p.us,hp,hg,by simpa using hfl,λi c u h1 h2=>by
   have:=hfr i (.one c) u (by rw[List.getElem?_map,h1];rfl) h2
   cases this with|one _ _ h=>exact h⟩
  exact qI ⟨Z,ρ,h1⟩ (bZ hk)
theorem AWP.drawT(he:E.Ok){K:Exit->ASt->Prop}(id:Nat){st:ASt}(s:Sch)(l:List (Nat×Nat))(A:List (List Nat))(hA:ops.toList.map iO=A)(hlt:Fr A=true)(hsel:Co ops.toList=true)(hok:fx ops.toList A s []=true)
  (h:∀R,uK st 9970 (zO R) (λst=>EW E S l [] st λps st=>zh E S ps R ops.toList s st λst=>uR ps st (K .normal))):AWP E S (.region id ops true) K st:=by
 refine⟨λa w hs=>wp_mono (Q:=λe a' w'=>e= .normal/\∃st',ce E.W S st' a' w'/\K .normal st') (wp_region_any he.mixed ?_) λe a' w' h'=>?_⟩
 ·have hg:w.grownBy {w with drawn:=w.drawn+1} none:=⟨rfl,rfl,rfl,Nat.le_refl _,λb hb _=>rfl⟩
  obtain⟨Z,ρ,hs⟩:=hs
  let R:(Nat->Prop)->World->Value->Prop:=λ_ wx _=>∀b,Z b->wx.heap[b]? =w.heap[b]?
  have h0:=hs.grow hg (λ_ h=>h) λ_ h=> .inl h
  have h1:=h0.renew 9970 undef (zO R) (row:=none) (World.grownBy.refl _ _) Iy (λb hb=>by cases hb) ⟨by simp,rfl,λi x u hx hu=>by
   cases i with
   |zero=>
    simp at hx hu
    subst hx hu
    exact .one _ _ (show bj Z _ (.x R) (.bool true)from .x _ _ rfl λZ' w' hz hb b hZ=>hb b hZ)
   |succ i=>simp at hx⟩
  obtain⟨ps,st1,ρ1,hs1,hS,hk⟩:=vU h1 (λp hp=>(by cases hp)) (fc (h R))
  refine wpAny_of_held (S:=λw'=>uA ps w'/\∀b,Z b->w'.heap[b]? =w.heap[b]?) _ _ _ _ (DO (K:=λst=>uR ps st (K .normal)) he ps R _ (λw' h=>h.1) (λZx w' h1 h2=>⟨h1,h2⟩) hA (λi o ho e hea=>?_) hsel (λa w hz=>⟨rfl,(by obtain⟨st',h1,h2⟩:=hz;exact qI h1 h2)⟩) (λc a w hq=>by cases hq.1) (λw' h=>h.2) ⟨hS,λb hb=>rfl⟩ s [] ops.size _ st1 a Iy (λj _=>?_) hok ?_ hs1 hk)
  ·have hi:i<A.length:=by rw[<-hA,List.length_map];exact(List.getElem?_eq_some_iff.1 ho).1
   have h1:=List.all_eq_true.1 hlt i (List.mem_range.2 hi)
   rw[<-hA,List.getD_eq_getElem?_getD,List.getElem?_map,ho]at h1
   have:=List.all_eq_true.1 h1 e hea
   exact Nat.le_of_ble_eq_true this
  ·simp[a7,inL,Array.getD_eq_getD_getElem?,Array.getElem?_replicate]
   split<;>rfl
  ·have:∀(lf:Nat->Bool) n,fD lf n<=n:=λlf n=>by
    induction n with
    |zero=>exact Nat.le_refl _
    |succ n ih=>simp only[fD];split<;>omega
   exact this _ _
 ·obtain⟨rfl,h'⟩:=h'
  exact h'
end
end Go.Proofs.YtnlhpdbijmnkhaaGreatDoor
namespace Go.Proofs.YtnlhpdbijmnkhaaGreatDoor
open Go.RowKit
structure Fj (s:Nat) (xs:List (List AD)) (K:List (List AD)->List (Nat×Nat)->Prop):Prop where
 h:((∀x∈xs,x.all AD.isBl=true)/\K xs [])\/∃(lo hi:Nat) (ys:List (List AD)),Fam lo hi xs.flatten ys.flatten/\ys.length=xs.length/\(∀y∈ys,y.length=s)/\K ys [(lo,hi)]
theorem Fj.fam{s:Nat}{xs ys:List (List AD)}{K:List (List AD)->List (Nat×Nat)->Prop}{lo hi:Nat}(F:Fam lo hi xs.flatten ys.flatten)(hl:ys.length=xs.length)(hs:∀y∈ys,y.length=s)(hk:K ys [(lo,hi)]):Fj s xs K:=⟨.inr ⟨lo,hi,ys,F,hl,hs,hk⟩⟩
section
variable {E:aE} {S:aZ} {Z:Nat->Prop} {ρ:Nat->Value} {w:World} {ob:List (Nat×AO)}
end
section
variable {E:aE} {S:aZ}
end
end Go.Proofs.YtnlhpdbijmnkhaaGreatDoor
namespace Go.Proofs.YtnlhpdbijmnkhaaGreatDoor
open Go.RowKit
structure Iu (E:aE) (f:FuncId) (n j:Nat) (e:TypeId) (s:Nat) (xs xs':List (List AD)):Prop where
 enter:∀(us:Array Value) w,(callFunc f us).run E.P w= .ok (.enter f us) w
 run:∀(Z:Nat->Prop) (w:World) (v:Value) (us:List Value),(∀b,Z b->b<w.heap.size)->GZ E.W Z w->us.length=n->(∀u∈us,u.oneCell'=true)->us[j]? =some v->bB Z w (λ_=>v) 0 (.row e s xs)->(∀b,aO v=some b->¬Z b)->
  Calls E.P f #[.agg us.toArray] w λen w'=>en= .returned (.agg us.toArray)/\mg (λb=>aO v=some b) w w'/\bB Z w' (λ_=>v) 0 (.row e s xs')
section
variable {E:aE} {S:aZ}
theorem AWP.nilRow{c:Code}{K:Exit->ASt->Prop}{tm:List AV}{ob:List (Nat×AO)}(oid j id:Nat)(e:TypeId)(s:Nat)(hs:0<s)
  (h : uK ⟨tm, ob⟩ id (.row e s []) fun st => aOb st.ob oid fun o => match o with
   | .cells t cs=>And (cs[j]? =some .nil) (de oid (.cells t (cs.set j (.own id))) st.ob λob=>AWP E S c K ⟨st.tm,ob⟩)
   |_=>False):AWP E S c K ⟨tm,ob⟩:=by
 refine⟨λa w hw=>?_⟩
 obtain⟨Z,ρ,hw⟩:=hw
 have h1:=hw.renew id (.slice none 0 0) (.row e s []) (row:=none) (World.grownBy.refl w _) Iy (λb hb=>by cases hb) ⟨[],hs,rfl,by simp,by simp,by simp[World.ownsRow],by simp⟩
 have h:=fc h
 obtain⟨o,ho,h⟩:=bw h
 cases o with
 |cells t cs=>
  simp only at h
  obtain⟨hj,h⟩:=h
  have h:=bZ h
  obtain⟨b,us,hp,hg,hl,hc⟩:=(show bB Z w (λi=>if i=id then .slice none 0 0 else ρ i) oid (.cells t cs)from h1.ws.obj oid _ ho)
  refine h.run a w ⟨Z,_,h1.upd oid _ (.cells t (cs.set j (.own id))) (g:=b) ho (by show aO ((λi=>if i=id then Value.slice none 0 0 else ρ i) oid)=some b;rw[hp];rfl) (World.grownBy.refl w _) ⟨b,us,hp,hg,by simpa using hl,λi c u hi hu=>?_⟩⟩
  rw[List.getElem?_set]at hi
  split at hi
  ·rename_i e
   subst e
   split at hi
   ·injection hi with hi
    subst hi
    have:=hc j .nil u hj hu
    have hu0:u= .slice none 0 0:=this
    subst hu0
    exact⟨by simp,rfl⟩
   ·cases hi
  ·exact hc i c u hi hu
 |_=>exact h.elim
end
end Go.Proofs.YtnlhpdbijmnkhaaGreatDoor
namespace Go.Proofs.YtnlhpdbijmnkhaaGreatDoor
open Go.RowKit
def Ho(tm':List AV)(ob':List (Nat×AO)):Exit->ASt->Prop
 | .normal,st=>And (uQ st.tm tm') (ae st.ob ob')
 |_,_=>False
theorem AWP.cutS{E:aE}{S:aZ}{x y:Code}{K:Exit->ASt->Prop}{tm:List AV}{ob:List (Nat×AO)}(ws:List Nat)(sl:List (Nat×AV))(ob':List (Nat×AO))
  (h1:tf tm ws sl λtm'=>AWP E S x (Ho tm' ob') ⟨tm,ob⟩) (h2:tf tm ws sl λtm'=>AWP E S y K ⟨tm',ob'⟩):AWP E S x (Fb E S y K) ⟨tm,ob⟩:=by
 have g1:=g7 h1
 have g2:=g7 h2
 refine⟨λa w hs=>wp_mono (g1.run a w hs) λe a' w' h'=>?_⟩
 obtain⟨st',hs',hk⟩:=h'
 cases e with
 |normal=>
  refine⟨⟨dC (uY tm ws) sl,ob'⟩,hs'.sub (ky hk.1) hk.2,g2⟩
 |_=>exact hk.elim
end Go.Proofs.YtnlhpdbijmnkhaaGreatDoor
