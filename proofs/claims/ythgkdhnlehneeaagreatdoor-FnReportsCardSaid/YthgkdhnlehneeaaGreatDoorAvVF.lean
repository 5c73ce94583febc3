/- AvVF -/
import Derived.Test.YthgkdhnlehneeaaGreatDoorAvJ3
set_option maxHeartbeats 8000000
set_option linter.unusedVariables false
set_option linter.unusedSimpArgs false
set_option maxRecDepth 100000
namespace Go.Proofs.YthgkdhnlehneeaaGreatDoor
section
open Go.RowKit
structure Cps {α:Type} (F:(α->Prop)->Prop):Prop where
 mono:∀{P Q:α->Prop},(∀x,P x->Q x)->F P->F Q
 dj:∀{K:α->Prop},F K->∃x,K x/\F (· =x)
section
variable {α β γ:Type}
theorem Cps.ret(x:α):Cps λK:α->Prop=>K x:=⟨λh hp=>h x hp,λh=>⟨x,h,rfl⟩⟩
theorem aaQ:Cps λ_:α->Prop=>False:=⟨λ_ h=>h,λh=>h.elim⟩
theorem Cps.bind{G:(β->Prop)->Prop}{H:β->(α->Prop)->Prop}(hg:Cps G)(hh:∀y,Cps (H y)):Cps λK=>G λy=>H y K:=
 ⟨λh hp=>hg.mono (λy=>(hh y).mono h) hp,λhk=>by
  obtain⟨y,hy,g⟩:=hg.dj hk;obtain⟨x,hx,e⟩:=(hh y).dj hy;exact⟨x,hx,hg.mono (λy' e'=>by subst e';exact e) g⟩⟩
theorem Cps.map{G:(β->Prop)->Prop}(hg:Cps G)(f:β->α):Cps λK=>G λy=>K (f y):=hg.bind λy=>Cps.ret (f y)
theorem Cps.and{F:(α->Prop)->Prop}(p:Prop)(hf:Cps F):Cps λK=>p/\F K:=
 ⟨λh hp=>⟨hp.1,hf.mono h hp.2⟩,λhk=>by obtain⟨x,hx,e⟩:=hf.dj hk.2;exact⟨x,hx,hk.1,e⟩⟩
theorem abN{F:β->(α->Prop)->Prop}(hf:∀y,Cps (F y)):Cps λK=>∃y,F y K:=
 ⟨λh ⟨y,hp⟩=>⟨y,(hf y).mono h hp⟩,fun⟨y,hk⟩=>by obtain⟨x,hx,e⟩:=(hf y).dj hk;exact⟨x,hx,y,e⟩⟩
theorem acb{F G:(α->Prop)->Prop}(p:Bool)(hf:Cps F)(hg:Cps G):Cps λK=>AB p (F K) (G K):=by
 cases p with
 |true=>exact⟨λh hp=>ab8 (hf.mono h (hp.t rfl)),λhk=>by obtain⟨x,hx,e⟩:=hf.dj (hk.t rfl);exact⟨x,hx,ab8 e⟩⟩
 |false=>exact⟨λh hp=>ab7 (hg.mono h (hp.f rfl)),λhk=>by obtain⟨x,hx,e⟩:=hg.dj (hk.f rfl);exact⟨x,hx,ab7 e⟩⟩
theorem abm(k:IntKind)(n:Int){F:Int->(α->Prop)->Prop}(hf:∀c,Cps (F c)):Cps λK=>AW k n λc=>F c K:=
 ⟨λh ⟨⟨c,e,hp⟩⟩=>⟨⟨c,e,(hf c).mono h hp⟩⟩,fun⟨⟨c,e,hk⟩⟩=>by obtain⟨x,hx,g⟩:=(hf c).dj hk;exact⟨x,hx,⟨⟨c,e,g⟩⟩⟩⟩
theorem abM(xs:List (List AD))(n:Int){F:Nat->List AD->(α->Prop)->Prop}(hf:∀k x,Cps (F k x)):Cps λK=>AIx xs n λk x=>F k x K:=
 ⟨λh ⟨⟨k,x,e1,e2,hp⟩⟩=>⟨⟨k,x,e1,e2,(hf k x).mono h hp⟩⟩,fun⟨⟨k,x,e1,e2,hk⟩⟩=>by obtain⟨y,hy,g⟩:=(hf k x).dj hk;exact⟨y,hy,⟨⟨k,x,e1,e2,g⟩⟩⟩⟩
theorem abe{F G:(α->Prop)->Prop}(h:∀K,F K=G K)(hg:Cps G):Cps F:=by
 have:F=G:=funext h;rw[this];exact hg
end
section
variable {E:bx} {st:ASt}
theorem PQ:∀(l:List AV) (n:Nat),Cps (aTm l n)
 |[],_=>aaQ
 |x::_,0=>Cps.ret x
 |_::r,n+1=>PQ r n
theorem Dp:∀(l:List (Nat×AO)) (i:Nat),Cps (aOb l i)
 |[],_=>aaQ
 |(k,o)::r,i=>by
  refine abe (G:=λK=>match Nat.beq k i with|true=>K o|false=>aOb r i K) (λK=>rfl) ?_;cases Nat.beq k i with
  |true=>exact Cps.ret o
  |false=>exact Dp r i
theorem um{α:Type}:∀(l:List α) (n:Nat),Cps (pG l n)
 |[],_=>aaQ
 |x::_,0=>Cps.ret x
 |_::r,n+1=>um r n
theorem pC{α:Type}:∀(l:List α) (n:Nat),Cps (zk l n)
 |l,0=>by refine abe (G:=λK=>K l) (λK=>by cases l<;>rfl) (Cps.ret l)
 |[],n+1=>aaQ
 |_::r,n+1=>pC r n
theorem HF{α:Type}:∀(n:Nat) (l:List α),Cps (PP l n)
 |0,l=>by refine abe (G:=λK=>K []) (λK=>by cases l<;>rfl) (Cps.ret [])
 |n+1,[]=>aaQ
 |n+1,x::r=>(HF n r).map λr'=>x::r'
theorem Bf:∀(l:List AD),Cps (BY l)
 |[]=>Cps.ret []
 |x::r=>(Bf r).map λr'=>AC.d x::r'
theorem eE(T:TT)(t:TypeId):Cps (aTI T t):=by
 unfold aTI;cases T.get t with
 |some i=>exact Cps.ret i
 |none=>exact aaQ
theorem D7(v:Value):Cps (Jt v):=abe (G:=λK=>K (ofC v)) (λK=>by unfold Jt ofC;split<;>rfl) (Cps.ret _)
theorem D9:∀l:List Value,Cps (Q4 l)
 |[]=>Cps.ret []
 |v::r=>(D7 v).bind λc=>(D9 r).map λr'=>c::r'
theorem dZ(x:Operand):Cps (aEv st x):=by
 cases x with
 |tmp t=>exact PQ _ _
 |const v=>
  by_cases hv:∃cs,v= .agg cs
  ·obtain⟨cs,rfl⟩:=hv;exact(D9 cs.toList).map AV.agg
  ·have key:∀K,aEv st (.const v) K=Jt v λc=>K (AV.one c):=λK=>by
    cases v<;>first|rfl|exact absurd ⟨_,rfl⟩ hv
   exact abe key ((D7 v).map AV.one)
 |func f=>exact Cps.ret _
 |global g=>exact aaQ
theorem zl:∀xs:List Operand,Cps (Jp st xs)
 |[]=>Cps.ret []
 |x::r=>(dZ x).bind λv=>(zl r).map λr'=>v::r'
theorem zq(i:TI)(cs:List AC):Cps (uu i cs):=by
 unfold uu;cases i.agg with
 |true=>exact(HF _ _).map AV.agg
 |false=>
  cases cs with
  |nil=>exact aaQ
  |cons c r=>exact Cps.ret _
theorem Er:∀l:List AC,Cps (K6 l)
 |[]=>Cps.ret []
 |c::r=>by
  cases c with
  |d x=>exact(Er r).map λr'=>x::r'
  |nil=>exact(Er r).map λr'=>AD.sl []::r'
  |_=>exact aaQ
theorem QZ(op:BinOp)(k:IntKind)(a b:Int):Cps (BX op k a b):=by
 cases op with
 |add=>exact abm _ _ λc=>Cps.ret _
 |sub=>exact abm _ _ λc=>Cps.ret _
 |mul=>exact abm _ _ λc=>Cps.ret _
 |quo=>exact Cps.and _ (abm _ _ λc=>Cps.ret _)
 |rem=>exact Cps.and _ (Cps.ret _)
 |shr=>
  refine abe (G:=λK=>match decide (0<=b)with|true=>K (vI k (Ph k a b))|false=>False) (λK=>rfl) ?_;cases decide (0<=b)with
  |true=>exact Cps.ret _
  |false=>exact aaQ
 |_=>first|exact Cps.ret _|exact aaQ
theorem HD(op:BinOp)(a b:ByteArray):Cps (PO op a b):=by
 cases op with
 |add=>exact Cps.and _ (Cps.ret _)
 |_=>first|exact Cps.ret _|exact aaQ
theorem NA(op:BinOp)(a b:Bool):Cps (Jn op a b):=by
 cases op with
 |_=>first|exact Cps.ret _|exact aaQ
theorem HA(op:BinOp)(k k':IntKind)(a b:Int):Cps (λK=>match Eo k k' with|true=>BX op k a b K|false=>False):=by
 cases Eo k k' with
 |true=>exact QZ ..
 |false=>exact aaQ
theorem DQ(op:BinOp)(t:TypeId)(a b:Bool):Cps (λK=>aTI E.T t λi=>match i.kind with| .bool=>Jn op a b K|_=>False):=
 (eE _ _).bind λi=>by
  cases i.kind with
  |bool=>exact NA ..
  |_=>exact aaQ
theorem SR{α:Type}(f:AV->α)(op:BinOp)(t:TypeId)(x y:AV){F:(α->Prop)->Prop}(hF:Cps F):Cps λK=>QT E op t x y (F K) λv=>K (f v):=by
 refine⟨fun{P Q} hpq h=>?_,fun{K} h=>?_⟩<;>unfold QT at h⊢<;>split at h
 all_goals first
  |exact hF.mono hpq h
  |exact hF.dj h
  |exact((HA ..).map f).mono hpq h
  |exact((HA ..).map f).dj h
  |exact((HD ..).map f).mono hpq h
  |exact((HD ..).map f).dj h
  |exact((DQ ..).map f).mono hpq h
  |exact((DQ ..).map f).dj h
theorem DF{α:Type}(f:AV->α)(o:Oper):Cps λK=>nC E o st λv=>K (f v):=
 ⟨λhpq h=>by obtain⟨v,hk,hr⟩:=h.h;exact⟨v,hpq _ hk,hr⟩,λh=>by obtain⟨v,hk,hr⟩:=h.h;exact⟨_,hk,⟨v,rfl,hr⟩⟩⟩
theorem UK(op:UnOp)(x:AV):Cps (aUn op x False):=by
 refine⟨fun{P Q} hpq h=>?_,fun{K} h=>?_⟩<;>unfold aUn at h⊢<;>split at h
 all_goals first
  |exact h.elim
  |exact(Cps.ret _).mono hpq h
  |exact(Cps.ret _).dj h
  |exact(abm _ _ λc=>Cps.ret _).mono hpq h
  |exact(abm _ _ λc=>Cps.ret _).dj h
theorem jf{α:Type}(b:Bool){F:(α->Prop)->Prop}(hf:Cps F):Cps λK=>match(generalizing:=false) b with|true=>F K|false=>False:=by
 cases b with
 |true=>exact hf
 |false=>exact aaQ
theorem QX(s d:TypeId)(x:AV):Cps (Hi E s d x False):=by
 refine⟨fun{P Q} hpq h=>?_,fun{K} h=>?_⟩<;>unfold Hi at h⊢<;>split at h
 all_goals first
  |exact h.elim
  |skip
 ·rename_i k n;exact((eE E.T s).bind λ_=>(eE E.T d).bind (H:=λi K=>match i.kind with| .int k=>AW k n λc=>K (vI k c)|_=>False) λi=>by
   cases i.kind with
   |int k=>exact abm _ _ λc=>Cps.ret _
   |_=>exact aaQ).mono hpq h
 ·rename_i k n;exact((eE E.T s).bind λ_=>(eE E.T d).bind (H:=λi K=>match i.kind with| .int k=>AW k n λc=>K (vI k c)|_=>False) λi=>by
   cases i.kind with
   |int k=>exact abm _ _ λc=>Cps.ret _
   |_=>exact aaQ).dj h
theorem DY(t:TypeId)(x:AV)(f:Nat):Cps (lO E t x f):=by
 unfold lO;refine(eE _ _).bind λi=>?_;cases i.kind with
 |st fs=>
  refine(um _ _).bind λp=>(eE _ _).bind λj=>?_;cases j.size with
  |zero=>exact aaQ
  |succ n=>
   cases x with
   |one c=>
    cases c with
    |ref id k s off=>exact Cps.ret _
    |ptr cs=>exact(pC _ _).bind λr=>Cps.ret _
    |_=>exact aaQ
   |_=>exact aaQ
 |_=>exact aaQ
theorem Q3(t:TypeId)(x:AV):Cps (xP E st t x):=by
 unfold xP;refine(eE _ _).bind λi=>?_;cases x with
 |one c=>
  cases c with
  |ref id k s off=>
   refine(Dp _ _).bind λo=>?_;cases o with
   |cells u cs=>
    cases k with
    |zero=>exact(pC _ _).bind λr=>zq _ _
    |succ k=>exact aaQ
   |row e s' xs=>exact jf _ (abM _ _ λ_ x=>(pC _ _).bind λr=>(Bf _).bind λr=>zq _ _)
   |frame vs us=>exact aaQ
   |any Q=>exact aaQ
   |many P Q=>exact aaQ
  |ptr cs=>exact(Bf _).bind λcs=>zq _ _
  |_=>exact aaQ
 |_=>exact aaQ
theorem yt(x:AV):Cps (nE x):=by
 cases x with
 |one c=>exact jf _ (Cps.ret _)
 |agg cs=>exact jf _ (Cps.ret _)
 |tup vs=>exact aaQ
theorem HH(z:Value):Cps (zt z):=by
 by_cases hv:∃cs,z= .agg cs
 ·obtain⟨cs,rfl⟩:=hv;exact(D9 cs.toList).bind λl=>jf _ (Cps.ret _)
 ·have key:∀K,zt z K=Jt z λc=>match j6 [c]with|true=>K [c]|false=>False:=λK=>by
   cases z<;>first|rfl|exact absurd ⟨_,rfl⟩ hv
  exact abe key ((D7 z).bind λc=>jf _ (Cps.ret _))
theorem ur:∀(l:List AC) (n:Nat) (xs:List AC),Cps (mW l n xs)
 |l,0,[]=>by refine abe (G:=λK=>K l) (λK=>by cases l<;>rfl) (Cps.ret l)
 |_::r,0,x::xs=>(ur r 0 xs).map λr'=>x::r'
 |c::r,n+1,xs=>by
  refine abe (G:=λK=>mW r n xs λr'=>K (c::r')) (λK=>by cases xs<;>rfl) ((ur r n xs).map λr'=>c::r')
 |[],0,_::_=>aaQ
 |[],_+1,[]=>aaQ
 |[],_+1,_::_=>aaQ
theorem A9{place:Nat->(Nat×Nat->Prop)->Prop}(hp:∀n,Cps (place n)):∀(ps:List (Nat×Operand)) (l:List AC),Cps (KT st place ps l)
 |[],l=>Cps.ret l
 |(i,x)::r,l=>(hp i).bind λp=>(dZ x).bind λv=>(yt v).bind λvs=>jf _ ((ur _ _ _).bind λl'=>A9 hp r l')
theorem BZ:∀fs:List (Nat×TypeId),Cps (Dq E fs)
 |[]=>Cps.ret []
 |p::r=>(eE _ _).bind λj=>(BZ r).map λq=>(p.1,j.size)::q
theorem NB(t:TypeId)(ps:List (Nat×Operand)):Cps (DT E st t ps):=by
 unfold DT;refine(eE _ _).bind λi=>(HH _).bind λz=>?_;cases i.kind with
 |st fs=>exact(BZ _).bind λplaces=>(A9 (λn=>um _ _) _ _).bind λl=>Cps.ret _
 |arr n e=>exact(eE _ _).bind λj=>(A9 (λn=>Cps.ret _) _ _).bind λl=>Cps.ret _
 |_=>exact aaQ
theorem DV(s:Nat):∀(ps:List (Nat×Operand)) (a n:Nat),Cps (mG st s ps a n)
 |[],a,n=>jf _ (Cps.ret [])
 |(i,x)::r,a,n=>jf _ ((dZ x).bind λv=>(yt v).bind λvs=>jf _ ((Er _).bind λds=>(DV s r (a+1) n).map λr'=>ds::r'))
theorem NN(x:AV):Cps (uo st x):=by
 cases x with
 |one c=>
  cases c with
  |nil=>exact Cps.ret _
  |d x=>
   cases x with
   |sl xs=>exact Cps.ret _
   |pv v=>exact aaQ
   |x R=>exact aaQ
  |own id=>
   refine(Dp _ _).bind λo=>?_;cases o with
   |row _ _ xs=>exact Cps.ret _
   |_=>exact aaQ
  |_=>exact aaQ
 |_=>exact aaQ
theorem ST(t:TypeId)(x:AV):Cps (NG E st t x False):=by
 have rest:Cps λK:AV->Prop=>aTI E.T t λi=>match i.kind with| .sl _=>uo st x λxs=>K (vI .i64 xs.length)|_=>False:=
  (eE _ _).bind λi=>by
   cases i.kind with
   |sl e=>exact(NN _).bind λxs=>Cps.ret _
   |_=>exact aaQ
 by_cases hs:∃s,x= .one (.d (.pv (.string s)))
 ·obtain⟨s,rfl⟩:=hs;exact(eE E.T t).bind (H:=λi K=>match i.kind with| .str=>K (vI .i64 s.size)|_=>False) λi=>by
   cases i.kind with
   |str=>exact Cps.ret _
   |_=>exact aaQ
 ·refine abe (λK=>?_) rest;unfold NG;split
  ·exact absurd ⟨_,rfl⟩ hs
  ·rfl
theorem D0(t:TypeId)(x i:AV):Cps (lP E st t x i):=by
 refine⟨fun{P Q} hpq h=>?_,fun{K} h=>?_⟩<;>unfold lP at h⊢<;>split at h
 all_goals first
  |exact h.elim
  |skip
 all_goals
  rename_i k n;have key:Cps λK:AV->Prop=>aTI E.T t λti=>match ti.kind with
   | .sl e=>aTI E.T e λj=>match j.size with
    |0=>False
    |s+1=>match(generalizing:=false) x with
     | .one (.d (.sl xs))=>AIx xs n λ_ x=>match KX x (s+1)with
      |true=>K (.one (.ptr x))
      |false=>False
     | .one (.own id)=>aOb st.ob id λo=>match o with
      | .row _ s' xs=>match Nat.beq (s+1) s' with
       |true=>AIx xs n λk _=>K (.one (.ref id k (s+1) 0))
       |false=>False
      |_=>False
     | .one (.d (.x R))=>AXi E.W st.ob R n (s+1) K
     |_=>False
   | .arr len e=>aTI E.T e λj=>match(generalizing:=false) x with
    | .one (.ref id k s off)=>Xb n len λi=>K (.one (.ref id k s (off+i*j.size)))
    |_=>False
   |_=>False:=(eE _ _).bind λti=>by
    cases ti.kind with
    |arr len e=>
     refine(eE _ _).bind λj=>?_;cases x with
     |one c=>
      cases c with
      |ref id k s off=>exact⟨fun{P Q} hp ⟨⟨i,h1,h2,h3⟩⟩=>⟨⟨i,h1,h2,hp _ h3⟩⟩,fun⟨⟨i,h1,h2,h3⟩⟩=>⟨_,h3,⟨⟨i,h1,h2,rfl⟩⟩⟩⟩
      |_=>exact aaQ
     |_=>exact aaQ
    |sl e=>
     refine(eE _ _).bind λj=>?_;cases j.size with
     |zero=>exact aaQ
     |succ s=>
      cases x with
      |one c=>
       cases c with
       |d x=>
        cases x with
        |sl xs=>exact abM _ _ λ_ x=>jf _ (Cps.ret _)
        |pv v=>exact aaQ
        |x R=>exact⟨fun{P Q} hp ⟨⟨y,h1,h2⟩⟩=>⟨⟨y,hp _ h1,h2⟩⟩,fun⟨⟨y,h1,h2⟩⟩=>⟨y,h1,⟨⟨y,rfl,h2⟩⟩⟩⟩
       |own id=>
        refine(Dp _ _).bind λo=>?_;cases o with
        |row e' s' xs=>exact jf _ (abM _ _ λk _=>Cps.ret _)
        |_=>exact aaQ
       |_=>exact aaQ
      |_=>exact aaQ
    |_=>exact aaQ
  first
   |exact key.mono hpq h
   |exact key.dj h
theorem ND(t:TypeId)(x i:AV):Cps (Be E t x i False):=by
 refine⟨fun{P Q} hpq h=>?_,fun{K} h=>?_⟩<;>unfold Be at h⊢<;>split at h
 all_goals first
  |exact h.elim
  |skip
 all_goals
  rename_i s k n;have key:Cps λK:AV->Prop=>aTI E.T t λti=>match ti.kind with
   | .str=>∃(k:Nat) (b:UInt8),n=(k:Int)/\s[k]? =some b/\K (vI .u8 b.toNat)
   |_=>False:=(eE _ _).bind λti=>by
    cases ti.kind with
    |str=>exact abN λk=>abN λb=>Cps.and _ (Cps.and _ (Cps.ret _))
    |_=>exact aaQ
  first
   |exact key.mono hpq h
   |exact key.dj h
theorem DS(x:Option Operand):Cps (DR st x):=by
 cases x with
 |none=>exact Cps.ret none
 |some x=>
  refine(dZ x).bind λv=>?_;refine⟨fun{P Q} hpq h=>?_,fun{K} h=>?_⟩<;>split at h
  all_goals first
   |exact h.elim
   |exact hpq _ h
   |exact⟨_,h,rfl⟩
theorem zj{α:Type}(len:Nat)(lo hi:Option Int){F:Nat->Nat->(α->Prop)->Prop}(hf:∀l h,Cps (F l h)):Cps λK=>Ww len lo hi λl h=>F l h K:=
 abN λl=>abN λh=>Cps.and _ (Cps.and _ (Cps.and _ (Cps.and _ (hf l h))))
theorem K5(x:AV)(lo hi:Option Int)(i:TI):Cps λK=>zo E x lo hi False K i:=by
 refine⟨fun{P Q} hpq h=>?_,fun{K} h=>?_⟩<;>unfold zo at h⊢<;>split at h
 all_goals first
  |exact h.elim
  |skip
 ·rename_i s;revert h;cases i.kind with
  |str=>exact(zj s.size lo hi λl h=>Cps.ret (vS (s.extract l h))).mono hpq
  |_=>exact λh=>h.elim
 ·rename_i xs;revert h;cases i.kind with
  |sl e=>exact((eE E.T e).bind λj=>zj xs.length lo hi λl h=>Cps.and _ (Cps.ret (AV.one (.d (.sl ((xs.take h).drop l)))))).mono hpq
  |_=>exact λh=>h.elim
 ·rename_i s;revert h;cases i.kind with
  |str=>exact(zj s.size lo hi λl h=>Cps.ret (vS (s.extract l h))).dj
  |_=>exact λh=>h.elim
 ·rename_i xs;revert h;cases i.kind with
  |sl e=>exact((eE E.T e).bind λj=>zj xs.length lo hi λl h=>Cps.and _ (Cps.ret (AV.one (.d (.sl ((xs.take h).drop l)))))).dj
  |_=>exact λh=>h.elim
theorem NO(t:TypeId)(x:AV)(lo hi:Option Operand):Cps (Eq E st t x lo hi False):=
 (DS lo).bind λlo=>(DS hi).bind λhi=>(eE _ _).bind λi=>K5 x lo hi i
theorem NC(t:TypeId)(x:AV)(f:Nat):Cps (yu E t x f):=by
 cases x with
 |agg cs=>
  refine(eE E.T t).bind (H:=λi K=>match i.kind with| .st fs=>pG fs f λp=>aTI E.T p.2 λj=>zk cs p.1 λr=>uu j r K|_=>False) λi=>?_;cases i.kind with
  |st fs=>exact(um _ _).bind λp=>(eE _ _).bind λj=>(pC _ _).bind λr=>zq _ _
  |_=>exact aaQ
 |_=>exact aaQ
theorem DE(ob:List (Nat×AO))(f:FuncId)(args:List AV):Cps (aH E ob f args):=
 ⟨λhpq h=>by obtain⟨ps,res,h1,h2,h3⟩:=h.h;exact⟨⟨ps,res,h1,h2,hpq _ h3⟩⟩,λh=>by obtain⟨ps,res,h1,h2,h3⟩:=h.h;exact⟨_,h3,⟨⟨ps,res,h1,h2,rfl⟩⟩⟩⟩
theorem Hj(d:Option Tmp)(t:TypeId)(cs:List AC):Cps λK:AV×Option AO->Prop=>KS d t cs λv oo=>K (v,oo):=by
 cases d with
 |none=>exact aaQ
 |some d=>exact jf _ (Cps.ret ((.one (.ref d 0 0 0),some (.cells t cs)):AV×Option AO))
theorem QU{α:Type}(v:AV){F G:(α->Prop)->Prop}(hf:Cps F)(hg:Cps G):Cps λK=>zh v (F K) (G K):=by
 refine⟨fun{P Q} hpq h=>?_,fun{K} h=>?_⟩<;>unfold zh at h⊢<;>split at h
 all_goals first
  |exact h.elim
  |exact(acb _ hf hg).mono hpq h
  |exact(acb _ hf hg).dj h
theorem Cps.v{G:(AV->Prop)->Prop}(h:Cps G):Cps λK:AV×Option AO->Prop=>G λv=>K (v,none):=h.map λv=>(v,none)
theorem HJ(o:Oper):Cps λK:AV×Option AO->Prop=>nH E o st λv oo=>K (v,oo):=by
 obtain⟨dst,op,ty,pos,g,af⟩:=o;cases op with
 |move x=>exact(dZ x).v
 |assign x=>exact(dZ x).v
 |pick c a b=>exact(dZ c).bind λc=>QU c (dZ a).v (dZ b).v
 |binOp op t x y z=>exact(dZ x).bind λx=>(dZ y).bind λy=>SR (λv=>((v,none):AV×Option AO)) op t x y (DF (λv=>((v,none):AV×Option AO)) _)
 |unOp op t x=>exact(dZ x).bind λx=>(UK op x).v
 |convert s d x=>exact(dZ x).bind λx=>(QX s d x).v
 |fieldAddr t x f=>exact(dZ x).bind λx=>(DY t x f).v
 |load t x=>exact(dZ x).bind λx=>(Q3 t x).v
 |build t ps=>exact(NB t ps.toList).v
 |buildSlice t n ps=>
  refine (eE E.T t).bind (H := fun i K => match i.kind with
   | .sl e=>aTI E.T e λj=>match j.size with
    |0=>False
    |s+1=>match Nat.ble (n*(s+1)) 16777216 with
     |true=>mG st (s+1) ps.toList 0 n λxs=>K ((.one (.d (.sl xs)),none):AV×Option AO)
     |false=>False
   |_=>False) λi=>?_
  cases i.kind with
  |sl e=>
   refine(eE _ _).bind λj=>?_;cases j.size with
   |zero=>exact aaQ
   |succ s=>exact jf _ ((DV _ _ _ _).bind λxs=>Cps.ret _)
  |_=>exact aaQ
 |box t x=>exact(dZ x).bind λx=>(yt x).bind λcs=>Hj dst t cs
 |alloc t=>exact(eE E.T t).bind λi=>(HH _).bind λcs=>Hj dst t cs
 |slice t x lo hi m=>
  cases m with
  |none=>exact(dZ x).bind λx=>(NO t x lo hi).v
  |some m=>exact DF (λv=>((v,none):AV×Option AO)) _
 |indexAddr t x i=>exact(dZ x).bind λx=>(dZ i).bind λi=>(D0 t x i).v
 |index t x i=>exact(dZ x).bind λx=>(dZ i).bind λi=>(ND t x i).v
 |field t x f=>exact(dZ x).bind λx=>(NC t x f).v
 |extract x i=>
  refine(dZ x).bind (H:=λx K=>match x with| .tup vs=>pG vs i λv=>K ((v,none):AV×Option AO)|_=>False) λx=>?_;cases x with
  |tup vs=>exact(um vs i).v
  |_=>exact aaQ
 |nilCheck x=>
  refine (dZ x).bind (H := fun x K => match x with
   | .one (.ref i k s off)=>K ((.one (.ref i k s off),none):AV×Option AO)
   | .one (.ptr cs)=>K (.one (.ptr cs),none)
   |_=>False) λx=>?_
  cases x with
  |one c=>
   cases c with
   |ref i k s off=>exact Cps.ret _
   |ptr cs=>exact Cps.ret _
   |_=>exact aaQ
  |_=>exact aaQ
 |call c=>
  obtain⟨cl,args,ts⟩:=c;cases cl with
  |builtin b=>
   cases b with
   |len=>
    refine(zl args.toList).bind (H:=λvs K=>match ts.toList,vs with|t::_,[x]=>NG E st t x False λv=>K ((v,none):AV×Option AO)|_,_=>False) λvs=>?_;cases ts.toList with
    |nil=>exact aaQ
    |cons t r=>
     match vs with
     |[]=>exact aaQ
     |[x]=>exact(ST t x).v
     |_::_::_=>exact aaQ
   |_=>exact aaQ
  |value f=>
   refine (dZ f).bind (H := fun f K => match f with
    | .one (.d (.pv (.func (.func f) first caps)))=>match first.toList,caps.toList with
     |[],[]=>Jp st args.toList λargs=>aH E st.ob f args λr=>K ((r,none):AV×Option AO)
     |_,_=>False
    |_=>False) λf=>?_
   refine⟨fun{P Q} hpq h=>?_,fun{K} h=>?_⟩<;>split at h
   all_goals first
    |exact h.elim
    |skip
   all_goals
    revert h;rename_i f first caps
    cases first.toList with
    |cons _ _=>exact λh=>h.elim
    |nil=>
     cases caps.toList with
     |cons _ _=>exact λh=>h.elim
     |nil=>
      first
       |exact((zl args.toList).bind λvs=>(DE st.ob f vs).v).mono hpq
       |exact((zl args.toList).bind λvs=>(DE st.ob f vs).v).dj
  |_=>exact aaQ
 |_=>exact DF (λv=>((v,none):AV×Option AO)) _
end
theorem Rb{E:bx}(he:E.Ok){S:bZ}{o:Oper}{P:ASt}{K:AV->Option AO->Prop}(h:nH E o P K):∃v oo,qK E S o P v oo/\K v oo:=by
 obtain⟨⟨v,oo⟩,hk,e⟩:=(HJ (E:=E) (st:=P) o).dj (K:=λp=>K p.1 p.2) h;have e2:nH E o P λv' oo'=>v'=v/\oo'=oo:=(HJ (E:=E) (st:=P) o).mono (P:=λp=>p=(v,oo)) (Q:=λp=>p.1=v/\p.2=oo) (λp hp=>by subst hp;exact⟨rfl,rfl⟩) e;exact⟨v,oo,EM he e2,hk⟩
end
section
open Go.RowKit
def uq{α:Type}:List α->Nat->α->(List α->Prop)->Prop
 |[],_,_,K=>K []
 |_::r,0,x,K=>K (x::r)
 |y::r,i+1,x,K=>uq r i x λr'=>K (y::r')
theorem wJ{α:Type}:∀{l:List α} {i:Nat} {x:α} {K:List α->Prop},uq l i x K->K (l.set i x)
 |[],_,_,_,h=>h
 |_::_,0,_,_,h=>h
 |y::r,i+1,x,K,h=>wJ (l:=r) (K:=λr'=>K (y::r')) h
theorem Ef{v:AV}{P Q:List AV->Prop}(h:∀l,P l->Q l):∀{l:List AV} {n:Nat},oy l n v P->oy l n v Q
 |[],_,hp=>hp.elim
 |_::r,0,hp=>h _ hp
 |x::r,n+1,hp=>Ef (P:=λr'=>P (x::r')) (Q:=λr'=>Q (x::r')) (λl=>h _) (l:=r) (n:=n) hp
def NI:List Nat->List Oper->List (AV×Option AO)->List AV->(List AV->List (Nat×AO)->Prop)->Prop
 |_,[],_,tm,K=>K tm []
 |[],_::_,_,_,_=>False
 |_::_,_::_,[],_,_=>False
 |f::fs,o::ops,r::R,tm,K=>match f with
  |0=>NI fs ops R tm K
  |1=>match o.dst with
   |none=>False
   |some d=>match r with
    |(v,oo)=>oy tm d v λtm=>match oo with
     |none=>NI fs ops R tm K
     |some x=>NI fs ops R tm λtm obs=>K tm ((d,x)::obs)
  |_+2=>match o.dst with
   |none=>False
   |some d=>oy tm d (.one .dead) λtm=>NI fs ops R tm K
theorem zn{fl:Nat->Nat}:∀(ops:List Oper) (R:List (AV×Option AO)) (j:Nat) (tm:List AV) (K:List AV->List (Nat×AO)->Prop),NI ((List.range' j ops.length).map fl) ops R tm K->aMk fl ops R j tm K
 |[],R,j,tm,K,h=>by cases R<;>exact h
 |_::_,[],j,tm,K,h=>by rw[List.length_cons,List.range'_succ]at h;exact h.elim
 |o::ops,r::R,j,tm,K,h=>by
  rw[List.length_cons,List.range'_succ,List.map_cons]at h;unfold NI at h;unfold aMk;cases hf:fl j with
  |zero=>rw[hf]at h;exact zn ops R (j+1) tm K h
  |succ n=>
   rw[hf]at h;cases hd:o.dst with
   |none=>rw[hd]at h;cases n<;>exact h.elim
   |some d=>
    rw[hd]at h;cases n with
    |zero=>
     obtain⟨v,oo⟩:=r;refine Ef ?_ h;intro tm' h2;cases oo with
     |none=>exact zn ops R (j+1) tm' K h2
     |some x=>exact zn ops R (j+1) tm' _ h2
    |succ n=>exact Ef (λtm' h2=>zn ops R (j+1) tm' K h2) h
def Bc(fs:List Nat)(pre:List Oper)(R:List (AV×Option AO))(st:ASt)(K:ASt->Prop):Prop:=
 match st with
 |⟨tm,ob⟩=>NI fs pre R tm λtm obs=>SQ obs ob λob=>K ⟨tm,ob⟩
theorem KU{D:List (List Nat)}{pre:List Oper}{R:List (AV×Option AO)}{i:Nat}{st:ASt}{K:ASt->Prop}(h:Bc ((List.range pre.length).map (flP D i)) pre R st K):Hk D pre R i st K:=by
 obtain⟨tm,ob⟩:=st;rw[List.range_eq_range']at h;exact zn pre R 0 tm _ h
def kN(E:bx)(pre:List Oper)(st:ASt):List Oper->List (List Nat)->Nat->List (AV×Option AO)->(List (AV×Option AO)->Prop)->Prop
 |[],_,_,R,K=>K R
 |_::_,[],_,_,_=>False
 |o::ops,fs::FL,i,R,K=>match o.guard with
  |none=>Bc fs pre R st λP=>nH E o P λv oo=>uq R i (v,oo) λR=>kN E pre st ops FL (i+1) R K
  |some (g,want)=>pG fs g λf=>match f with
   |1=>pG R g λrg=>match rg.1 with
    | .one (.d (.pv (.bool p)))=>AB p
     (match want with
      |true=>Bc fs pre R st λP=>nH E o P λv oo=>uq R i (v,oo) λR=>kN E pre st ops FL (i+1) R K
      |false=>uq R i (.one .und,none) λR=>kN E pre st ops FL (i+1) R K)
     (match want with
      |true=>uq R i (.one .und,none) λR=>kN E pre st ops FL (i+1) R K
      |false=>Bc fs pre R st λP=>nH E o P λv oo=>uq R i (v,oo) λR=>kN E pre st ops FL (i+1) R K)
    | .one .und=>uq R i (.one .und,none) λR=>kN E pre st ops FL (i+1) R K
    |_=>False
   |_=>False
section
variable {E:bx} {S:bZ} {ops:List Oper} {D:List (List Nat)} {n0:Nat} {st:ASt}
theorem AX{R:List (AV×Option AO)}{i j:Nat}{x:AV×Option AO}(h:j≠i):vAt (R.set i x) j=vAt R j:=by
 unfold vAt;rw[List.getD_eq_getElem?_getD,List.getD_eq_getElem?_getD,List.getElem?_set_ne (λe=>h e.symm)]
theorem J7{R:List (AV×Option AO)}{i j:Nat}{x:AV×Option AO}(h:j≠i):oAt (R.set i x) j=oAt R j:=by
 unfold oAt;rw[List.getD_eq_getElem?_getD,List.getD_eq_getElem?_getD,List.getElem?_set_ne (λe=>h e.symm)]
theorem KQ{R:List (AV×Option AO)}{i:Nat}{x:AV×Option AO}(h:i<R.length):vAt (R.set i x) i=x.1:=by
 unfold vAt;rw[List.getD_eq_getElem?_getD,List.getElem?_set_self h];rfl
theorem J6{R:List (AV×Option AO)}{i:Nat}{x:AV×Option AO}(h:i<R.length):oAt (R.set i x) i=x.2:=by
 unfold oAt;rw[List.getD_eq_getElem?_getD,List.getElem?_set_self h];rfl
theorem Nh{R R':List (AV×Option AO)}{i:Nat}(h:∀j,inD D j i=true->vAt R j=vAt R' j/\oAt R j=oAt R' j):stP ops D R n0 st i=stP ops D R' n0 st i:=by
 have e1:(List.range n0).filterMap (upP ops D R i)=(List.range n0).filterMap (upP ops D R' i):=zD λj _=>by
  unfold upP;cases hj:inD D j i with
  |true=>simp[(h j hj).1]
  |false=>simp
 have e2:(List.range n0).filterMap (obF ops R λj=>inD D j i)=(List.range n0).filterMap (obF ops R' λj=>inD D j i):=zD λj _=>by
  unfold obF;cases hj:inD D j i with
  |true=>simp[(h j hj).2]
  |false=>simp[hj]
 simp only[stP,e1,e2]
theorem N7(T:sN ops D n0){i j:Nat}(hi:i<ops.length)(h:inD D j i=true):j<i:=by
 have:=mo T (lf:=λj=>decide (j<i)) (λk hk e he=>?_) (i:=i) (λe he=>?_) h
 ·simpa using this
 ·have hki:k<i:=by simpa using hk
  rw[eq (List.getElem?_eq_getElem (by omega:k<ops.length))]at he;have:=T.edge k _ (List.getElem?_eq_getElem ac) _ he;simp;omega
 ·rw[eq (List.getElem?_eq_getElem hi)]at he;have:=T.edge i _ (List.getElem?_eq_getElem hi) _ he;simpa using this
theorem qJ.keep(T:sN ops D n0){R:List (AV×Option AO)}{i k:Nat}{o:Oper}{x:AV×Option AO}(hi:i<k)(hil:i<ops.length)(h:qJ E S D R n0 (stP ops D R n0 st i) i o):qJ E S D (R.set k x) n0 (stP ops D (R.set k x) n0 st i) i o:=by
 have hlt:∀j,inD D j i=true->j≠k:=λj hj e=>by have:=N7 T hil hj;omega
 have e:stP ops D (R.set k x) n0 st i=stP ops D R n0 st i:=Nh λj hj=>⟨AX (hlt j hj),J7 (hlt j hj)⟩;have e1:vAt (R.set k x) i=vAt R i:=AX ac;have e2:oAt (R.set k x) i=oAt R i:=J7 ac;unfold qJ at h⊢;rw[e,e1,e2];cases hg:o.guard with
 |none=>rw[hg]at h;exact h
 |some gw=>
  obtain⟨g,want⟩:=gw;rw[hg]at h;obtain⟨h1,h2,h3⟩:=h;refine⟨h1,h2,?_⟩;rw[AX (hlt g h2)];exact h3
theorem Lm{D:List (List Nat)}{i j:Nat}(h:flP D i j=1):inD D j i=true:=by
 unfold flP at h;split at h
 ·assumption
 ·split at h
  ·cases h
  ·split at h<;>cases h
theorem HQ(he:E.Ok)(T:sN ops D n0){K:List (AV×Option AO)->Prop}:∀(rest:List Oper) (i:Nat) (R:List (AV×Option AO)),(∀k,(ops.take n0)[i+k]? =rest[k]?)->R.length=n0->
  (∀j o,j<i->ops[j]? =some o->qJ E S D R n0 (stP ops D R n0 st j) j o)->kN E (ops.take n0) st rest ((List.range' i rest.length).map λi=>(List.range n0).map (flP D i)) i R K->∃RA,K RA/\∀j o,j<n0->ops[j]? =some o->qJ E S D RA n0 (stP ops D RA n0 st j) j o
 |[],i,R,hr,hl,hf,h=>by
  refine⟨R,h,λj o hj ho=>hf j o ?_ ho⟩;have:=hr 0;simp only[Nat.add_zero,List.getElem?_nil]at this;have h2:=List.getElem?_eq_none_iff.1 this;have:=T.le;simp at h2;omega
 |o::rest,i,R,hr,hl,hf,h=>by
  have h0:=hr 0;simp only[Nat.add_zero,List.getElem?_cons_zero]at h0;have hi:i<n0:=by
   have:=(List.getElem?_eq_some_iff.1 h0).1;simp at this;omega
  have hio:ops[i]? =some o:=by
   rw[List.getElem?_take,if_pos hi]at h0;exact h0
  have hil:i<ops.length:=(List.getElem?_eq_some_iff.1 hio).1;have hr':∀k,(ops.take n0)[i+1+k]? =rest[k]? :=λk=>by
   have:=hr (k+1);rw[show i+1+k=i+(k+1)by omega];simpa using this
  have next:∀x:AV×Option AO,kN E (ops.take n0) st rest ((List.range' (i+1) rest.length).map λi=>(List.range n0).map (flP D i)) (i+1) (R.set i x) K->qJ E S D (R.set i x) n0 (stP ops D (R.set i x) n0 st i) i o->∃RA,K RA/\∀j o,j<n0->ops[j]? =some o->qJ E S D RA n0 (stP ops D RA n0 st j) j o:=λx hk hd=>
   HQ he T rest (i+1) (R.set i x) hr' (by simpa using hl) (λj o' hj ho'=>by
    rcases Nat.lt_succ_iff_lt_or_eq.1 hj with hj|hj
    ·exact(hf j o' hj ho').keep T hj ac
    ·subst hj;rw[hio]at ho';injection ho' with ho'
     subst ho';exact hd) hk
  have eP:∀x:AV×Option AO,stP ops D (R.set i x) n0 st i=stP ops D R n0 st i:=λx=>Nh λj hj=>by
   have:=N7 T hil hj;exact⟨AX ac,J7 ac⟩
  have free:(Bc ((List.range n0).map (flP D i)) (ops.take n0) R st λP=>nH E o P λv oo=>uq R i (v,oo) λR=>kN E (ops.take n0) st rest ((List.range' (i+1) rest.length).map λi=>(List.range n0).map (flP D i)) (i+1) R K)->∃x:AV×Option AO,qK E S o (stP ops D R n0 st i) x.1 x.2/\kN E (ops.take n0) st rest ((List.range' (i+1) rest.length).map λi=>(List.range n0).map (flP D i)) (i+1) (R.set i x) K:=λh=>by
   have hlen:(ops.take n0).length=n0:=by have:=T.le;simp;omega
   have h1:=Hl T.le (KU (by rw[hlen];exact h));obtain⟨v,oo,h2,h3⟩:=Rb he h1;exact⟨(v,oo),h2,wJ h3⟩
  rw[List.length_cons,List.range'_succ,List.map_cons]at h;unfold kN at h;cases hg:o.guard with
  |none=>
   rw[hg]at h;obtain⟨x,hx,hk⟩:=free h;refine next x hk ?_;unfold qJ;rw[hg,eP,KQ ac,J6 ac];exact hx
  |some gw=>
   obtain⟨g,want⟩:=gw;rw[hg]at h;obtain⟨f,hf1,h3⟩:=gh h;have hf0:f=flP D i g:=by
    rw[List.getElem?_map]at hf1;obtain⟨g',hg',rfl⟩:=Option.map_eq_some_iff.1 hf1;have:=List.getElem?_eq_some_iff.1 hg';obtain⟨_,e⟩:=this;simp at e;rw[e]
   split at h3
   case h_2=>exact h3.elim
   have h1:inD D g i=true:=Lm hf0.symm;obtain⟨rg,hrg,h3⟩:=gh h3;have hgi:=N7 T hil h1;have hvg:∀x:AV×Option AO,vAt (R.set i x) g=rg.1:=λx=>by
    rw[AX ac];unfold vAt;rw[List.getD_eq_getElem?_getD,hrg];rfl
   split at h3
   ·rename_i p hp;have run:(p=want)->(Bc ((List.range n0).map (flP D i)) (ops.take n0) R st λP=>nH E o P λv oo=>uq R i (v,oo) λR=>kN E (ops.take n0) st rest ((List.range' (i+1) rest.length).map λi=>(List.range n0).map (flP D i)) (i+1) R K)->∃RA,K RA/\∀j o,j<n0->ops[j]? =some o->qJ E S D RA n0 (stP ops D RA n0 st j) j o:=λe h=>by
     obtain⟨x,hx,hk⟩:=free h;refine next x hk ?_;unfold qJ;rw[hg,eP,KQ ac,J6 ac];exact⟨ac,h1,.inl ⟨p,by rw[hvg,hp],.inl ⟨e,hx⟩⟩⟩
    have skip:(p≠want)->(uq R i (.one .und,none) λR=>kN E (ops.take n0) st rest ((List.range' (i+1) rest.length).map λi=>(List.range n0).map (flP D i)) (i+1) R K)->∃RA,K RA/\∀j o,j<n0->ops[j]? =some o->qJ E S D RA n0 (stP ops D RA n0 st j) j o:=λe h=>by
     refine next (.one .und,none) (wJ h) ?_;unfold qJ;rw[hg,eP,KQ ac,J6 ac];exact⟨ac,h1,.inl ⟨p,by rw[hvg,hp],.inr ⟨e,rfl,rfl⟩⟩⟩
    cases p with
    |true=>
     have h:=h3.t rfl;cases want with
     |true=>exact run rfl h
     |false=>exact skip ah h
    |false=>
     have h:=h3.f rfl;cases want with
     |true=>exact skip ah h
     |false=>exact run rfl h
   ·rename_i hp;refine next (.one .und,none) (wJ h3) ?_;unfold qJ;rw[hg,eP,KQ ac,J6 ac];exact⟨ac,h1,.inr ⟨by rw[hvg,hp],rfl,rfl⟩⟩
   ·exact h3.elim
end
theorem ab6{E:bx}(he:E.Ok){S:bZ}{ops:Array Oper}{K:Exit->ASt->Prop}{id:Nat}{st:ASt}(n0:Nat)(D:List (List Nat))(R:List (AV×Option AO))(T:sN ops.toList D n0)(F:Jf E S ops.toList D R n0 st)
  (ht:DN (ops.toList.take n0) R st λst=>Bj E S ops.toList (ops.toList.drop n0) st (K .normal)):AWP E S (.region id ops true) K st:=by
 refine⟨λa w hs=>wp_region_any he.mixed ?_⟩;have hg:w.grownBy {w with drawn:=w.drawn+1} none:=⟨rfl,rfl,rfl,Nat.le_refl _,λb hb _=>rfl⟩;refine HR (Q:=λe a' w'=>∃st',f8 E.W S st' a' w'/\K e st') he T F (λa w h=>h) ht ops.size (Array.replicate ops.size false) a _ ah (λj _=>?_) (λj hj=>?_) ?_ ?_
 ·simp[fx,Array.getD_eq_getD_getElem?,Array.getElem?_replicate];split<;>rfl
 ·exfalso;simp[fx,Array.getD_eq_getD_getElem?,Array.getElem?_replicate]at hj;split at hj<;>simp at hj
 ·have:∀(lf:Nat->Bool) n,oq lf n<=n:=λlf n=>by
   induction n with
   |zero=>exact Nat.le_refl _
   |succ n ih=>simp only[oq];split<;>omega
  exact this _ _
 ·obtain⟨Z,ρ,hs⟩:=hs;have e:stS ops.toList R n0 st (fx (Array.replicate ops.size false))=st:=by
   have e1:∀j,fx (Array.replicate ops.size false) j=false:=λj=>by
    simp[fx,Array.getD_eq_getD_getElem?,Array.getElem?_replicate];split<;>rfl
   have e2:(List.range n0).filterMap (upS ops.toList R (fx (Array.replicate ops.size false)))=[]:=by
    rw[List.filterMap_eq_nil_iff];intro j _;simp[upS,e1]
   have e3:(List.range n0).filterMap (obF ops.toList R (fx (Array.replicate ops.size false)))=[]:=by
    rw[List.filterMap_eq_nil_iff];intro j _;simp[obF,e1]
   simp[stS,e2,e3,ll]
  rw[e];exact⟨Z,ρ,hs.grow hg (λ_ h=>h) λ_ h=> .inl h⟩
def unq:Nat->Nat->List Nat
 |0,_=>[]
 |n+1,x=>match Nat.beq x 0 with
  |true=>[]
  |false=>(x % 64-1)::unq n (x/64)
def bC:List Nat->List (List Nat)
 |[]=>[]
 |x::r=>unq 64 x::bC r
def unp:Nat->Nat->List Nat
 |0,_=>[]
 |n+1,x=>(x % 3)::unp n (x/3)
def dW(n:Nat):List Nat->List (List Nat)
 |[]=>[]
 |x::r=>unp n x::dW n r
theorem aaJ{E:bx}(he:E.Ok){S:bZ}{ops:Array Oper}{K:Exit->ASt->Prop}(id:Nat){st:ASt}(n0:Nat)(D FL:List (List Nat))(hD:yE [] ops.toList=D)(hok:JO ops.toList D n0=true)(hfl:((List.range n0).map λi=>(List.range n0).map (flP D i))=FL)(hl:TO ops.toList n0 st.tm.length=true)
  (h:kN E (ops.toList.take n0) st (ops.toList.take n0) FL 0 (List.replicate n0 (.one .dead,none)) λR=>noB ops.toList D R n0 st=true/\DN (ops.toList.take n0) R st λst=>Bj E S ops.toList (ops.toList.drop n0) st (K .normal)):AWP E S (.region id ops true) K st:=by
 have T:=B9 hD hok;have hlen:(ops.toList.take n0).length=n0:=by have:=T.le;simp at*;omega
 subst hfl;have e:((List.range n0).map λi=>(List.range n0).map (flP D i))=((List.range' 0 (ops.toList.take n0).length).map λi=>(List.range n0).map (flP D i)):=by rw[hlen,<-List.range_eq_range']
 rw[e]at h;obtain⟨R,⟨hno,ht⟩,hf⟩:=HQ (S:=S) he T (ops.toList.take n0) 0 (List.replicate n0 (.one .dead,none)) (λk=>by simp) ah (λj o hj=>absurd hj (Nat.not_lt_zero _)) h;exact ab6 he n0 D R T ⟨PU T hl hno,hf⟩ ht
end
end Go.Proofs.YthgkdhnlehneeaaGreatDoor
