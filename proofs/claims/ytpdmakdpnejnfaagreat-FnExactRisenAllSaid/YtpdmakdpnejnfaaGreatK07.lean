/- K07 -/
import Derived.Test.YtpdmakdpnejnfaaGreatAvJ3
import Derived.Test.YtpdmakdpnejnfaaGreatK21
import Derived.Test.YtpdmakdpnejnfaaGreatAvJ1
import Derived.Deep.Slices
import Derived.ChangeArms
import Derived.OpenShut
set_option maxHeartbeats 8000000
set_option linter.unusedVariables false
set_option linter.unusedSimpArgs false
set_option maxRecDepth 100000
open List (all_eq_true getD_eq_getElem?_getD getElem?_eq_getElem length_cons length_set map_cons mem_range)
open Array (getD_eq_getD_getElem? getElem?_replicate toArray_toList)
namespace Go.Proofs.YtpdmakdpnejnfaaGreat
section
section
open Go.RowKit
structure Cps {α:Type} (F:(α->Prop)->Prop):Prop where
 mono:∀{P Q:α->Prop},(∀x,P x->Q x)->F P->F Q
 dj:∀{K:α->Prop},F K->∃x,K x/\F (· =x)
section
variable {α β γ:Type}
theorem Cps.ret(x:α):Cps λK:α->Prop=>K x:=⟨λh hp=>h x hp,λh=>⟨x,h,rfl⟩⟩
theorem XR:Cps λ_:α->Prop=>False:=⟨λ_ h=>h,λh=>h.elim⟩
theorem Cps.bind{G:(β->Prop)->Prop}{H:β->(α->Prop)->Prop}(hg:Cps G)(hh:∀y,Cps (H y)):Cps λK=>G λy=>H y K:=
 ⟨λh hp=>hg.mono (λy=>(hh y).mono h) hp,λhk=>by
  obtain⟨y,hy,g⟩:=hg.dj hk;obtain⟨x,hx,e⟩:=(hh y).dj hy;exact⟨x,hx,hg.mono (λy' e'=>by subst e';exact e) g⟩⟩
theorem Cps.map{G:(β->Prop)->Prop}(hg:Cps G)(f:β->α):Cps λK=>G λy=>K (f y):=hg.bind λy=>Cps.ret (f y)
theorem Cps.and{F:(α->Prop)->Prop}(p:Prop)(hf:Cps F):Cps λK=>p/\F K:=
 ⟨λh hp=>⟨hp.1,hf.mono h hp.2⟩,λhk=>by obtain⟨x,hx,e⟩:=hf.dj hk.2;exact⟨x,hx,hk.1,e⟩⟩
theorem ZM{F:β->(α->Prop)->Prop}(hf:∀y,Cps (F y)):Cps λK=>∃y,F y K:=
 ⟨λh ⟨y,hp⟩=>⟨y,(hf y).mono h hp⟩,fun⟨y,hk⟩=>by obtain⟨x,hx,e⟩:=(hf y).dj hk;exact⟨x,hx,y,e⟩⟩
theorem aaC{F G:(α->Prop)->Prop}(p:Bool)(hf:Cps F)(hg:Cps G):Cps λK=>AB p (F K) (G K):=by
 cases p with
 |true=>exact⟨λh hp=>aaB (hf.mono h (hp.t rfl)),λhk=>by obtain⟨x,hx,e⟩:=hf.dj (hk.t rfl);exact⟨x,hx,aaB e⟩⟩
 |false=>exact⟨λh hp=>aaA (hg.mono h (hp.f rfl)),λhk=>by obtain⟨x,hx,e⟩:=hg.dj (hk.f rfl);exact⟨x,hx,aaA e⟩⟩
theorem YO(k:IntKind)(n:Int){F:Int->(α->Prop)->Prop}(hf:∀c,Cps (F c)):Cps λK=>AW k n λc=>F c K:=
 ⟨λh ⟨⟨c,e,hp⟩⟩=>⟨⟨c,e,(hf c).mono h hp⟩⟩,fun⟨⟨c,e,hk⟩⟩=>by obtain⟨x,hx,g⟩:=(hf c).dj hk;exact⟨x,hx,⟨⟨c,e,g⟩⟩⟩⟩
theorem ZL(xs:List (List AD))(n:Int){F:Nat->List AD->(α->Prop)->Prop}(hf:∀k x,Cps (F k x)):Cps λK=>AIx xs n λk x=>F k x K:=
 ⟨λh ⟨⟨k,x,e1,e2,hp⟩⟩=>⟨⟨k,x,e1,e2,(hf k x).mono h hp⟩⟩,fun⟨⟨k,x,e1,e2,hk⟩⟩=>by obtain⟨y,hy,g⟩:=(hf k x).dj hk;exact⟨y,hy,⟨⟨k,x,e1,e2,g⟩⟩⟩⟩
theorem YB{F G:(α->Prop)->Prop}(h:∀K,F K=G K)(hg:Cps G):Cps F:=by
 have:F=G:=funext h;rw[this];exact hg
end
section
variable {E:bz} {st:ASt}
theorem Nr:∀(l:List AV) (n:Nat),Cps (aTm l n)
 |[],_=>XR
 |x::_,0=>Cps.ret x
 |_::r,n+1=>Nr r n
theorem Bq:∀(l:List (Nat×AO)) (i:Nat),Cps (aOb l i)
 |[],_=>XR
 |(k,o)::r,i=>by
  refine YB (G:=λK=>match Nat.beq k i with|true=>K o|false=>aOb r i K) (λK=>rfl) ?_;cases Nat.beq k i with
  |true=>exact Cps.ret o
  |false=>exact Bq r i
theorem tJ{α:Type}:∀(l:List α) (n:Nat),Cps (pB l n)
 |[],_=>XR
 |x::_,0=>Cps.ret x
 |_::r,n+1=>tJ r n
theorem pz{α:Type}:∀(l:List α) (n:Nat),Cps (xy l n)
 |l,0=>by refine YB (G:=λK=>K l) (λK=>by cases l<;>rfl) (Cps.ret l)
 |[],n+1=>XR
 |_::r,n+1=>pz r n
theorem Fz{α:Type}:∀(n:Nat) (l:List α),Cps (Nq l n)
 |0,l=>by refine YB (G:=λK=>K []) (λK=>by cases l<;>rfl) (Cps.ret [])
 |n+1,[]=>XR
 |n+1,x::r=>(Fz n r).map λr'=>x::r'
theorem vg:∀(l:List AD),Cps (zJ l)
 |[]=>Cps.ret []
 |x::r=>(vg r).map λr'=>AC.d x::r'
theorem d5(T:TT)(t:TypeId):Cps (aTI T t):=by
 unfold aTI;cases T.get t with
 |some i=>exact Cps.ret i
 |none=>exact XR
theorem B8(v:Value):Cps (Hr v):=YB (G:=λK=>K (ofC v)) (λK=>by unfold Hr ofC;split<;>rfl) (Cps.ret _)
theorem Ca:∀l:List Value,Cps (Oh l)
 |[]=>Cps.ret []
 |v::r=>(B8 v).bind λc=>(Ca r).map λr'=>c::r'
theorem d4(x:Operand):Cps (aEv st x):=by
 cases x with
 |tmp t=>exact Nr _ _
 |const v=>
  by_cases hv:∃cs,v= .agg cs
  ·obtain⟨cs,rfl⟩:=hv;exact(Ca cs.toList).map AV.agg
  ·have key:∀K,aEv st (.const v) K=Hr v λc=>K (AV.one c):=λK=>by
    cases v<;>first|rfl|exact absurd ⟨_,rfl⟩ hv
   exact YB key ((B8 v).map AV.one)
 |func f=>exact Cps.ret _
 |global g=>exact XR
theorem xz:∀xs:List Operand,Cps (BV st xs)
 |[]=>Cps.ret []
 |x::r=>(d4 x).bind λv=>(xz r).map λr'=>v::r'
theorem xF(i:TI)(cs:List AC):Cps (tL i cs):=by
 unfold tL;cases i.agg with
 |true=>exact(Fz _ _).map AV.agg
 |false=>
  cases cs with
  |nil=>exact XR
  |cons c r=>exact Cps.ret _
theorem xE:∀l:List AC,Cps (I6 l)
 |[]=>Cps.ret []
 |c::r=>by
  cases c with
  |d x=>exact(xE r).map λr'=>x::r'
  |nil=>exact(xE r).map λr'=>AD.sl []::r'
  |_=>exact XR
theorem Oe(op:BinOp)(k:IntKind)(a b:Int):Cps (zG op k a b):=by
 cases op with
 |add=>exact YO _ _ λc=>Cps.ret _
 |sub=>exact YO _ _ λc=>Cps.ret _
 |mul=>exact YO _ _ λc=>Cps.ret _
 |quo=>exact Cps.and _ (YO _ _ λc=>Cps.ret _)
 |rem=>exact Cps.and _ (Cps.ret _)
 |shr=>
  refine YB (G:=λK=>match decide (0<=b)with|true=>K (vI k (SI k a b))|false=>False) (λK=>rfl) ?_;cases decide (0<=b)with
  |true=>exact Cps.ret _
  |false=>exact XR
 |_=>first|exact Cps.ret _|exact XR
theorem Fy(op:BinOp)(a b:ByteArray):Cps (Np op a b):=by
 cases op with
 |add=>exact Cps.and _ (Cps.ret _)
 |_=>first|exact Cps.ret _|exact XR
theorem LG(op:BinOp)(a b:Bool):Cps (Hm op a b):=by
 cases op with
 |_=>first|exact Cps.ret _|exact XR
theorem Fw(op:BinOp)(k k':IntKind)(a b:Int):Cps (λK=>match Cn k k' with|true=>zG op k a b K|false=>False):=by
 cases Cn k k' with
 |true=>exact Oe ..
 |false=>exact XR
theorem BO(op:BinOp)(t:TypeId)(a b:Bool):Cps (λK=>aTI E.T t λi=>match i.kind with| .bool=>Hm op a b K|_=>False):=
 (d5 _ _).bind λi=>by
  cases i.kind with
  |bool=>exact LG ..
  |_=>exact XR
theorem PP{α:Type}(f:AV->α)(op:BinOp)(t:TypeId)(x y:AV){F:(α->Prop)->Prop}(hF:Cps F):Cps λK=>N8 E op t x y (F K) λv=>K (f v):=by
 refine⟨fun{P Q} hpq h=>?_,fun{K} h=>?_⟩<;>unfold N8 at h⊢<;>split at h
 all_goals first
  |exact hF.mono hpq h
  |exact hF.dj h
  |exact((Fw ..).map f).mono hpq h
  |exact((Fw ..).map f).dj h
  |exact((Fy ..).map f).mono hpq h
  |exact((Fy ..).map f).dj h
  |exact((BO ..).map f).mono hpq h
  |exact((BO ..).map f).dj h
theorem BH{α:Type}(f:AV->α)(o:Oper):Cps λK=>o7 E o st λv=>K (f v):=
 ⟨λhpq h=>by obtain⟨v,hk,hr⟩:=h.h;exact⟨v,hpq _ hk,hr⟩,λh=>by obtain⟨v,hk,hr⟩:=h.h;exact⟨_,hk,⟨v,rfl,hr⟩⟩⟩
theorem RQ(op:UnOp)(x:AV):Cps (aUn op x False):=by
 refine⟨fun{P Q} hpq h=>?_,fun{K} h=>?_⟩<;>unfold aUn at h⊢<;>split at h
 all_goals first
  |exact h.elim
  |exact(Cps.ret _).mono hpq h
  |exact(Cps.ret _).dj h
  |exact(YO _ _ λc=>Cps.ret _).mono hpq h
  |exact(YO _ _ λc=>Cps.ret _).dj h
theorem jz{α:Type}(b:Bool){F:(α->Prop)->Prop}(hf:Cps F):Cps λK=>match(generalizing:=false) b with|true=>F K|false=>False:=by
 cases b with
 |true=>exact hf
 |false=>exact XR
theorem Oc(s d:TypeId)(x:AV):Cps (Fd E s d x False):=by
 refine⟨fun{P Q} hpq h=>?_,fun{K} h=>?_⟩<;>unfold Fd at h⊢<;>split at h
 all_goals first
  |exact h.elim
  |skip
 ·rename_i k n;exact((d5 E.T s).bind λ_=>(d5 E.T d).bind (H:=λi K=>match i.kind with| .int k=>AW k n λc=>K (vI k c)|_=>False) λi=>by
   cases i.kind with
   |int k=>exact YO _ _ λc=>Cps.ret _
   |_=>exact XR).mono hpq h
 ·rename_i k n;exact((d5 E.T s).bind λ_=>(d5 E.T d).bind (H:=λi K=>match i.kind with| .int k=>AW k n λc=>K (vI k c)|_=>False) λi=>by
   cases i.kind with
   |int k=>exact YO _ _ λc=>Cps.ret _
   |_=>exact XR).dj h
theorem BW(t:TypeId)(x:AV)(f:Nat):Cps (lK E t x f):=by
 unfold lK;refine(d5 _ _).bind λi=>?_;cases i.kind with
 |st fs=>
  refine(tJ _ _).bind λp=>(d5 _ _).bind λj=>?_;cases j.size with
  |zero=>exact XR
  |succ n=>
   cases x with
   |one c=>
    cases c with
    |ref id k s off=>exact Cps.ret _
    |ptr cs=>exact(pz _ _).bind λr=>Cps.ret _
    |_=>exact XR
   |_=>exact XR
 |_=>exact XR
theorem Og(t:TypeId)(x:AV):Cps (tI E st t x):=by
 unfold tI;refine(d5 _ _).bind λi=>?_;cases x with
 |one c=>
  cases c with
  |ref id k s off=>
   refine(Bq _ _).bind λo=>?_;cases o with
   |cells u cs=>
    cases k with
    |zero=>exact(pz _ _).bind λr=>xF _ _
    |succ k=>exact XR
   |row e s' xs=>exact jz _ (ZL _ _ λ_ x=>(pz _ _).bind λr=>(vg _).bind λr=>xF _ _)
   |frame vs us=>exact XR
   |any Q=>exact XR
   |many P Q=>exact XR
  |ptr cs=>exact(vg _).bind λcs=>xF _ _
  |_=>exact XR
 |_=>exact XR
theorem qE(x:AV):Cps (nR x):=by
 cases x with
 |one c=>exact jz _ (Cps.ret _)
 |agg cs=>exact jz _ (Cps.ret _)
 |tup vs=>exact XR
theorem FC(z:Value):Cps (xG z):=by
 by_cases hv:∃cs,z= .agg cs
 ·obtain⟨cs,rfl⟩:=hv;exact(Ca cs.toList).bind λl=>jz _ (Cps.ret _)
 ·have key:∀K,xG z K=Hr z λc=>match j6 [c]with|true=>K [c]|false=>False:=λK=>by
   cases z<;>first|rfl|exact absurd ⟨_,rfl⟩ hv
  exact YB key ((B8 z).bind λc=>jz _ (Cps.ret _))
theorem mp:∀(l:List AC) (n:Nat) (xs:List AC),Cps (nq l n xs)
 |l,0,[]=>by refine YB (G:=λK=>K l) (λK=>by cases l<;>rfl) (Cps.ret l)
 |_::r,0,x::xs=>(mp r 0 xs).map λr'=>x::r'
 |c::r,n+1,xs=>by
  refine YB (G:=λK=>nq r n xs λr'=>K (c::r')) (λK=>by cases xs<;>rfl) ((mp r n xs).map λr'=>c::r')
 |[],0,_::_=>XR
 |[],_+1,[]=>XR
 |[],_+1,_::_=>XR
theorem yW{place:Nat->(Nat×Nat->Prop)->Prop}(hp:∀n,Cps (place n)):∀(ps:List (Nat×Operand)) (l:List AC),Cps (IR st place ps l)
 |[],l=>Cps.ret l
 |(i,x)::r,l=>(hp i).bind λp=>(d4 x).bind λv=>(qE v).bind λvs=>jz _ ((mp _ _ _).bind λl'=>yW hp r l')
theorem zK:∀fs:List (Nat×TypeId),Cps (Br E fs)
 |[]=>Cps.ret []
 |p::r=>(d5 _ _).bind λj=>(zK r).map λq=>(p.1,j.size)::q
theorem LH(t:TypeId)(ps:List (Nat×Operand)):Cps (BR E st t ps):=by
 unfold BR;refine(d5 _ _).bind λi=>(FC _).bind λz=>?_;cases i.kind with
 |st fs=>exact(zK _).bind λplaces=>(yW (λn=>tJ _ _) _ _).bind λl=>Cps.ret _
 |arr n e=>exact(d5 _ _).bind λj=>(yW (λn=>Cps.ret _) _ _).bind λl=>Cps.ret _
 |_=>exact XR
theorem BT(s:Nat):∀(ps:List (Nat×Operand)) (a n:Nat),Cps (mT st s ps a n)
 |[],a,n=>jz _ (Cps.ret [])
 |(i,x)::r,a,n=>jz _ ((d4 x).bind λv=>(qE v).bind λvs=>jz _ ((xE _).bind λds=>(BT s r (a+1) n).map λr'=>ds::r'))
theorem LT(x:AV):Cps (tK st x):=by
 cases x with
 |one c=>
  cases c with
  |nil=>exact Cps.ret _
  |d x=>
   cases x with
   |sl xs=>exact Cps.ret _
   |pv v=>exact XR
   |x R=>exact XR
  |own id=>
   refine(Bq _ _).bind λo=>?_;cases o with
   |row _ _ xs=>exact Cps.ret _
   |_=>exact XR
  |_=>exact XR
 |_=>exact XR
theorem PS(t:TypeId)(x:AV):Cps (LN E st t x False):=by
 have rest:Cps λK:AV->Prop=>aTI E.T t λi=>match i.kind with| .sl _=>tK st x λxs=>K (vI .i64 xs.length)|_=>False:=
  (d5 _ _).bind λi=>by
   cases i.kind with
   |sl e=>exact(LT _).bind λxs=>Cps.ret _
   |_=>exact XR
 by_cases hs:∃s,x= .one (.d (.pv (.string s)))
 ·obtain⟨s,rfl⟩:=hs;exact(d5 E.T t).bind (H:=λi K=>match i.kind with| .str=>K (vI .i64 s.size)|_=>False) λi=>by
   cases i.kind with
   |str=>exact Cps.ret _
   |_=>exact XR
 ·refine YB (λK=>?_) rest;unfold LN;split
  ·exact absurd ⟨_,rfl⟩ hs
  ·rfl
theorem BZ(t:TypeId)(x i:AV):Cps (lL E st t x i):=by
 refine⟨fun{P Q} hpq h=>?_,fun{K} h=>?_⟩<;>unfold lL at h⊢<;>split at h
 all_goals first
  |exact h.elim
  |skip
 all_goals
  rename_i k n;have key:Cps λK:AV->Prop=>aTI E.T t λti=>match ti.kind with
   | .sl e=>aTI E.T e λj=>match j.size with
    |0=>False
    |s+1=>match(generalizing:=false) x with
     | .one (.d (.sl xs))=>AIx xs n λ_ x=>match IW x (s+1)with
      |true=>K (.one (.ptr x))
      |false=>False
     | .one (.own id)=>aOb st.ob id λo=>match o with
      | .row _ s' xs=>match Nat.beq (s+1) s' with
       |true=>AIx xs n λk _=>K (.one (.ref id k (s+1) 0))
       |false=>False
      |_=>False
     |_=>False
   | .arr len e=>aTI E.T e λj=>match(generalizing:=false) x with
    | .one (.ref id k s off)=>je n len λi=>K (.one (.ref id k s (off+i*j.size)))
    |_=>False
   |_=>False:=(d5 _ _).bind λti=>by
    cases ti.kind with
    |arr len e=>
     refine(d5 _ _).bind λj=>?_;cases x with
     |one c=>
      cases c with
      |ref id k s off=>exact⟨fun{P Q} hp ⟨⟨i,h1,h2,h3⟩⟩=>⟨⟨i,h1,h2,hp _ h3⟩⟩,fun⟨⟨i,h1,h2,h3⟩⟩=>⟨_,h3,⟨⟨i,h1,h2,rfl⟩⟩⟩⟩
      |_=>exact XR
     |_=>exact XR
    |sl e=>
     refine(d5 _ _).bind λj=>?_;cases j.size with
     |zero=>exact XR
     |succ s=>
      cases x with
      |one c=>
       cases c with
       |d x=>
        cases x with
        |sl xs=>exact ZL _ _ λ_ x=>jz _ (Cps.ret _)
        |pv v=>exact XR
        |x R=>exact XR
       |own id=>
        refine(Bq _ _).bind λo=>?_;cases o with
        |row e' s' xs=>exact jz _ (ZL _ _ λk _=>Cps.ret _)
        |_=>exact XR
       |_=>exact XR
      |_=>exact XR
    |_=>exact XR
  first
   |exact key.mono hpq h
   |exact key.dj h
theorem LJ(t:TypeId)(x i:AV):Cps (y1 E t x i False):=by
 refine⟨fun{P Q} hpq h=>?_,fun{K} h=>?_⟩<;>unfold y1 at h⊢<;>split at h
 all_goals first
  |exact h.elim
  |skip
 all_goals
  rename_i s k n;have key:Cps λK:AV->Prop=>aTI E.T t λti=>match ti.kind with
   | .str=>∃(k:Nat) (b:UInt8),n=(k:Int)/\s[k]? =some b/\K (vI .u8 b.toNat)
   |_=>False:=(d5 _ _).bind λti=>by
    cases ti.kind with
    |str=>exact ZM λk=>ZM λb=>Cps.and _ (Cps.and _ (Cps.ret _))
    |_=>exact XR
  first
   |exact key.mono hpq h
   |exact key.dj h
theorem BQ(x:Option Operand):Cps (BP st x):=by
 cases x with
 |none=>exact Cps.ret none
 |some x=>
  refine(d4 x).bind λv=>?_;refine⟨fun{P Q} hpq h=>?_,fun{K} h=>?_⟩<;>split at h
  all_goals first
   |exact h.elim
   |exact hpq _ h
   |exact⟨_,h,rfl⟩
theorem xx{α:Type}(len:Nat)(lo hi:Option Int){F:Nat->Nat->(α->Prop)->Prop}(hf:∀l h,Cps (F l h)):Cps λK=>TQ len lo hi λl h=>F l h K:=
 ZM λl=>ZM λh=>Cps.and _ (Cps.and _ (Cps.and _ (Cps.and _ (hf l h))))
theorem I4(x:AV)(lo hi:Option Int)(i:TI):Cps λK=>xD E x lo hi False K i:=by
 refine⟨fun{P Q} hpq h=>?_,fun{K} h=>?_⟩<;>unfold xD at h⊢<;>split at h
 all_goals first
  |exact h.elim
  |skip
 ·rename_i s;revert h;cases i.kind with
  |str=>exact(xx s.size lo hi λl h=>Cps.ret (vS (s.extract l h))).mono hpq
  |_=>exact λh=>h.elim
 ·rename_i xs;revert h;cases i.kind with
  |sl e=>exact((d5 E.T e).bind λj=>xx xs.length lo hi λl h=>Cps.and _ (Cps.ret (AV.one (.d (.sl ((xs.take h).drop l)))))).mono hpq
  |_=>exact λh=>h.elim
 ·rename_i s;revert h;cases i.kind with
  |str=>exact(xx s.size lo hi λl h=>Cps.ret (vS (s.extract l h))).dj
  |_=>exact λh=>h.elim
 ·rename_i xs;revert h;cases i.kind with
  |sl e=>exact((d5 E.T e).bind λj=>xx xs.length lo hi λl h=>Cps.and _ (Cps.ret (AV.one (.d (.sl ((xs.take h).drop l)))))).dj
  |_=>exact λh=>h.elim
theorem LU(t:TypeId)(x:AV)(lo hi:Option Operand):Cps (Cq E st t x lo hi False):=
 (BQ lo).bind λlo=>(BQ hi).bind λhi=>(d5 _ _).bind λi=>I4 x lo hi i
theorem LI(t:TypeId)(x:AV)(f:Nat):Cps (wS E t x f):=by
 cases x with
 |agg cs=>
  refine(d5 E.T t).bind (H:=λi K=>match i.kind with| .st fs=>pB fs f λp=>aTI E.T p.2 λj=>xy cs p.1 λr=>tL j r K|_=>False) λi=>?_;cases i.kind with
  |st fs=>exact(tJ _ _).bind λp=>(d5 _ _).bind λj=>(pz _ _).bind λr=>xF _ _
  |_=>exact XR
 |_=>exact XR
theorem BG(ob:List (Nat×AO))(f:FuncId)(args:List AV):Cps (aH E ob f args):=
 ⟨λhpq h=>by obtain⟨ps,res,h1,h2,h3⟩:=h.h;exact⟨⟨ps,res,h1,h2,hpq _ h3⟩⟩,λh=>by obtain⟨ps,res,h1,h2,h3⟩:=h.h;exact⟨_,h3,⟨⟨ps,res,h1,h2,rfl⟩⟩⟩⟩
theorem Fe(d:Option Tmp)(t:TypeId)(cs:List AC):Cps λK:AV×Option AO->Prop=>IQ d t cs λv oo=>K (v,oo):=by
 cases d with
 |none=>exact XR
 |some d=>exact jz _ (Cps.ret ((.one (.ref d 0 0 0),some (.cells t cs)):AV×Option AO))
theorem N9{α:Type}(v:AV){F G:(α->Prop)->Prop}(hf:Cps F)(hg:Cps G):Cps λK=>xw v (F K) (G K):=by
 refine⟨fun{P Q} hpq h=>?_,fun{K} h=>?_⟩<;>unfold xw at h⊢<;>split at h
 all_goals first
  |exact h.elim
  |exact(aaC _ hf hg).mono hpq h
  |exact(aaC _ hf hg).dj h
theorem Cps.v{G:(AV->Prop)->Prop}(h:Cps G):Cps λK:AV×Option AO->Prop=>G λv=>K (v,none):=h.map λv=>(v,none)
theorem FE(o:Oper):Cps λK:AV×Option AO->Prop=>mr E o st λv oo=>K (v,oo):=by
 obtain⟨dst,op,ty,pos,g,af⟩:=o;cases op with
 |move x=>exact(d4 x).v
 |assign x=>exact(d4 x).v
 |pick c a b=>exact(d4 c).bind λc=>N9 c (d4 a).v (d4 b).v
 |binOp op t x y z=>exact(d4 x).bind λx=>(d4 y).bind λy=>PP (λv=>((v,none):AV×Option AO)) op t x y (BH (λv=>((v,none):AV×Option AO)) _)
 |unOp op t x=>exact(d4 x).bind λx=>(RQ op x).v
 |convert s d x=>exact(d4 x).bind λx=>(Oc s d x).v
 |fieldAddr t x f=>exact(d4 x).bind λx=>(BW t x f).v
 |load t x=>exact(d4 x).bind λx=>(Og t x).v
 |build t ps=>exact(LH t ps.toList).v
 |buildSlice t n ps=>
  refine (d5 E.T t).bind (H := fun i K => match i.kind with
   | .sl e=>aTI E.T e λj=>match j.size with
    |0=>False
    |s+1=>match Nat.ble (n*(s+1)) 16777216 with
     |true=>mT st (s+1) ps.toList 0 n λxs=>K ((.one (.d (.sl xs)),none):AV×Option AO)
     |false=>False
   |_=>False) λi=>?_
  cases i.kind with
  |sl e=>
   refine(d5 _ _).bind λj=>?_;cases j.size with
   |zero=>exact XR
   |succ s=>exact jz _ ((BT _ _ _ _).bind λxs=>Cps.ret _)
  |_=>exact XR
 |box t x=>exact(d4 x).bind λx=>(qE x).bind λcs=>Fe dst t cs
 |alloc t=>exact(d5 E.T t).bind λi=>(FC _).bind λcs=>Fe dst t cs
 |slice t x lo hi m=>
  cases m with
  |none=>exact(d4 x).bind λx=>(LU t x lo hi).v
  |some m=>exact BH (λv=>((v,none):AV×Option AO)) _
 |indexAddr t x i=>exact(d4 x).bind λx=>(d4 i).bind λi=>(BZ t x i).v
 |index t x i=>exact(d4 x).bind λx=>(d4 i).bind λi=>(LJ t x i).v
 |field t x f=>exact(d4 x).bind λx=>(LI t x f).v
 |extract x i=>
  refine(d4 x).bind (H:=λx K=>match x with| .tup vs=>pB vs i λv=>K ((v,none):AV×Option AO)|_=>False) λx=>?_;cases x with
  |tup vs=>exact(tJ vs i).v
  |_=>exact XR
 |nilCheck x=>
  refine (d4 x).bind (H := fun x K => match x with
   | .one (.ref i k s off)=>K ((.one (.ref i k s off),none):AV×Option AO)
   | .one (.ptr cs)=>K (.one (.ptr cs),none)
   |_=>False) λx=>?_
  cases x with
  |one c=>
   cases c with
   |ref i k s off=>exact Cps.ret _
   |ptr cs=>exact Cps.ret _
   |_=>exact XR
  |_=>exact XR
 |call c=>
  obtain⟨cl,args,ts⟩:=c;cases cl with
  |builtin b=>
   cases b with
   |len=>
    refine(xz args.toList).bind (H:=λvs K=>match ts.toList,vs with|t::_,[x]=>LN E st t x False λv=>K ((v,none):AV×Option AO)|_,_=>False) λvs=>?_;cases ts.toList with
    |nil=>exact XR
    |cons t r=>
     match vs with
     |[]=>exact XR
     |[x]=>exact(PS t x).v
     |_::_::_=>exact XR
   |_=>exact XR
  |value f=>
   refine (d4 f).bind (H := fun f K => match f with
    | .one (.d (.pv (.func (.func f) first caps)))=>match first.toList,caps.toList with
     |[],[]=>BV st args.toList λargs=>aH E st.ob f args λr=>K ((r,none):AV×Option AO)
     |_,_=>False
    |_=>False) λf=>?_
   refine⟨fun{P Q} hpq h=>?_,fun{K} h=>?_⟩<;>split at h
   all_goals first
    |exact h.elim
    |skip
   all_goals
    revert h;rename_i f first caps
    cases first.toList with
    |cons _ _=>exact λh=>h.elim
    |nil=>
     cases caps.toList with
     |cons _ _=>exact λh=>h.elim
     |nil=>
      first
       |exact((xz args.toList).bind λvs=>(BG st.ob f vs).v).mono hpq
       |exact((xz args.toList).bind λvs=>(BG st.ob f vs).v).dj
  |_=>exact XR
 |_=>exact BH (λv=>((v,none):AV×Option AO)) _
end
theorem FG{E:bz}(he:E.Ok){S:bR}{o:Oper}{P:ASt}{K:AV->Option AO->Prop}(h:mr E o P K):∃v oo,oD E S o P v oo/\K v oo:=by
 obtain⟨⟨v,oo⟩,hk,e⟩:=(FE (E:=E) (st:=P) o).dj (K:=λp=>K p.1 p.2) h;have e2:mr E o P λv' oo'=>v'=v/\oo'=oo:=(FE (E:=E) (st:=P) o).mono (P:=λp=>p=(v,oo)) (Q:=λp=>p.1=v/\p.2=oo) (λp hp=>by subst hp;exact⟨rfl,rfl⟩) e;exact⟨v,oo,CK he e2,hk⟩
end
section
open Go.RowKit
def nU{α:Type}:List α->Nat->α->(List α->Prop)->Prop
 |[],_,_,K=>K []
 |_::r,0,x,K=>K (x::r)
 |y::r,i+1,x,K=>nU r i x λr'=>K (y::r')
theorem km{α:Type}:∀{l:List α} {i:Nat} {x:α} {K:List α->Prop},nU l i x K->K (l.set i x)
 |[],_,_,_,h=>h
 |_::_,0,_,_,h=>h
 |y::r,i+1,x,K,h=>km (l:=r) (K:=λr'=>K (y::r')) h
theorem Cf{v:AV}{P Q:List AV->Prop}(h:∀l,P l->Q l):∀{l:List AV} {n:Nat},oF l n v P->oF l n v Q
 |[],_,hp=>hp.elim
 |_::r,0,hp=>h _ hp
 |x::r,n+1,hp=>Cf (P:=λr'=>P (x::r')) (Q:=λr'=>Q (x::r')) (λl=>h _) (l:=r) (n:=n) hp
def LP:List Nat->List Oper->List (AV×Option AO)->List AV->(List AV->List (Nat×AO)->Prop)->Prop
 |_,[],_,tm,K=>K tm []
 |[],_::_,_,_,_=>False
 |_::_,_::_,[],_,_=>False
 |f::fs,o::ops,r::R,tm,K=>match f with
  |0=>LP fs ops R tm K
  |1=>match o.dst with
   |none=>False
   |some d=>match r with
    |(v,oo)=>oF tm d v λtm=>match oo with
     |none=>LP fs ops R tm K
     |some x=>LP fs ops R tm λtm obs=>K tm ((d,x)::obs)
  |_+2=>match o.dst with
   |none=>False
   |some d=>oF tm d (.one .dead) λtm=>LP fs ops R tm K
theorem xC{fl:Nat->Nat}:∀(ops:List Oper) (R:List (AV×Option AO)) (j:Nat) (tm:List AV) (K:List AV->List (Nat×AO)->Prop),LP ((List.range' j ops.length).map fl) ops R tm K->aMk fl ops R j tm K
 |[],R,j,tm,K,h=>by cases R<;>exact h
 |_::_,[],j,tm,K,h=>by rw[length_cons,List.range'_succ]at h;exact h.elim
 |o::ops,r::R,j,tm,K,h=>by
  rw[length_cons,List.range'_succ,map_cons]at h;unfold LP at h;unfold aMk;cases hf:fl j with
  |zero=>rw[hf]at h;exact xC ops R (j+1) tm K h
  |succ n=>
   rw[hf]at h;cases hd:o.dst with
   |none=>rw[hd]at h;cases n<;>exact h.elim
   |some d=>
    rw[hd]at h;cases n with
    |zero=>
     obtain⟨v,oo⟩:=r;refine Cf ?_ h;intro tm' h2;cases oo with
     |none=>exact xC ops R (j+1) tm' K h2
     |some x=>exact xC ops R (j+1) tm' _ h2
    |succ n=>exact Cf (λtm' h2=>xC ops R (j+1) tm' K h2) h
def tH(fs:List Nat)(pre:List Oper)(R:List (AV×Option AO))(st:ASt)(K:ASt->Prop):Prop:=
 match st with
 |⟨tm,ob⟩=>LP fs pre R tm λtm obs=>PN obs ob λob=>K ⟨tm,ob⟩
theorem zD{D:List (List Nat)}{pre:List Oper}{R:List (AV×Option AO)}{i:Nat}{st:ASt}{K:ASt->Prop}(h:tH ((List.range pre.length).map (flP D i)) pre R st K):Fg D pre R i st K:=by
 obtain⟨tm,ob⟩:=st;rw[List.range_eq_range']at h;exact xC pre R 0 tm _ h
def fM(E:bz)(pre:List Oper)(st:ASt):List Oper->List (List Nat)->Nat->List (AV×Option AO)->(List (AV×Option AO)->Prop)->Prop
 |[],_,_,R,K=>K R
 |_::_,[],_,_,_=>False
 |o::ops,fs::FL,i,R,K=>match o.guard with
  |none=>tH fs pre R st λP=>mr E o P λv oo=>nU R i (v,oo) λR=>fM E pre st ops FL (i+1) R K
  |some (g,want)=>pB fs g λf=>match f with
   |1=>pB R g λrg=>match rg.1 with
    | .one (.d (.pv (.bool p)))=>AB p
     (match want with
      |true=>tH fs pre R st λP=>mr E o P λv oo=>nU R i (v,oo) λR=>fM E pre st ops FL (i+1) R K
      |false=>nU R i (.one .und,none) λR=>fM E pre st ops FL (i+1) R K)
     (match want with
      |true=>nU R i (.one .und,none) λR=>fM E pre st ops FL (i+1) R K
      |false=>tH fs pre R st λP=>mr E o P λv oo=>nU R i (v,oo) λR=>fM E pre st ops FL (i+1) R K)
    | .one .und=>nU R i (.one .und,none) λR=>fM E pre st ops FL (i+1) R K
    |_=>False
   |_=>False
section
variable {E:bz} {S:bR} {ops:List Oper} {D:List (List Nat)} {n0:Nat} {st:ASt}
theorem lm{R:List (AV×Option AO)}{i j:Nat}{x:AV×Option AO}(h:j≠i):vAt (R.set i x) j=vAt R j:=by
 unfold vAt;rw[getD_eq_getElem?_getD,getD_eq_getElem?_getD,List.getElem?_set_ne (λe=>h e.symm)]
theorem oT{R:List (AV×Option AO)}{i j:Nat}{x:AV×Option AO}(h:j≠i):oAt (R.set i x) j=oAt R j:=by
 unfold oAt;rw[getD_eq_getElem?_getD,getD_eq_getElem?_getD,List.getElem?_set_ne (λe=>h e.symm)]
theorem ss{R:List (AV×Option AO)}{i:Nat}{x:AV×Option AO}(h:i<R.length):vAt (R.set i x) i=x.1:=by
 unfold vAt;rw[getD_eq_getElem?_getD,List.getElem?_set_self h];rfl
theorem pq{R:List (AV×Option AO)}{i:Nat}{x:AV×Option AO}(h:i<R.length):oAt (R.set i x) i=x.2:=by
 unfold oAt;rw[getD_eq_getElem?_getD,List.getElem?_set_self h];rfl
theorem yR{R R':List (AV×Option AO)}{i:Nat}(h:∀j,inD D j i=true->vAt R j=vAt R' j/\oAt R j=oAt R' j):stP ops D R n0 st i=stP ops D R' n0 st i:=by
 have e1:(List.range n0).filterMap (upP ops D R i)=(List.range n0).filterMap (upP ops D R' i):=vr λj _=>by
  unfold upP;cases hj:inD D j i with
  |true=>simp[(h j hj).1]
  |false=>simp
 have e2:(List.range n0).filterMap (obF ops R λj=>inD D j i)=(List.range n0).filterMap (obF ops R' λj=>inD D j i):=vr λj _=>by
  unfold obF;cases hj:inD D j i with
  |true=>simp[(h j hj).2]
  |false=>simp[hj]
 simp only[stP,e1,e2]
theorem MB(T:wh ops D n0){i j:Nat}(hi:i<ops.length)(h:inD D j i=true):j<i:=by
 have:=mx T (lf:=λj=>decide (j<i)) (λk hk e he=>?_) (i:=i) (λe he=>?_) h
 ·simpa using this
 ·have hki:k<i:=by simpa using hk
  rw[cE (getElem?_eq_getElem (by omega:k<ops.length))]at he;have:=T.edge k _ (getElem?_eq_getElem aa) _ he;simp;omega
 ·rw[cE (getElem?_eq_getElem hi)]at he;have:=T.edge i _ (getElem?_eq_getElem hi) _ he;simpa using this
theorem jf.keep(T:wh ops D n0){R:List (AV×Option AO)}{i k:Nat}{o:Oper}{x:AV×Option AO}(hi:i<k)(hil:i<ops.length)(h:jf E S D R n0 (stP ops D R n0 st i) i o):jf E S D (R.set k x) n0 (stP ops D (R.set k x) n0 st i) i o:=by
 have hlt:∀j,inD D j i=true->j≠k:=λj hj e=>by have:=MB T hil hj;omega
 have e:stP ops D (R.set k x) n0 st i=stP ops D R n0 st i:=yR λj hj=>⟨lm (hlt j hj),oT (hlt j hj)⟩;have e1:vAt (R.set k x) i=vAt R i:=lm aa;have e2:oAt (R.set k x) i=oAt R i:=oT aa;unfold jf at h⊢;rw[e,e1,e2];cases hg:o.guard with
 |none=>rw[hg]at h;exact h
 |some gw=>
  obtain⟨g,want⟩:=gw;rw[hg]at h;obtain⟨h1,h2,h3⟩:=h;refine⟨h1,h2,?_⟩;rw[lm (hlt g h2)];exact h3
theorem zT{D:List (List Nat)}{i j:Nat}(h:flP D i j=1):inD D j i=true:=by
 unfold flP at h;split at h
 ·assumption
 ·split at h
  ·cases h
  ·split at h<;>cases h
theorem FM(he:E.Ok)(T:wh ops D n0){K:List (AV×Option AO)->Prop}:∀(rest:List Oper) (i:Nat) (R:List (AV×Option AO)),(∀k,(ops.take n0)[i+k]? =rest[k]?)->R.length=n0->
  (∀j o,j<i->ops[j]? =some o->jf E S D R n0 (stP ops D R n0 st j) j o)->fM E (ops.take n0) st rest ((List.range' i rest.length).map λi=>(List.range n0).map (flP D i)) i R K->∃RA,K RA/\∀j o,j<n0->ops[j]? =some o->jf E S D RA n0 (stP ops D RA n0 st j) j o
 |[],i,R,hr,hl,hf,h=>by
  refine⟨R,h,λj o hj ho=>hf j o ?_ ho⟩;have:=hr 0;simp only[Nat.add_zero,List.getElem?_nil]at this;have h2:=List.getElem?_eq_none_iff.1 this;have:=T.le;simp at h2;omega
 |o::rest,i,R,hr,hl,hf,h=>by
  have h0:=hr 0;simp only[Nat.add_zero,List.getElem?_cons_zero]at h0;have hi:i<n0:=by
   have:=(List.getElem?_eq_some_iff.1 h0).1;simp at this;omega
  have hio:ops[i]? =some o:=by
   rw[List.getElem?_take,if_pos hi]at h0;exact h0
  have hil:i<ops.length:=(List.getElem?_eq_some_iff.1 hio).1;have hr':∀k,(ops.take n0)[i+1+k]? =rest[k]? :=λk=>by
   have:=hr (k+1);rw[show i+1+k=i+(k+1)by omega];simpa using this
  have next:∀x:AV×Option AO,fM E (ops.take n0) st rest ((List.range' (i+1) rest.length).map λi=>(List.range n0).map (flP D i)) (i+1) (R.set i x) K->jf E S D (R.set i x) n0 (stP ops D (R.set i x) n0 st i) i o->∃RA,K RA/\∀j o,j<n0->ops[j]? =some o->jf E S D RA n0 (stP ops D RA n0 st j) j o:=λx hk hd=>
   FM he T rest (i+1) (R.set i x) hr' (by simpa using hl) (λj o' hj ho'=>by
    rcases Nat.lt_succ_iff_lt_or_eq.1 hj with hj|hj
    ·exact(hf j o' hj ho').keep T hj aa
    ·subst hj;rw[hio]at ho';injection ho' with ho'
     subst ho';exact hd) hk
  have eP:∀x:AV×Option AO,stP ops D (R.set i x) n0 st i=stP ops D R n0 st i:=λx=>yR λj hj=>by
   have:=MB T hil hj;exact⟨lm aa,oT aa⟩
  have free:(tH ((List.range n0).map (flP D i)) (ops.take n0) R st λP=>mr E o P λv oo=>nU R i (v,oo) λR=>fM E (ops.take n0) st rest ((List.range' (i+1) rest.length).map λi=>(List.range n0).map (flP D i)) (i+1) R K)->∃x:AV×Option AO,oD E S o (stP ops D R n0 st i) x.1 x.2/\fM E (ops.take n0) st rest ((List.range' (i+1) rest.length).map λi=>(List.range n0).map (flP D i)) (i+1) (R.set i x) K:=λh=>by
   have hlen:(ops.take n0).length=n0:=by have:=T.le;simp;omega
   have h1:=yZ T.le (zD (by rw[hlen];exact h));obtain⟨v,oo,h2,h3⟩:=FG he h1;exact⟨(v,oo),h2,km h3⟩
  rw[length_cons,List.range'_succ,map_cons]at h;unfold fM at h;cases hg:o.guard with
  |none=>
   rw[hg]at h;obtain⟨x,hx,hk⟩:=free h;refine next x hk ?_;unfold jf;rw[hg,eP,ss aa,pq aa];exact hx
  |some gw=>
   obtain⟨g,want⟩:=gw;rw[hg]at h;obtain⟨f,hf1,h3⟩:=fz h;have hf0:f=flP D i g:=by
    rw[List.getElem?_map]at hf1;obtain⟨g',hg',rfl⟩:=Option.map_eq_some_iff.1 hf1;have:=List.getElem?_eq_some_iff.1 hg';obtain⟨_,e⟩:=this;simp at e;rw[e]
   split at h3
   case h_2=>exact h3.elim
   have h1:inD D g i=true:=zT hf0.symm;obtain⟨rg,hrg,h3⟩:=fz h3;have hgi:=MB T hil h1;have hvg:∀x:AV×Option AO,vAt (R.set i x) g=rg.1:=λx=>by
    rw[lm aa];unfold vAt;rw[getD_eq_getElem?_getD,hrg];rfl
   split at h3
   ·rename_i p hp;have run:(p=want)->(tH ((List.range n0).map (flP D i)) (ops.take n0) R st λP=>mr E o P λv oo=>nU R i (v,oo) λR=>fM E (ops.take n0) st rest ((List.range' (i+1) rest.length).map λi=>(List.range n0).map (flP D i)) (i+1) R K)->∃RA,K RA/\∀j o,j<n0->ops[j]? =some o->jf E S D RA n0 (stP ops D RA n0 st j) j o:=λe h=>by
     obtain⟨x,hx,hk⟩:=free h;refine next x hk ?_;unfold jf;rw[hg,eP,ss aa,pq aa];exact⟨aa,h1,.inl ⟨p,by rw[hvg,hp],.inl ⟨e,hx⟩⟩⟩
    have skip:(p≠want)->(nU R i (.one .und,none) λR=>fM E (ops.take n0) st rest ((List.range' (i+1) rest.length).map λi=>(List.range n0).map (flP D i)) (i+1) R K)->∃RA,K RA/\∀j o,j<n0->ops[j]? =some o->jf E S D RA n0 (stP ops D RA n0 st j) j o:=λe h=>by
     refine next (.one .und,none) (km h) ?_;unfold jf;rw[hg,eP,ss aa,pq aa];exact⟨aa,h1,.inl ⟨p,by rw[hvg,hp],.inr ⟨e,rfl,rfl⟩⟩⟩
    cases p with
    |true=>
     have h:=h3.t rfl;cases want with
     |true=>exact run rfl h
     |false=>exact skip ah h
    |false=>
     have h:=h3.f rfl;cases want with
     |true=>exact skip ah h
     |false=>exact run rfl h
   ·rename_i hp;refine next (.one .und,none) (km h3) ?_;unfold jf;rw[hg,eP,ss aa,pq aa];exact⟨aa,h1,.inr ⟨by rw[hvg,hp],rfl,rfl⟩⟩
   ·exact h3.elim
end
theorem aam{E:bz}(he:E.Ok){S:bR}{ops:Array Oper}{K:Exit->ASt->Prop}{id:Nat}{st:ASt}(n0:Nat)(D:List (List Nat))(R:List (AV×Option AO))(T:wh ops.toList D n0)(F:wQ E S ops.toList D R n0 st)
  (ht:tG (ops.toList.take n0) R st λst=>sM E S ops.toList (ops.toList.drop n0) st (K .normal)):AWP E S (.region id ops true) K st:=by
 refine⟨λa w hs=>wp_region_any he.mixed ?_⟩;have hg:w.grownBy {w with drawn:=w.drawn+1} none:=⟨rfl,rfl,rfl,Nat.le_refl _,λb hb _=>rfl⟩;refine OB (Q:=λe a' w'=>∃st',eS E.W S st' a' w'/\K e st') he T F (λa w h=>h) ht ops.size (Array.replicate ops.size false) a _ ah (λj _=>?_) (λj hj=>?_) ?_ ?_
 ·simp[dc,getD_eq_getD_getElem?,getElem?_replicate];split<;>rfl
 ·exfalso;simp[dc,getD_eq_getD_getElem?,getElem?_replicate]at hj;split at hj<;>simp at hj
 ·have:∀(lf:Nat->Bool) n,nY lf n<=n:=λlf n=>by
   induction n with
   |zero=>exact Nat.le_refl _
   |succ n ih=>simp only[nY];split<;>omega
  exact this _ _
 ·obtain⟨Z,ρ,hs⟩:=hs;have e:stS ops.toList R n0 st (dc (Array.replicate ops.size false))=st:=by
   have e1:∀j,dc (Array.replicate ops.size false) j=false:=λj=>by
    simp[dc,getD_eq_getD_getElem?,getElem?_replicate];split<;>rfl
   have e2:(List.range n0).filterMap (upS ops.toList R (dc (Array.replicate ops.size false)))=[]:=by
    rw[List.filterMap_eq_nil_iff];intro j _;simp[upS,e1]
   have e3:(List.range n0).filterMap (obF ops.toList R (dc (Array.replicate ops.size false)))=[]:=by
    rw[List.filterMap_eq_nil_iff];intro j _;simp[obF,e1]
   simp[stS,e2,e3,jW]
  rw[e];exact⟨Z,ρ,hs.grow hg (λ_ h=>h) λ_ h=> .inl h⟩
def unq:Nat->Nat->List Nat
 |0,_=>[]
 |n+1,x=>match Nat.beq x 0 with
  |true=>[]
  |false=>(x % 64-1)::unq n (x/64)
def cz:List Nat->List (List Nat)
 |[]=>[]
 |x::r=>unq 64 x::cz r
def unp:Nat->Nat->List Nat
 |0,_=>[]
 |n+1,x=>(x % 3)::unp n (x/3)
def eK(n:Nat):List Nat->List (List Nat)
 |[]=>[]
 |x::r=>unp n x::eK n r
theorem XB{E:bz}(he:E.Ok){S:bR}{ops:Array Oper}{K:Exit->ASt->Prop}(id:Nat){st:ASt}(n0:Nat)(D FL:List (List Nat))(hD:n9 [] ops.toList=D)(hok:Me ops.toList D n0=true)(hfl:((List.range n0).map λi=>(List.range n0).map (flP D i))=FL)(hl:H6 ops.toList n0 st.tm.length=true)
  (h:fM E (ops.toList.take n0) st (ops.toList.take n0) FL 0 (List.replicate n0 (.one .dead,none)) λR=>noB ops.toList D R n0 st=true/\tG (ops.toList.take n0) R st λst=>sM E S ops.toList (ops.toList.drop n0) st (K .normal)):AWP E S (.region id ops true) K st:=by
 have T:=Jn hD hok;have hlen:(ops.toList.take n0).length=n0:=by have:=T.le;simp at*;omega
 subst hfl;have e:((List.range n0).map λi=>(List.range n0).map (flP D i))=((List.range' 0 (ops.toList.take n0).length).map λi=>(List.range n0).map (flP D i)):=by rw[hlen,<-List.range_eq_range']
 rw[e]at h;obtain⟨R,⟨hno,ht⟩,hf⟩:=FM (S:=S) he T (ops.toList.take n0) 0 (List.replicate n0 (.one .dead,none)) (λk=>by simp) ah (λj o hj=>absurd hj (Nat.not_lt_zero _)) h;exact aam he n0 D R T ⟨RU T hl hno,hf⟩ ht
end
section
open Go.RowKit
theorem I2{i:Nat}{o:AO}:∀{l:List (Nat×AO)} {K:List (Nat×AO)->Prop},K (eD l i o)->fW i o l K
 |[],_,h=>h
 |(k,x)::r,K,h=>by
  simp only[fW];unfold eD at h;cases e:Nat.beq k i with
  |true=>rw[if_pos (Nat.eq_of_beq_eq_true e)]at h;exact h
  |false=>rw[if_neg (Nat.ne_of_beq_eq_false e)]at h;exact I2 (l:=r) (K:=λr'=>K ((k,x)::r')) h
theorem LV{K:AV->Prop}:∀{l:List AV} {n:Nat} {x:AV},l[n]? =some x->K x->aTm l n K
 |[],n,x,h,_=>by simp at h
 |y::r,0,x,h,hk=>by simp at h;subst h;exact hk
 |y::r,n+1,x,h,hk=>LV (l:=r) (n:=n) (by simpa using h) hk
theorem I5{E:bz}{tm:List AV}{ob:List (Nat×AO)}{t:TypeId}{c k s off:Nat}{vv:AV}{o0 o1:AO}(hob:bo ob c=some o0)(h:o8 E ⟨[],[(c,o0)]⟩ t (.one (.ref c k s off)) vv λst=>st=⟨[],[(c,o1)]⟩):
  o8 E ⟨tm,ob⟩ t (.one (.ref c k s off)) vv λst=>st=⟨tm,eD ob c o1⟩:=by
 have fin:∀X:AO,(fW c X [(c,o0)] λob=>(⟨[],ob⟩:ASt)=⟨[],[(c,o1)]⟩)->fW c X ob λob'=>(⟨tm,ob'⟩:ASt)=⟨tm,eD ob c o1⟩:=λX hX=>by
  have h1:=dh hX;simp only[eD,if_true,ASt.mk.injEq,List.cons.injEq,Prod.mk.injEq,true_and,and_true]at h1;subst h1;exact I2 rfl
 unfold o8 at h⊢;refine(d5 E.T t).mono (λi h=>(qE vv).mono (λvs h=>?_) h) h;cases hl:y3 vs i.size with
 |false=>rw[hl]at h;exact h
 |true=>
  rw[hl]at h;obtain⟨o,ho,hk⟩:=cm (l:=[(c,o0)]) (i:=c) h;have:o=o0:=by simp only[bo,if_true,Option.some.injEq]at ho;exact ho.symm
  subst this;refine Hq hob ?_;cases o with
  |cells u cs=>
   cases k with
   |zero=>exact(mp cs off vs).mono (λcs' h=>fin _ h) hk
   |succ k=>exact hk
  |row e s' xs=>
   cases hs:Nat.beq s s' with
   |false=>simp only[hs]at hk
   |true=>
    simp only[hs]at hk⊢;obtain⟨k',x,e1,e2,hk⟩:=hk.h;exact⟨⟨k',x,e1,e2,(vg x).mono (λx h=>(mp x off vs).mono (λx' h=>(xE x').mono (λx' h=>fin _ h) h) h) hk⟩⟩
  |frame vs us=>exact hk
  |any Q=>exact hk
  |many P Q=>exact hk
structure j4 (ops:List Oper) (D:List (List Nat)) (m:Nat):Prop where
 hD:n9 [] ops=D
 lt:m<ops.length
 nd:((List.range m).map (dAt ops)).Nodup
 edge:∀i o,ops[i]? =some o->∀x∈qI o,x<i
 dst:∀i o,i<m->ops[i]? =some o->o.dst=some (dAt ops i)
 tail:∀i,m<i->i<ops.length->∀j,j<i->inD D j i=true
def xS(ops:List Oper)(D:List (List Nat))(m:Nat):Bool:=
 Nat.blt m ops.length&&nodupB ((List.range m).map (dAt ops))&&
 (List.range ops.length).all λi=>match ops[i]? with
  |some o=>((qI o).all λx=>Nat.blt x i)&&(if i<m then o.dst.isSome else(if i=m then true else(List.range i).all λj=>inD D j i))
  |none=>true
theorem q3{ops:List Oper}{D:List (List Nat)}{m:Nat}(hD:n9 [] ops=D)(h:xS ops D m=true):j4 ops D m:=by
 simp only[xS,Bool.and_eq_true,all_eq_true]at h;obtain⟨⟨h1,h2⟩,h3⟩:=h;have key:∀i o,ops[i]? =some o->_:=λi o ho=>by
  have hlt:=(List.getElem?_eq_some_iff.1 ho).1;have:=h3 i (mem_range.2 hlt);rw[ho]at this;simp only[Bool.and_eq_true,all_eq_true]at this;exact this
 refine⟨hD,Nat.le_of_ble_eq_true h1,zl h2,λi o ho e he=>?_,λi o hi ho=>?_,λi hi hlt j hj=>?_⟩
 ·exact Nat.le_of_ble_eq_true ((key i o ho).1 e he)
 ·have:=(key i o ho).2;rw[if_pos hi]at this;obtain⟨d,hd⟩:=Option.isSome_iff_exists.1 this;rw[hd];simp[dAt,ho,hd]
 ·have:=(key i ops[i] (getElem?_eq_getElem hlt)).2;rw[if_neg aa,if_neg aa,all_eq_true]at this;exact this j (mem_range.2 hj)
theorem jB{ops:List Oper}{D:List (List Nat)}{m:Nat}(T:j4 ops D m){lf:Nat->Bool}(hc:∀j,lf j=true->∀e∈fm ops j,lf e=true){i:Nat}(hi:∀e∈fm ops i,lf e=true){j:Nat}(hj:inD D j i=true):lf j=true:=by
 have:=pe ops (λj=>lf j=true) hc ops [] (λk=>by simp) (λj hj=>absurd hj (Nat.not_lt_zero _)) i hi j;rw[T.hD]at this;refine this ?_;simpa[inD]using hj
section
variable {E:bz} {S:bR} {ops:List Oper} {D:List (List Nat)} {R:List (AV×Option AO)} {n0:Nat} {st0 st:ASt}
theorem j4.le{ops:List Oper}{D:List (List Nat)}{m:Nat}(T:j4 ops D m):m<=ops.length:=Nat.le_of_lt T.lt
theorem xI{D:List (List Nat)}{ops:List Oper}(T:j4 ops D n0)(hl:H6 ops n0 st0.tm.length=true)(hno:noB ops D R n0 st0=true):DBase ops D R n0 st0:=by
 simp only[H6,all_eq_true]at hl;simp only[noB,all_eq_true]at hno;have hno':∀i,i<n0->∀o,oAt R i=some o->_:=λi hi o ho=>by
  have:=hno i (mem_range.2 hi);rw[ho]at this;simp only[Bool.and_eq_true,all_eq_true]at this;exact this
 refine⟨T.le,T.nd,T.dst,λj hj=>Nat.le_of_ble_eq_true (hl j (mem_range.2 hj)),λj hj hne=>?_,λi hi hne=>?_,λi j hi hj hne hd hji=>?_⟩
 ·obtain⟨o,ho⟩:=Option.ne_none_iff_exists'.1 hne;have:=(hno' j hj o ho).1.1.1;simpa using this
 ·obtain⟨o,ho⟩:=Option.ne_none_iff_exists'.1 hne;have:=hno' i hi o ho;exact⟨this.1.1.2,this.1.2⟩
 ·obtain⟨o,ho⟩:=Option.ne_none_iff_exists'.1 hne;have:=(hno' i hi o ho).2 j (mem_range.2 hj);simp only[hd,Bool.false_or,Bool.or_eq_true,Bool.and_eq_true]at this;rcases this with this|⟨h1,h2⟩
  ·exact absurd (Nat.eq_of_beq_eq_true this) hji
  ·refine⟨h1,λo' ho'=>?_⟩;rw[ho']at h2;exact h2
theorem Su(he:E.Ok){D:List (List Nat)}{ops:List Oper}(T:j4 ops D n0){i:Nat}{o:Oper}(hi:i<n0){r:AV×Option AO}(hr:R[i]? =some r)(hfact:Nj E D (ops.take n0) R st0 i o r):jf E S D R n0 (stP ops D R n0 st0 i) i o:=by
 have hv:vAt R i=r.1:=by simp[vAt,List.getD,hr]
 have hoo:oAt R i=r.2:=by simp[oAt,List.getD,hr]
 have free:(Fg D (ops.take n0) R i st0 λP=>mr E o P λv oo=>v=r.1/\oo=r.2)->oD E S o (stP ops D R n0 st0 i) (vAt R i) (oAt R i):=λh=>by
  rw[hv,hoo];exact CK he (yZ T.le h)
 unfold jf;unfold Nj at hfact;cases hg:o.guard with
 |none=>
  rw[hg]at hfact;exact free hfact
 |some gw=>
  obtain⟨g,want⟩:=gw;rw[hg]at hfact;obtain⟨h1,h2,h3⟩:=hfact;obtain⟨rg,hrg,h3⟩:=fz h3;have hgn:g<n0:=by
   have h4:g<(ops.take n0).length:=Nat.le_of_ble_eq_true h2;simp at h4;omega
  refine⟨hgn,h1,?_⟩;have hvg:vAt R g=rg.1:=by simp[vAt,List.getD,hrg]
  split at h3
  ·rename_i p hp;refine .inl ⟨p,by rw[hvg,hp],?_⟩;cases p with
   |true=>
    have h:=h3.t rfl;cases want with
    |true=>exact .inl ⟨rfl,free h⟩
    |false=>exact .inr ⟨by simp,by rw[hv,show r=(.one .und,none)from h],by rw[hoo,show r=(.one .und,none)from h]⟩
   |false=>
    have h:=h3.f rfl;cases want with
    |false=>exact .inl ⟨rfl,free h⟩
    |true=>exact .inr ⟨by simp,by rw[hv,show r=(.one .und,none)from h],by rw[hoo,show r=(.one .und,none)from h]⟩
  ·exact h3.elim
theorem vC(T:j4 ops D n0){i j:Nat}(hi:i<ops.length)(h:inD D j i=true):j<i:=by
 have:=jB T (lf:=λj=>decide (j<i)) (λk hk e he=>?_) (i:=i) (λe he=>?_) h
 ·simpa using this
 ·have hki:k<i:=by simpa using hk
  rw[cE (getElem?_eq_getElem (by omega:k<ops.length))]at he;have:=T.edge k _ (getElem?_eq_getElem aa) _ he;simp;omega
 ·rw[cE (getElem?_eq_getElem hi)]at he;have:=T.edge i _ (getElem?_eq_getElem hi) _ he;simpa using this
theorem jf.keepF(T:j4 ops D n0){R:List (AV×Option AO)}{i k:Nat}{o:Oper}{x:AV×Option AO}(hi:i<k)(hil:i<ops.length)(h:jf E S D R n0 (stP ops D R n0 st i) i o):jf E S D (R.set k x) n0 (stP ops D (R.set k x) n0 st i) i o:=by
 have hlt:∀j,inD D j i=true->j≠k:=λj hj e=>by have:=vC T hil hj;omega
 have e:stP ops D (R.set k x) n0 st i=stP ops D R n0 st i:=yR λj hj=>⟨lm (hlt j hj),oT (hlt j hj)⟩;have e1:vAt (R.set k x) i=vAt R i:=lm aa;have e2:oAt (R.set k x) i=oAt R i:=oT aa;unfold jf at h⊢;rw[e,e1,e2];cases hg:o.guard with
 |none=>rw[hg]at h;exact h
 |some gw=>
  obtain⟨g,want⟩:=gw;rw[hg]at h;obtain⟨h1,h2,h3⟩:=h;refine⟨h1,h2,?_⟩;rw[lm (hlt g h2)];exact h3
theorem CC(he:E.Ok)(T:j4 ops D n0){K:List (AV×Option AO)->Prop}:∀(rest:List Oper) (i:Nat) (R:List (AV×Option AO)),(∀k,(ops.take n0)[i+k]? =rest[k]?)->R.length=n0->
  (∀j o,j<i->ops[j]? =some o->jf E S D R n0 (stP ops D R n0 st j) j o)->fM E (ops.take n0) st rest ((List.range' i rest.length).map λi=>(List.range n0).map (flP D i)) i R K->∃RA,K RA/\∀j o,j<n0->ops[j]? =some o->jf E S D RA n0 (stP ops D RA n0 st j) j o
 |[],i,R,hr,hl,hf,h=>by
  refine⟨R,h,λj o hj ho=>hf j o ?_ ho⟩;have:=hr 0;simp only[Nat.add_zero,List.getElem?_nil]at this;have h2:=List.getElem?_eq_none_iff.1 this;have:=T.le;simp at h2;omega
 |o::rest,i,R,hr,hl,hf,h=>by
  have h0:=hr 0;simp only[Nat.add_zero,List.getElem?_cons_zero]at h0;have hi:i<n0:=by
   have:=(List.getElem?_eq_some_iff.1 h0).1;simp at this;omega
  have hio:ops[i]? =some o:=by
   rw[List.getElem?_take,if_pos hi]at h0;exact h0
  have hil:i<ops.length:=(List.getElem?_eq_some_iff.1 hio).1;have hr':∀k,(ops.take n0)[i+1+k]? =rest[k]? :=λk=>by
   have:=hr (k+1);rw[show i+1+k=i+(k+1)by omega];simpa using this
  have next:∀x:AV×Option AO,fM E (ops.take n0) st rest ((List.range' (i+1) rest.length).map λi=>(List.range n0).map (flP D i)) (i+1) (R.set i x) K->jf E S D (R.set i x) n0 (stP ops D (R.set i x) n0 st i) i o->∃RA,K RA/\∀j o,j<n0->ops[j]? =some o->jf E S D RA n0 (stP ops D RA n0 st j) j o:=λx hk hd=>
   CC he T rest (i+1) (R.set i x) hr' (by simpa using hl) (λj o' hj ho'=>by
    rcases Nat.lt_succ_iff_lt_or_eq.1 hj with hj|hj
    ·exact(hf j o' hj ho').keepF T hj aa
    ·subst hj;rw[hio]at ho';injection ho' with ho'
     subst ho';exact hd) hk
  have eP:∀x:AV×Option AO,stP ops D (R.set i x) n0 st i=stP ops D R n0 st i:=λx=>yR λj hj=>by
   have:=vC T hil hj;exact⟨lm aa,oT aa⟩
  have free:(tH ((List.range n0).map (flP D i)) (ops.take n0) R st λP=>mr E o P λv oo=>nU R i (v,oo) λR=>fM E (ops.take n0) st rest ((List.range' (i+1) rest.length).map λi=>(List.range n0).map (flP D i)) (i+1) R K)->∃x:AV×Option AO,oD E S o (stP ops D R n0 st i) x.1 x.2/\fM E (ops.take n0) st rest ((List.range' (i+1) rest.length).map λi=>(List.range n0).map (flP D i)) (i+1) (R.set i x) K:=λh=>by
   have hlen:(ops.take n0).length=n0:=by have:=T.le;simp;omega
   have h1:=yZ T.le (zD (by rw[hlen];exact h));obtain⟨v,oo,h2,h3⟩:=FG he h1;exact⟨(v,oo),h2,km h3⟩
  rw[length_cons,List.range'_succ,map_cons]at h;unfold fM at h;cases hg:o.guard with
  |none=>
   rw[hg]at h;obtain⟨x,hx,hk⟩:=free h;refine next x hk ?_;unfold jf;rw[hg,eP,ss aa,pq aa];exact hx
  |some gw=>
   obtain⟨g,want⟩:=gw;rw[hg]at h;obtain⟨f,hf1,h3⟩:=fz h;have hf0:f=flP D i g:=by
    rw[List.getElem?_map]at hf1;obtain⟨g',hg',rfl⟩:=Option.map_eq_some_iff.1 hf1;have:=List.getElem?_eq_some_iff.1 hg';obtain⟨_,e⟩:=this;simp at e;rw[e]
   split at h3
   case h_2=>exact h3.elim
   have h1:inD D g i=true:=zT hf0.symm;obtain⟨rg,hrg,h3⟩:=fz h3;have hgi:=vC T hil h1;have hvg:∀x:AV×Option AO,vAt (R.set i x) g=rg.1:=λx=>by
    rw[lm aa];unfold vAt;rw[getD_eq_getElem?_getD,hrg];rfl
   split at h3
   ·rename_i p hp;have run:(p=want)->(tH ((List.range n0).map (flP D i)) (ops.take n0) R st λP=>mr E o P λv oo=>nU R i (v,oo) λR=>fM E (ops.take n0) st rest ((List.range' (i+1) rest.length).map λi=>(List.range n0).map (flP D i)) (i+1) R K)->∃RA,K RA/\∀j o,j<n0->ops[j]? =some o->jf E S D RA n0 (stP ops D RA n0 st j) j o:=λe h=>by
     obtain⟨x,hx,hk⟩:=free h;refine next x hk ?_;unfold jf;rw[hg,eP,ss aa,pq aa];exact⟨aa,h1,.inl ⟨p,by rw[hvg,hp],.inl ⟨e,hx⟩⟩⟩
    have skip:(p≠want)->(nU R i (.one .und,none) λR=>fM E (ops.take n0) st rest ((List.range' (i+1) rest.length).map λi=>(List.range n0).map (flP D i)) (i+1) R K)->∃RA,K RA/\∀j o,j<n0->ops[j]? =some o->jf E S D RA n0 (stP ops D RA n0 st j) j o:=λe h=>by
     refine next (.one .und,none) (km h) ?_;unfold jf;rw[hg,eP,ss aa,pq aa];exact⟨aa,h1,.inl ⟨p,by rw[hvg,hp],.inr ⟨e,rfl,rfl⟩⟩⟩
    cases p with
    |true=>
     have h:=h3.t rfl;cases want with
     |true=>exact run rfl h
     |false=>exact skip ah h
    |false=>
     have h:=h3.f rfl;cases want with
     |true=>exact skip ah h
     |false=>exact run rfl h
   ·rename_i hp;refine next (.one .und,none) (km h3) ?_;unfold jf;rw[hg,eP,ss aa,pq aa];exact⟨aa,h1,.inr ⟨by rw[hvg,hp],rfl,rfl⟩⟩
   ·exact h3.elim
end
structure Flt (E:bz) (S:bR) (ops:List Oper) (D:List (List Nat)) (m:Nat) (R0 R1:List (AV×Option AO)) (st0 st1:ASt):Prop where
 F0:wQ E S ops D R0 m st0
 B1:DBase ops D R1 m st1
 out1:∀i o,i<m->inD D i m=false->ops[i]? =some o->jf E S D R1 m (stP ops D R1 m st1 i) i o
 step:∀o,ops[m]? =some o->o.guard=none/\∀l:Nat->Bool,(∀j,inD D j m=true->l j=true)->∀a w,eS E.W S (stS ops R0 m st0 l) a w->∀Q,Oper.wp E.P o a w (λa' w'=>eS E.W S (stS ops R1 m st1 l) a' w') Q
section
variable {E:bz} {S:bR} {ops:Array Oper} {n0:Nat} {st0 st1:ASt} {R0 R1:List (AV×Option AO)} {K:ASt->Prop} {Q:Exit->Act->World->Prop}
theorem qk{listed:Array Bool}(hs:listed.size=ops.size){i:Nat}:
  i∈Region.ready .any ops listed↔i<ops.size/\dc listed i=false/\∀e∈fm ops.toList i,dc listed e=true:=by
 rw[mem_ready];constructor
 ·rintro⟨h1,o,ho,h2⟩;have hlt:=(Array.getElem?_eq_some_iff.1 ho).1;refine⟨hlt,?_,λe he=>?_⟩
  ·simp only[dc,getD_eq_getD_getElem?]at h1⊢;rw[Array.getElem?_eq_getElem aa]at h1⊢;simpa using h1
  ·rw[cE (by simpa using ho)]at he;obtain⟨e',he',rfl⟩:=List.mem_map.1 he;obtain⟨hm,hb⟩:=List.mem_filter.1 he';exact h2 e' (by simpa using hm) hb
 ·rintro⟨hlt,h1,h2⟩;refine⟨?_,ops[i],Array.getElem?_eq_getElem hlt,λe he hb=>?_⟩
  ·simp only[dc,getD_eq_getD_getElem?]at h1⊢;rw[Array.getElem?_eq_getElem aa]at h1⊢;simpa using h1
  ·refine h2 _ ?_;rw[cE (o:=ops[i]) (by simp[hlt])];exact List.mem_map.2 ⟨e,List.mem_filter.2 ⟨by simpa using he,hb⟩,rfl⟩
theorem Mg(he:E.Ok){D:List (List Nat)}(T:j4 ops.toList D n0)(hQ:∀a w,(∃st',eS E.W S st' a w/\K st')->Q .normal a w):
  ∀(fuel m:Nat) (listed:Array Bool) (st:ASt) (a:Act) (w:World),listed.size=ops.size->n0<m->(∀j,j<ops.size->dc listed j=decide (j<m))->ops.size-m<=fuel->eS E.W S st a w->sM E S ops.toList (ops.toList.drop m) st K->wpAny E.P .any ops Q fuel listed a w:=by
 intro fuel;induction fuel with
 |zero=>
  intro m listed st a w hs hm hl hf h hk;rw[List.drop_eq_nil_of_le al]at hk;refine⟨?_,hQ a w ⟨st,h,hk⟩⟩;rw[List.eq_nil_iff_forall_not_mem];intro i hi;obtain⟨h1,h2,_⟩:=(qk hs).1 hi;rw[hl i h1]at h2;simp at h2;omega
 |succ fuel ih=>
  intro m listed st a w hs hm hl hf h hk;have hready:∀i,i∈Region.ready .any ops listed↔i=m/\m<ops.size:=by
   intro i;rw[qk hs];constructor
   ·rintro⟨h1,h2,h3⟩;rw[hl i h1]at h2;simp at h2;have hc:∀j,dc listed j=true->∀e∈fm ops.toList j,dc listed e=true:=by
     intro j hj e hej;by_cases hjs:j<ops.size
     ·rw[hl j hjs]at hj;rw[cE (o:=ops[j]) (by simp[hjs])]at hej;have:=T.edge j ops[j] (by simp[hjs]) _ hej;rw[hl _ aa];simp at hj⊢;omega
     ·simp[dc,getD_eq_getD_getElem?,Array.getElem?_eq_none (show listed.size<=j by omega)]at hj
    refine⟨?_,aa⟩;apply Nat.le_antisymm _ h2;apply Nat.le_of_not_lt;intro hlt;have:=jB T hc h3 (T.tail i aa (by simpa using h1) m hlt);rw[hl m aa]at this;simp at this
   ·rintro⟨rfl,h1⟩;refine⟨h1,by rw[hl i h1];simp,λe hej=>?_⟩;rw[cE (o:=ops[i]) (by simp[h1])]at hej;have:=T.edge i ops[i] (by simp[h1]) _ hej;rw[hl _ aa];simpa using this
  refine⟨λhnil=>?_,λi hi=>?_⟩
  ·have:ops.size<=m:=by
    apply Nat.le_of_not_lt;intro hlt;have:=(hready m).2 ⟨rfl,hlt⟩;rw[hnil]at this;cases this
   rw[List.drop_eq_nil_of_le (by simpa using this)]at hk;exact hQ a w ⟨st,h,hk⟩
  ·obtain⟨rfl,hlt⟩:=(hready i).1 hi;rw[List.drop_eq_getElem_cons (by simpa using hlt)]at hk;unfold wpOp;rw[Array.getElem?_eq_getElem hlt];have next:∀st' a' w',eS E.W S st' a' w'->sM E S ops.toList (ops.toList.drop (i+1)) st' K->wpAny E.P .any ops Q fuel (listed.setIfInBounds i true) a' w':=by
    intro st' a' w' h' hk';refine ih (i+1) _ st' a' w' (by simpa using hs) aa (λj hj=>?_) aa h' hk';rw[mK aa];simp only[];rw[hl j hj];by_cases hji:j=i
    ·subst hji;simp[Nat.beq_refl]
    ·have:Nat.beq j i=false:=by
      cases h':Nat.beq j i with
      |false=>rfl
      |true=>exact absurd (Nat.eq_of_beq_eq_true h') hji
     simp[this];omega
   obtain⟨Z,ρ,h⟩:=h;simp only[Array.getElem_toList]at hk;rcases jg h hk with⟨hw,st',hs',hk⟩|⟨hw,st',hs',hk⟩
   ·simp only[toArray_toList]at hw;simp only[hw,if_true];refine .inl (Oper.wp_mono (λa' w' h'=>?_) (nG he hs' hk Q));obtain⟨st2,h2,hk2⟩:=h';exact next st2 a' w' h2 hk2
   ·simp only[toArray_toList]at hw;simp only[hw,Bool.false_eq_true,if_false];have:=hs'.put ops[i].dst (x:= .one .und) (v:=undef) (.one _ _ (show dN Z w ρ .und undef from rfl));exact next _ _ w ⟨Z,ρ,this⟩ (eT hk)
theorem Mf(he:E.Ok){D:List (List Nat)}{m:Nat}(T:j4 ops.toList D m)(F:Flt E S ops.toList D m R0 R1 st0 st1)(hQ:∀a w,(∃st',eS E.W S st' a w/\K st')->Q .normal a w)
  (ht:tG (ops.toList.take m) R1 st1 λst=>sM E S ops.toList (ops.toList.drop (m+1)) st K):
  ∀(fuel:Nat) (listed:Array Bool) (a:Act) (w:World),listed.size=ops.size->(∀j,m<j->dc listed j=false)->(∀j,dc listed j=true->∀e∈fm ops.toList j,dc listed e=true)->nY (dc listed) ops.size<=fuel->
   (dc listed m=false->eS E.W S (stS ops.toList R0 m st0 (dc listed)) a w)->(dc listed m=true->eS E.W S (stS ops.toList R1 m st1 (dc listed)) a w)->wpAny E.P .any ops Q fuel listed a w:=by
 intro fuel;have hle:m<=ops.toList.length:=T.le;have hlt0:m<ops.toList.length:=T.lt;have hle':m<ops.size:=by simpa using hlt0
 induction fuel with
 |zero=>
  intro listed a w hs htl hc hf h0 h1;have hall:=y8 (Nat.le_zero.1 hf);have h:=h1 (hall m hle');have hn0:ops.size<=m+1:=by
   apply Nat.le_of_not_lt;intro hlt;have h1:=hall (m+1) hlt;rw[htl (m+1) aa]at h1;cases h1
  refine⟨?_,hQ a w ⟨_,h,?_⟩⟩
  ·rw[List.eq_nil_iff_forall_not_mem];intro i hi;obtain⟨h1,h2,_⟩:=(qk hs).1 hi;rw[hall i h1]at h2;cases h2
  ·have:=qD hle ht;rw[List.drop_eq_nil_of_le (by simpa using hn0)]at this;have e:stS ops.toList R1 m st1 (dc listed)=stS ops.toList R1 m st1 λ_=>true:=qv λj hj=>by rw[hall j aa]
   rw[e];exact this
 |succ fuel ih=>
  intro listed a w hs htl hc hf h0 h1;by_cases hall:∀j,j<m+1->dc listed j=true
  ·have h:=h1 (hall m aa);have e:stS ops.toList R1 m st1 (dc listed)=stS ops.toList R1 m st1 λ_=>true:=qv λj hj=>by rw[hall j aa]
   rw[e]at h;have h2:=HH (m:=m+1) (λj hj=>htl j aa) (n:=ops.size);refine Mg he T hQ (fuel+1) (m+1) listed _ a w hs aa (λj hj=>?_) aa h (qD hle ht);by_cases hj0:j<m+1
   ·rw[hall j hj0];simp[hj0]
   ·rw[htl j aa];simp[hj0]
  ·refine⟨λhnil=>?_,λi hi=>?_⟩
   ·exfalso;apply hall;intro j;induction j using Nat.strongRecOn with
    |ind j ihj=>
     intro hj;cases hlj:dc listed j with
     |true=>rfl
     |false=>
      have:j∈Region.ready .any ops listed:=(qk hs).2 ⟨aa,hlj,λe hej=>by
       have hjs:j<ops.size:=aa;rw[cE (o:=ops[j]) (by simp[hjs])]at hej;have:=T.edge j ops[j] (by simp[hjs]) _ hej;exact ihj _ this aa⟩
      rw[hnil]at this;cases this
   ·obtain⟨hlt,hli,haf⟩:=(qk hs).1 hi;have hi0:i<=m:=by
     apply Nat.le_of_not_lt;intro hge;apply hall;intro j hj;exact jB T hc haf (T.tail i hge (by simpa using hlt) j aa)
    have hDl:∀j,inD D j i=true->dc listed j=true:=λj hj=>jB T hc haf hj;have hAl:∀j,j<m->inD D i j=true->dc listed j=false:=λj _ hj=>by
     cases hlj:dc listed j with
     |false=>rfl
     |true=>
      have:=jB T hc (hc j hlj) hj;rw[hli]at this;cases this
    have hget:ops.toList[i]? =some ops[i]:=by simp[hlt]
    have elf:=mK (listed:=listed) (i:=i) aa;have next:∀a' w',(dc listed m=false->i≠m->eS E.W S (stS ops.toList R0 m st0 λj=>dc listed j||Nat.beq j i) a' w')->(dc listed m=true\/i=m->eS E.W S (stS ops.toList R1 m st1 λj=>dc listed j||Nat.beq j i) a' w')->wpAny E.P .any ops Q fuel (listed.setIfInBounds i true) a' w':=λa' w' h0' h1'=>by
     have bim:Nat.beq m i=true↔i=m:=⟨λe=>(Nat.eq_of_beq_eq_true e).symm,λe=>by rw[e];exact Nat.beq_refl m⟩;refine ih _ a' w' (by simpa using hs) (λj hj=>?_) (λj hj e' hej=>?_) ?_ (λhm=>?_) (λhm=>?_)
     ·rw[elf];simp only[htl j hj,Bool.false_or];cases hb:Nat.beq j i with
      |false=>rfl
      |true=>have:=Nat.eq_of_beq_eq_true hb;omega
     ·rw[elf]at hj⊢;simp only[Bool.or_eq_true]at hj⊢;rcases hj with hj|hj
      ·exact .inl (hc j hj e' hej)
      ·rw[Nat.eq_of_beq_eq_true hj]at hej;exact .inl (haf e' hej)
     ·rw[elf];have:=(vo hli (n:=ops.size)).2 hlt;omega
     ·rw[elf]at hm⊢;simp only[Bool.or_eq_false_iff]at hm;exact h0' hm.1 (λe=>by rw[bim.2 e]at hm;exact absurd hm.2 ah)
     ·rw[elf]at hm⊢;simp only[Bool.or_eq_true]at hm;exact h1' (hm.imp_right bim.1)
    by_cases him:i=m
    ·subst him;obtain⟨hgu,hst⟩:=F.step ops[i] hget;unfold wpOp;rw[Array.getElem?_eq_getElem hlt];simp only;have hw:Region.wanted ops[i] (yielded ops a.tmps)=true:=by simp[Region.wanted,hgu]
     rw[if_pos hw];refine .inl (Oper.wp_mono (λa' w' h'=>?_) (hst (dc listed) hDl a w (h0 hli) Q));refine next a' w' (λ_ hne=>absurd rfl hne) λ_=>?_;have e:stS ops.toList R1 i st1 (λj=>dc listed j||Nat.beq j i)=stS ops.toList R1 i st1 (dc listed):=qv λj hj=>by
      have:Nat.beq j i=false:=by
       cases hb:Nat.beq j i with
       |false=>rfl
       |true=>have:=Nat.eq_of_beq_eq_true hb;omega
      rw[this,Bool.or_false]
     rw[e];exact h'
    ·have hi1:i<m:=aa;cases hlm:dc listed m with
     |false=>
      have step:=FO (Kont:=wpAny E.P .any ops Q fuel (listed.setIfInBounds i true)) (Q:=Q) F.F0 hi1 hget hli hDl hAl (h0 hlm) λa' w' h'=>next a' w' (λ_ _=>h') λhm=>by
       rcases hm with hm|hm
       ·rw[hlm]at hm;cases hm
       ·exact absurd hm him
      simp only[toArray_toList]at step;unfold wpOp;rw[Array.getElem?_eq_getElem hlt];simp only;split
      ·rename_i hw;exact .inl (step.1 hw)
      ·rename_i hw;exact step.2 (by simpa using hw)
     |true=>
      have hnm:inD D i m=false:=by
       cases hx:inD D i m with
       |false=>rfl
       |true=>
        have:=jB T hc (hc m hlm) hx;rw[hli]at this;cases this
      have step:=CF (Kont:=wpAny E.P .any ops Q fuel (listed.setIfInBounds i true)) (Q:=Q) F.B1 hi1 hget hli hDl hAl (NU (D:=D) F.B1.nd F.B1.len F.B1.ob hli (λj _ h=>hDl j h) hAl) (F.out1 i _ hi1 hnm hget) (h1 hlm) λa' w' h'=>next a' w' (λhm=>by rw[hlm]at hm;cases hm) λ_=>h';simp only[toArray_toList]at step;unfold wpOp;rw[Array.getElem?_eq_getElem hlt];simp only;split
      ·rename_i hw;exact .inl (step.1 hw)
      ·rename_i hw;exact step.2 (by simpa using hw)
theorem Zj(he:E.Ok){K:Exit->ASt->Prop}{id m:Nat}{D:List (List Nat)}(T:j4 ops.toList D m)(F:Flt E S ops.toList D m R0 R1 st0 st1)
  (ht:tG (ops.toList.take m) R1 st1 λst=>sM E S ops.toList (ops.toList.drop (m+1)) st (K .normal)):AWP E S (.region id ops true) K st0:=by
 refine⟨λa w hs=>wp_region_any he.mixed ?_⟩;have hg:w.grownBy {w with drawn:=w.drawn+1} none:=⟨rfl,rfl,rfl,Nat.le_refl _,λb hb _=>rfl⟩;have e1:∀j,dc (Array.replicate ops.size false) j=false:=λj=>by
  simp[dc,getD_eq_getD_getElem?,getElem?_replicate];split<;>rfl
 refine Mf (Q:=λe a' w'=>∃st',eS E.W S st' a' w'/\K e st') he T F (λa w h=>h) ht ops.size (Array.replicate ops.size false) a _ ah (λj _=>e1 j) (λj hj=>?_) ?_ (λ_=>?_) (λhm=>?_)
 ·rw[e1]at hj;cases hj
 ·have:∀(lf:Nat->Bool) n,nY lf n<=n:=λlf n=>by
   induction n with
   |zero=>exact Nat.le_refl _
   |succ n ih=>simp only[nY];split<;>omega
  exact this _ _
 ·obtain⟨Z,ρ,hs⟩:=hs;have e:stS ops.toList R0 m st0 (dc (Array.replicate ops.size false))=st0:=by
   have e2:(List.range m).filterMap (upS ops.toList R0 (dc (Array.replicate ops.size false)))=[]:=by
    rw[List.filterMap_eq_nil_iff];intro j _;simp[upS,e1]
   have e3:(List.range m).filterMap (obF ops.toList R0 (dc (Array.replicate ops.size false)))=[]:=by
    rw[List.filterMap_eq_nil_iff];intro j _;simp[obF,e1]
   simp[stS,e2,e3,jW]
  rw[e];exact⟨Z,ρ,hs.grow hg (λ_ h=>h) λ_ h=> .inl h⟩
 ·rw[e1]at hm;cases hm
end
def qF(E:bz)(D:List (List Nat))(pre:List Oper)(R:List (AV×Option AO))(st:ASt)(m:Nat):List Oper->List (AV×Option AO)->Nat->Prop
 |[],[],_=>True
 | o :: ops, r :: rs, i => (match inD D i m with
  |true=>True
  |false=>Nj E D pre R st i o r)/\qF E D pre R st m ops rs (i+1)
 |_,_,_=>False
theorem zC{E:bz}{D:List (List Nat)}{pre:List Oper}{R:List (AV×Option AO)}{st:ASt}{m:Nat}:∀{ops:List Oper} {rs:List (AV×Option AO)} {i:Nat},qF E D pre R st m ops rs i->∀k o,ops[k]? =some o->inD D (i+k) m=false->∃r,rs[k]? =some r/\Nj E D pre R st (i+k) o r
 |[],_,_,_,k,o,h,_=>by simp at h
 |o'::ops,[],_,h,k,o,_,_=>h.elim
 |o'::ops,r::rs,i,h,k,o,ho,hn=>by
  cases k with
  |zero=>
   simp at ho;subst ho;have h1:=h.1;rw[show i+0=i from rfl]at hn;rw[hn]at h1;exact⟨r,rfl,h1⟩
  |succ k=>
   obtain⟨r',h1,h2⟩:=zC h.2 k o (by simpa using ho) (by rwa[show i+1+k=i+(k+1)by omega]);exact⟨r',by simpa using h1,by rwa[show i+(k+1)=i+1+k by omega]⟩
section
variable {E:bz} {S:bR} {ops:List Oper} {D:List (List Nat)} {R0 R1:List (AV×Option AO)} {m:Nat} {st0 st1:ASt}
theorem T8(hv:∀j,j<m->vAt R1 j=vAt R0 j)(ht:st1.tm=st0.tm)(l:Nat->Bool):(stS ops R1 m st1 l).tm=(stS ops R0 m st0 l).tm:=by
 have e:(List.range m).filterMap (upS ops R1 l)=(List.range m).filterMap (upS ops R0 l):=vr λj hj=>by simp only[upS,hv j (mem_range.1 hj)]
 show jW st1.tm ((List.range m).filterMap (upS ops R1 l))=jW st0.tm ((List.range m).filterMap (upS ops R0 l));rw[e,ht]
theorem Qw(he:E.Ok)(T:j4 ops D m)(F0:wQ E S ops D R0 m st0)(B1:DBase ops D R1 m st1){t:TypeId}{jx jv dx dv c k s off:Nat}{o0 o1:AO}
  (hop:∃o,ops[m]? =some o/\o.op= .store t (.tmp dx) (.tmp dv)/\o.dst=none/\o.guard=none) (hdx:dAt ops jx=dx) (hdv:dAt ops jv=dv) (hjx:inD D jx m=true) (hjv:inD D jv m=true)
  (hv:∀j,j<m->vAt R1 j=vAt R0 j) (ht:st1.tm=st0.tm) (hvx:vAt R0 jx= .one (.ref c k s off)) (hst:o8 E ⟨[],[(c,o0)]⟩ t (.one (.ref c k s off)) (vAt R0 jv) λst=>st=⟨[],[(c,o1)]⟩)
  (hget:∀l:Nat->Bool,(∀j,inD D j m=true->l j=true)->bo (stS ops R0 m st0 l).ob c=some o0)
  (hsub:∀l:Nat->Bool,(∀j,inD D j m=true->l j=true)->aI (eD (stS ops R0 m st0 l).ob c o1) (stS ops R1 m st1 l).ob)
  (hl:R1.length=m) (hf:qF E D (ops.take m) R1 st1 m (ops.take m) R1 0):Flt E S ops D m R0 R1 st0 st1:=by
 refine⟨F0,B1,λi o hi hn ho=>?_,λo ho=>?_⟩
 ·obtain⟨r,hr,hfact⟩:=zC hf i o (by rw[List.getElem?_take,if_pos hi];exact ho) (by rwa[Nat.zero_add]);rw[Nat.zero_add]at hfact;exact Su he T hi hr hfact
 ·obtain⟨o',ho',hstore,hdst,hgu⟩:=hop;rw[ho]at ho';injection ho' with ho'
  subst ho';refine⟨hgu,λl hlD a w hs Q=>?_⟩;obtain⟨Z,ρ,hs⟩:=hs;have hjx':jx<m:=vC T T.lt hjx;have hjv':jv<m:=vC T T.lt hjv;have g:=CN (K:=λst=>st=⟨(stS ops R0 m st0 l).tm,eD (stS ops R0 m st0 l).ob c o1⟩) he hs hstore (by
   refine LV (x:=vAt R0 jx) (by rw[<-hdx];exact rW F0.nd hjx' (hlD jx hjx) (F0.len jx hjx')) ?_;refine LV (x:=vAt R0 jv) (by rw[<-hdv];exact rW F0.nd hjv' (hlD jv hjv) (F0.len jv hjv')) ?_;rw[hvx,hdst];exact I5 (hget l hlD) hst)
  refine Oper.wp_mono (λa' w' h'=>?_) (g Q);obtain⟨st',h1,h2⟩:=h';subst h2;refine h1.sub ?_ (hsub l hlD);rw[T8 hv ht];exact Yt rfl λs x y hx hy=>by
   rw[hx]at hy;injection hy with hy
   rw[hy];exact .refl _
theorem Se(he:E.Ok)(T:j4 ops D m)(F0:wQ E S ops D R0 m st0)(hlm:H6 ops m st0.tm.length=true){t:TypeId}{jx jv dx dv c k s off:Nat}{o0 o1:AO}
  (hop:∃o,ops[m]? =some o/\o.op= .store t (.tmp dx) (.tmp dv)/\o.dst=none/\o.guard=none) (hdx:dAt ops jx=dx) (hdv:dAt ops jv=dv) (hjx:inD D jx m=true) (hjv:inD D jv m=true)
  (hvx:vAt R0 jx= .one (.ref c k s off)) (hc:bo st0.ob c=some o0) (hst:o8 E ⟨[],[(c,o0)]⟩ t (.one (.ref c k s off)) (vAt R0 jv) λst=>st=⟨[],[(c,o1)]⟩)
  (hno:noB ops D R0 m ⟨st0.tm,eD st0.ob c o1⟩=true)
  (hl:R0.length=m) (hf:qF E D (ops.take m) R0 ⟨st0.tm,eD st0.ob c o1⟩ m (ops.take m) R0 0):Flt E S ops D m R0 R0 st0 ⟨st0.tm,eD st0.ob c o1⟩:=by
 have hfar:∀j,j<m->oAt R0 j≠none->c≠dAt ops j:=λj hj hne e=>by
  have:=F0.ob j hj hne;rw[<-e,hc]at this;cases this
 refine Qw he T F0 (xI T hlm hno) hop hdx hdv hjx hjv (λ_ _=>rfl) rfl hvx hst (λl _=>?_) (λl _ id o ho=>?_) hl hf
 ·rw[kb F0.nd];exact .inr ⟨λj hj _ e=>by
   cases ho2:oAt R0 j with
   |none=>rfl
   |some o2=>exact absurd e.symm (hfar j hj (by rw[ho2];simp)),hc⟩
 ·rw[kb F0.nd]at ho;rw[ci];rcases ho with⟨j,hj,hlj,e,h⟩|⟨h,hb⟩
  ·rw[if_neg (λe'=>hfar j hj (by rw[h];simp) (by rw[e,e'])),kb F0.nd];exact .inl ⟨j,hj,hlj,e,h⟩
  ·have hb:bo (eD st0.ob c o1) id=some o:=hb;rw[ci]at hb;by_cases hci:c=id
   ·rw[if_pos hci]at hb⊢;exact hb
   ·rw[if_neg hci]at hb⊢;rw[kb F0.nd];exact .inr ⟨h,hb⟩
theorem Sd(he:E.Ok)(T:j4 ops D m)(F0:wQ E S ops D R0 m st0)(hlm:H6 ops m st0.tm.length=true){t:TypeId}{jx jv j0 dx dv c k s off:Nat}{o0 o1:AO}
  (hop:∃o,ops[m]? =some o/\o.op= .store t (.tmp dx) (.tmp dv)/\o.dst=none/\o.guard=none) (hdx:dAt ops jx=dx) (hdv:dAt ops jv=dv) (hjx:inD D jx m=true) (hjv:inD D jv m=true)
  (hj0:inD D j0 m=true) (hd0:dAt ops j0=c) (ho0:oAt R0 j0=some o0)
  (hvx:vAt R0 jx= .one (.ref c k s off)) (hst:o8 E ⟨[],[(c,o0)]⟩ t (.one (.ref c k s off)) (vAt R0 jv) λst=>st=⟨[],[(c,o1)]⟩)
  (hno:noB ops D (R0.set j0 (vAt R0 j0,some o1)) m st0=true)
  (hl:R0.length=m) (hf:qF E D (ops.take m) (R0.set j0 (vAt R0 j0,some o1)) st0 m (ops.take m) (R0.set j0 (vAt R0 j0,some o1)) 0):Flt E S ops D m R0 (R0.set j0 (vAt R0 j0,some o1)) st0 st0:=by
 have hj0':j0<m:=vC T T.lt hj0;have hv:∀j,j<m->vAt (R0.set j0 (vAt R0 j0,some o1)) j=vAt R0 j:=λj hj=>by
  by_cases e:j=j0
  ·subst e;exact ss aa
  ·exact lm e
 refine Qw he T F0 (xI T hlm hno) hop hdx hdv hjx hjv hv rfl hvx hst (λl hlD=>?_) (λl hlD id o ho=>?_) (by simpa using hl) hf
 ·rw[kb F0.nd];exact .inl ⟨j0,hj0',hlD j0 hj0,hd0,ho0⟩
 ·rw[kb F0.nd]at ho;rw[ci];rcases ho with⟨j,hj,hlj,e,h⟩|⟨h,hb⟩
  ·by_cases hjj:j=j0
   ·subst hjj;rw[pq aa]at h;rw[if_pos (by rw[<-hd0,e])];exact h
   ·rw[oT hjj]at h;rw[if_neg (λe'=>hjj (Jm F0.nd hj hj0' (by rw[e,hd0,e']))),kb F0.nd];exact .inl ⟨j,hj,hlj,e,h⟩
  ·have hne:c≠id:=λe=>by
    have:=h j0 hj0' (hlD j0 hj0) (by rw[hd0,e]);rw[pq aa]at this;cases this
   rw[if_neg hne,kb F0.nd];refine .inr ⟨λj hj hlj e=>?_,hb⟩;have:=h j hj hlj e;by_cases hjj:j=j0
   ·subst hjj;exact absurd (by rw[<-hd0,e]) hne
   ·rwa[oT hjj]at this
end
section
variable {E:bz} {S:bR} {ops:Array Oper}
theorem CD(he:E.Ok){st:ASt}{m:Nat}{D FL:List (List Nat)}{K:List (AV×Option AO)->Prop}(hD:n9 [] ops.toList=D)(hok:xS ops.toList D m=true)(hfl:((List.range m).map λi=>(List.range m).map (flP D i))=FL)
  (h:fM E (ops.toList.take m) st (ops.toList.take m) FL 0 (List.replicate m (.one .dead,none)) K):∃R,K R/\∀j o,j<m->ops.toList[j]? =some o->jf E S D R m (stP ops.toList D R m st j) j o:=by
 have T:=q3 hD hok;have hlen:(ops.toList.take m).length=m:=by have:=T.le;simp at*;omega
 subst hfl;have e:((List.range m).map λi=>(List.range m).map (flP D i))=((List.range' 0 (ops.toList.take m).length).map λi=>(List.range m).map (flP D i)):=by rw[hlen,<-List.range_eq_range']
 rw[e]at h;exact CC (S:=S) he T (ops.toList.take m) 0 (List.replicate m (.one .dead,none)) (λk=>by simp) ah (λj o hj=>absurd hj (Nat.not_lt_zero _)) h
theorem Z6(he:E.Ok){K:Exit->ASt->Prop}(id:Nat){tm:List AV}{ob:List (Nat×AO)}(m:Nat)(D FL:List (List Nat))(jx jv:Nat){t:TypeId}{dx dv:Nat}(hD:n9 [] ops.toList=D)(hok:xS ops.toList D m=true)(hfl:((List.range m).map λi=>(List.range m).map (flP D i))=FL)(hl:H6 ops.toList m tm.length=true)
  (hop:∃o,ops.toList[m]? =some o/\o.op= .store t (.tmp dx) (.tmp dv)/\o.dst=none/\o.guard=none) (hdx:dAt ops.toList jx=dx) (hdv:dAt ops.toList jv=dv) (hjx:inD D jx m=true) (hjv:inD D jv m=true)
  (h : fM E (ops.toList.take m) ⟨tm, ob⟩ (ops.toList.take m) FL 0 (List.replicate m (.one .dead, none)) fun R => ∃ c k s off o0 o1, vAt R jx = .one (.ref c k s off) ∧ bo ob c = some o0 ∧ R.length = m ∧ noB ops.toList D R m ⟨tm, ob⟩ = true ∧
   (o8 E ⟨[],[(c,o0)]⟩ t (.one (.ref c k s off)) (vAt R jv) λst=>st=⟨[],[(c,o1)]⟩)/\fW c o1 ob λob=>noB ops.toList D R m ⟨tm,ob⟩=true/\qF E D (ops.toList.take m) R ⟨tm,ob⟩ m (ops.toList.take m) R 0/\
   tG (ops.toList.take m) R ⟨tm,ob⟩ λst=>sM E S ops.toList (ops.toList.drop (m+1)) st (K .normal)):AWP E S (.region id ops true) K ⟨tm,ob⟩:=by
 have T:=q3 hD hok;obtain⟨R,⟨c,k,s,off,o0,o1,hvx,hc,hlR,hno,hst,h1⟩,hf⟩:=CD (S:=S) he hD hok hfl h;obtain⟨hno1,hfL,ht⟩:=dh h1;exact Zj he T (Se he T ⟨xI T hl hno,hf⟩ hl hop hdx hdv hjx hjv hvx hc hst hno1 hlR hfL) ht
theorem Z5(he:E.Ok){K:Exit->ASt->Prop}(id:Nat){tm:List AV}{ob:List (Nat×AO)}(m:Nat)(D FL:List (List Nat))(jx jv j0:Nat){t:TypeId}{dx dv:Nat}(hD:n9 [] ops.toList=D)(hok:xS ops.toList D m=true)(hfl:((List.range m).map λi=>(List.range m).map (flP D i))=FL)(hl:H6 ops.toList m tm.length=true)
  (hop:∃o,ops.toList[m]? =some o/\o.op= .store t (.tmp dx) (.tmp dv)/\o.dst=none/\o.guard=none) (hdx:dAt ops.toList jx=dx) (hdv:dAt ops.toList jv=dv) (hjx:inD D jx m=true) (hjv:inD D jv m=true) (hj0:inD D j0 m=true)
  (h : fM E (ops.toList.take m) ⟨tm, ob⟩ (ops.toList.take m) FL 0 (List.replicate m (.one .dead, none)) fun R => ∃ c k s off o0 o1, vAt R jx = .one (.ref c k s off) ∧ oAt R j0 = some o0 ∧ dAt ops.toList j0 = c ∧ R.length = m ∧ noB ops.toList D R m ⟨tm, ob⟩ = true ∧
   (o8 E ⟨[],[(c,o0)]⟩ t (.one (.ref c k s off)) (vAt R jv) λst=>st=⟨[],[(c,o1)]⟩)/\nU R j0 (vAt R j0,some o1) λR=>noB ops.toList D R m ⟨tm,ob⟩=true/\qF E D (ops.toList.take m) R ⟨tm,ob⟩ m (ops.toList.take m) R 0/\
   tG (ops.toList.take m) R ⟨tm,ob⟩ λst=>sM E S ops.toList (ops.toList.drop (m+1)) st (K .normal)):AWP E S (.region id ops true) K ⟨tm,ob⟩:=by
 have T:=q3 hD hok;obtain⟨R,⟨c,k,s,off,o0,o1,hvx,ho0,hd0,hlR,hno,hst,h1⟩,hf⟩:=CD (S:=S) he hD hok hfl h;obtain⟨hno1,hfL,ht⟩:=km h1;exact Zj he T (Sd he T ⟨xI T hl hno,hf⟩ hl hop hdx hdv hjx hjv hj0 hd0 ho0 hvx hst hno1 hlR hfL) ht
end
end
end
open Go.Proofs.Tryz
open Go.ChangeShapes Go.WideShapes Go.RowKit
def xm(o:DOp):Bool:=
 if o.kind=1 then aJ o.a 0 9&&aJ o.b 0 999&&(o.c==0)&&(o.d==0)
 else if o.kind=2 then aJ o.a 0 9&&(o.b==0)&&(o.c==0)&&(o.d==0)
 else if o.kind=3 then aJ o.a 1 20&&aJ o.b 0 1000000&&aJ o.c 0 9&&aJ o.d 0 999
 else if o.kind=4 then aJ o.a 1 20&&aJ o.b 0 1000&&(o.c==0)&&(o.d==0)
 else if o.kind=5 then aJ o.a 1 1000&&(o.b==0)&&(o.c==0)&&(o.d==0)
 else false
def cj(e:DEntry):Bool:=aJ e.index 1 2000&&aJ e.time 0 1000000&&aJ e.client 2 5&&aJ e.seq 1 2000&&xm e.op
def DEntry.ds(e:DEntry):List AD:=[dI e.index,dI e.time,dI e.client,dI e.seq,dI e.op.kind,dI e.op.a,dI e.op.b,dI e.op.c,dI e.op.d]
abbrev DOp.ds(o:DOp):List AD:=[dI o.kind,dI o.a,dI o.b,dI o.c,dI o.d]
def DOp.v(o:DOp):Value:= .agg #[.int .i64 o.kind,.int .i64 o.a,.int .i64 o.b,.int .i64 o.c,.int .i64 o.d]
def jw(x:DWant):Bool:=if x.kind==4 then(x.op==⟨0,0,0,0,0⟩&&aJ x.key 0 9)else if x.kind==1||x.kind==2||x.kind==3 then(xm x.op&&x.op.kind==x.kind&&x.key==0)else false
def DWant.ds(e:DWant):List AD:=[dI e.kind,dI e.op.kind,dI e.op.a,dI e.op.b,dI e.op.c,dI e.op.d,dI e.key]
theorem Qo(w:World)(d:Nat)(a b:Int):(Op.equalIn (d+1) 2 (.int .i64 a) (.int .i64 b)).run Tryz.prog w= .ok (a==b) w:=by
 have hi:=run_underlying (w:=w) underlying2;simp[Op.equalIn,hi]
theorem lg(w:World)(xs:Array Value)(i:Nat)(v:Value)(h:xs[i]? =some v):(part 2 xs i).run Tryz.prog w= .ok v w:=by
 simp[part,isAgg2,sizeOf2,h]
theorem eE{α β:Type}(f:α->β){l:List α}{k:Nat}(hk:k<l.length):(l.take (k+1)).map f=(l.take k).map f++[f l[k]]:=by
 rw[List.take_succ_eq_append_getElem hk,List.map_append];rfl
theorem bf(x lo hi:Int):aL av 315 [pI x,pI lo,pI hi] (rB (aJ x lo hi)):=by
 refine pO func315 call315 ntmps315 results315 λS=>?_;conv=>whnf
 repeat'(first|refine awz ?_|refine tB ?_ ?_|(intro h;conv=>whnf))
 all_goals first
  |(simp_all[aJ];done)
  |(simp_all[aJ];intros;omega)
theorem bh(x lo hi:Int):aL av 75 [pI x,pI lo,pI hi] (rB (aJ x lo hi)):=by
 refine pO func75 call75 ntmps75 results75 λS=>?_;conv=>whnf
 repeat'(first|refine awz ?_|refine tB ?_ ?_|(intro h;conv=>whnf))
 all_goals first
  |(simp_all[aJ];done)
  |(simp_all[aJ];intros;omega)
theorem Gg(x:Int):aL av 317 [pI x] (rB (aJ x 0 5)):=by
 refine pO func317 call317 ntmps317 results317 λS=>?_;conv=>whnf
 repeat'(first|refine awz ?_|(refine cP (bf _ _ _) ?_;conv=>whnf)|exact rr|fail)
theorem mH(x:Int):aL av 419 [pI x] (rB (aJ x 0 9)):=by
 refine pO func419 call419 ntmps419 results419 λS=>?_;conv=>whnf
 repeat'(first|refine awz ?_|(refine cP (bf _ _ _) ?_;conv=>whnf)|exact rr|fail)
theorem jo(x:Int):aL av 420 [pI x] (rB (aJ x 0 999)):=by
 refine pO func420 call420 ntmps420 results420 λS=>?_;conv=>whnf
 repeat'(first|refine awz ?_|(refine cP (bf _ _ _) ?_;conv=>whnf)|exact rr|fail)
theorem vA(x:Int):aL av 422 [pI x] (rB (aJ x 1 20)):=by
 refine pO func422 call422 ntmps422 results422 λS=>?_;conv=>whnf
 repeat'(first|refine awz ?_|(refine cP (bf _ _ _) ?_;conv=>whnf)|exact rr|fail)
theorem yl(x:Int):aL av 405 [pI x] (rB (aJ x 1 2000)):=by
 refine pO func405 call405 ntmps405 results405 λS=>?_;conv=>whnf
 repeat'(first|refine awz ?_|(refine cP (bf _ _ _) ?_;conv=>whnf)|exact rr|fail)
theorem ri(x:Int):aL av 406 [pI x] (rB (aJ x 1 2000)):=by
 refine pO func406 call406 ntmps406 results406 λS=>?_;conv=>whnf
 repeat'(first|refine awz ?_|(refine cP (bf _ _ _) ?_;conv=>whnf)|exact rr|fail)
theorem dM(x:Int):aL av 252 [pI x] (rB (aJ x 0 1000000)):=by
 refine pO func252 call252 ntmps252 results252 λS=>?_;conv=>whnf
 repeat'(first|refine awz ?_|(refine cP (bf _ _ _) ?_;conv=>whnf)|exact rr|fail)
theorem rb(x:Int):aL av 404 [pI x] (rB (aJ x 2 5)):=by
 refine pO func404 call404 ntmps404 results404 λS=>?_;conv=>whnf
 repeat'(first|refine awz ?_|(refine cP (bf _ _ _) ?_;conv=>whnf)|exact rr|fail)
theorem vY(x:Int):aL av 148 [pI x] (rB (aJ x 0 5)):=by
 refine pO func148 call148 ntmps148 results148 λS=>?_;conv=>whnf
 repeat'(first|refine awz ?_|(refine cP (bh _ _ _) ?_;conv=>whnf)|exact rr|fail)
theorem yP(x:Int):aL av 230 [pI x] (rB (aJ x 0 9)):=by
 refine pO func230 call230 ntmps230 results230 λS=>?_;conv=>whnf
 repeat'(first|refine awz ?_|(refine cP (bh _ _ _) ?_;conv=>whnf)|exact rr|fail)
theorem rV(x:Int):aL av 232 [pI x] (rB (aJ x 0 999)):=by
 refine pO func232 call232 ntmps232 results232 λS=>?_;conv=>whnf
 repeat'(first|refine awz ?_|(refine cP (bh _ _ _) ?_;conv=>whnf)|exact rr|fail)
theorem Bz(x:Int):aL av 298 [pI x] (rB (aJ x 1 20)):=by
 refine pO func298 call298 ntmps298 results298 λS=>?_;conv=>whnf
 repeat'(first|refine awz ?_|(refine cP (bh _ _ _) ?_;conv=>whnf)|exact rr|fail)
theorem qt(x:Int):aL av 309 [pI x] (rB (aJ x 1 2000)):=by
 refine pO func309 call309 ntmps309 results309 λS=>?_;conv=>whnf
 repeat'(first|refine awz ?_|(refine cP (bh _ _ _) ?_;conv=>whnf)|exact rr|fail)
theorem jt(x:Int):aL av 306 [pI x] (rB (aJ x 1 2000)):=by
 refine pO func306 call306 ntmps306 results306 λS=>?_;conv=>whnf
 repeat'(first|refine awz ?_|(refine cP (bh _ _ _) ?_;conv=>whnf)|exact rr|fail)
theorem fc(x:Int):aL av 138 [pI x] (rB (aJ x 0 1000000)):=by
 refine pO func138 call138 ntmps138 results138 λS=>?_;conv=>whnf
 repeat'(first|refine awz ?_|(refine cP (bh _ _ _) ?_;conv=>whnf)|exact rr|fail)
theorem mf(x:Int):aL av 308 [pI x] (rB (aJ x 2 5)):=by
 refine pO func308 call308 ntmps308 results308 λS=>?_;conv=>whnf
 repeat'(first|refine awz ?_|(refine cP (bh _ _ _) ?_;conv=>whnf)|exact rr|fail)
theorem Eh(x:Int):aL av 290 [pI x] (rB (aJ x 0 1000000)):=by
 refine pO func290 call290 ntmps290 results290 λS=>?_;conv=>whnf
 repeat'(first|refine awz ?_|(refine cP (bh _ _ _) ?_;conv=>whnf)|exact rr|fail)
theorem vw(o:DOp):aL av 374 [.agg o.ds] (rB (xm o)):=by
 refine pO func374 call374 ntmps374 results374 λS=>?_;conv=>whnf
 repeat'((first|refine awz ?_|refine cP (mH _) ?_|refine cP (jo _) ?_|refine cP (vA _) ?_|refine cP (dM _) ?_|refine cP (bf _ _ _) ?_|refine tB ?_ ?_|intro h)<;>conv=>whnf)
 all_goals simp_all[xm]
theorem jZ(o:DOp):aL av 229 [.agg o.ds] (rB (xm o)):=by
 refine pO func229 call229 ntmps229 results229 λS=>?_;conv=>whnf
 repeat'((first|refine awz ?_|refine cP (yP _) ?_|refine cP (rV _) ?_|refine cP (Bz _) ?_|refine cP (fc _) ?_|refine cP (bh _ _ _) ?_|refine tB ?_ ?_|intro h)<;>conv=>whnf)
 all_goals simp_all[xm]
theorem gd(e:DEntry):aL av 349 [.agg e.ds] (rB (cj e)):=by
 refine pO func349 call349 ntmps349 results349 λS=>?_;conv=>whnf
 repeat'((first|refine awz ?_|refine cP (ri _) ?_|refine cP (dM _) ?_|refine cP (rb _) ?_|refine cP (yl _) ?_|refine cP (vw e.op) ?_|refine tB ?_ ?_|intro h)<;>conv=>whnf)
 all_goals simp[cj, *]
theorem cy(e:DEntry):aL av 304 [.agg e.ds] (rB (cj e)):=by
 refine pO func304 call304 ntmps304 results304 λS=>?_;conv=>whnf
 repeat'((first|refine awz ?_|refine cP (jt _) ?_|refine cP (fc _) ?_|refine cP (mf _) ?_|refine cP (qt _) ?_|refine cP (jZ e.op) ?_|refine tB ?_ ?_|intro h)<;>conv=>whnf)
 all_goals simp[cj, *]
section
section
open Go.Deep
def ed(P:Program)(t:TypeId){α:Type}(R:Rep α):Prop:=
 ∀(H:Type) (enc:TypeId×Value->H) (w:World) (base:Nat) (spare:Nat->Bool) (held:Bool) (fuel:Nat) (cs:List Value) (y:DataW H×List MemPlace),
  DataW.trod enc P w base spare held fuel t cs=some y->∃a F,R.rd w cs a F
theorem aZ{P:Program}{t:TypeId}{k:IntKind}(ht:P.underlying t=some (.int k)):ed P t (Rep.int k):=by
 intro H enc w base spare held fuel cs y h;obtain⟨n,rfl,_,hw⟩:=DataW.trod_int ht h;exact⟨n,[],rfl,hw,rfl⟩
theorem u9{P:Program}{t:TypeId}(ht:P.underlying t=some .bool):ed P t Rep.bool:=by
 intro H enc w base spare held fuel cs y h;obtain⟨n,rfl,_⟩:=DataW.trod_bool ht h;exact⟨n,[],rfl,rfl⟩
theorem d9{P:Program}{t e:TypeId}{α:Type}{R:Rep α}(ht:P.underlying t=some (.slice e))(hc:P.cellsOf e=R.size)(hr:ed P e R):ed P t (Rep.sl R):=by
 intro H enc w base spare held fuel cs y h;rcases open_slice ht h with⟨rfl,_⟩|⟨a,len,cap,m,n,D,Pl,rfl,hb,hl,hm,hmm,_,hi⟩
 ·exact⟨[],[],none,0,[],[],rfl,Nat.le_refl _,Nat.zero_le _,λj hj=>absurd hj (Nat.not_lt_zero _),⟨rfl,rfl⟩,rfl⟩
 ·have hlm:len<=m:=by rw[hmm];split<;>omega
  have key:∀q,q<=len->∃(l:List α) (xs:List Value) (F:List Nat),l.length=q/\R.all w xs l F/\∀(j:Nat) (u:Value),xs[j]? =some u->w.cell? (a.add j)=some u:=by
   intro q;induction q with
   |zero=>intro _;exact⟨[],[],[],rfl,⟨rfl,rfl⟩,by intro j u hu;simp at hu⟩
   |succ q ih=>
    intro hq;obtain⟨l,xs,F,hll,hall,hx⟩:=ih aa;obtain⟨cs',h1,h2⟩:=hi q aa;obtain⟨_,hcl,hat⟩:=World.cells?_some h1;obtain⟨b,F',hrd⟩:=hr H enc w base spare held n cs' _ h2;have hxl:=Zm hall;refine⟨l++[b],xs++cs',F++F',by simp[hll],ZP hall hrd,λj u hu=>?_⟩;by_cases hj:j<xs.length
    ·rw[List.getElem?_append_left hj]at hu;exact hx j u hu
    ·rw[List.getElem?_append_right aa]at hu;have hjl:j-xs.length<cs'.length:=(List.getElem?_eq_some_iff.1 hu).1;have:=hat (j-xs.length) aa;rw[hu,Go.Deep.add_add,hc,<-hll,<-hxl,show xs.length+(j-xs.length)=j by omega]at this;exact this
  obtain⟨l,xs,F,hll,hall,hx⟩:=key len (Nat.le_refl _);refine⟨l,xe (some a) xs++F,some a,cap,xs,F,by rw[hll],aa,hm,?_,hall,rfl⟩;intro j0 hj0;have h0:=hx 0 xs[0] (getElem?_eq_getElem aa);have ea:a.add 0=a:=by simp[Addr.add]
  rw[ea]at h0;have hlt:=World.block_lt_of_cell? w a h0;have hsp:a.spot=none:=by
   unfold World.cell? at h0;split at h0
   ·split at h0
    ·cases h0
    ·rename_i hs;simpa using hs
   ·cases h0
  obtain⟨b,off,sp⟩:=a;simp only at hsp;subst hsp;refine⟨b,off,rfl,hlt,λi u hu=>?_⟩;have:=hx i u hu;rwa[show(⟨b,off,none⟩:Addr).add i=⟨b,off+i,none⟩by unfold Addr.add;split<;>simp_all]at this
theorem cR{P:Program}{H:Type}{enc:TypeId×Value->H}{w:World}{base:Nat}{spare:Nat->Bool}{held:Bool}{fuel:Nat}{cs:List Value}{f:Field}{o s:Nat}{α:Type}{R:Rep α}
  (h:ed P f.type R) {y:Option (DataW H×List MemPlace)} (hf:DataW.trod enc P w base spare held fuel f.type ((cs.drop f.offset).take (P.cellsOf f.type))=y) (hy:y.isSome=true) (ho:f.offset=o) (hs:P.cellsOf f.type=s) (hl:cs.length=o+s):
  ∃a F,R.rd w (cs.drop o) a F:=by
 obtain⟨y',rfl⟩:=Option.isSome_iff_exists.1 hy;rw[ho,hs,List.take_of_length_le al]at hf;exact h H enc w base spare held fuel _ _ hf
theorem aV{P:Program}{H:Type}{enc:TypeId×Value->H}{w:World}{base:Nat}{spare:Nat->Bool}{held:Bool}{fuel:Nat}{cs:List Value}{f:Field}{o s:Nat}{α β:Type}{R:Rep α}{S:Rep β}
  (h:ed P f.type R) {y:Option (DataW H×List MemPlace)} (hf:DataW.trod enc P w base spare held fuel f.type ((cs.drop f.offset).take (P.cellsOf f.type))=y) (hy:y.isSome=true) (ho:f.offset=o) (hs:P.cellsOf f.type=s)
  (hrest:∃b G,S.rd w (cs.drop (o+s)) b G):∃a F,(XH R S).rd w (cs.drop o) a F:=by
 obtain⟨y',rfl⟩:=Option.isSome_iff_exists.1 hy;rw[ho,hs]at hf;obtain⟨a,F,ha⟩:=h H enc w base spare held fuel _ _ hf;obtain⟨b,G,hb⟩:=hrest;exact⟨(a,b),F++G,_,_,F,G,by rw[<-List.drop_drop,List.take_append_drop],rfl,ha,hb⟩
theorem ba{α:Type}{l:List α}{n j:Nat}(h:l.length=n)(hj:j<n):(l[j]?).isSome=true:=by simp;omega
theorem Qi:Tryz.prog.cellsOf 51=5:=by kernel_rfl
theorem xr:ed Tryz.prog 51 YV:=by
 intro H enc w base spare held fuel cs y h;obtain⟨ys,n,_,_,hl,hyl,hf⟩:=DataW.trod_struct underlying51 h;rw[Qi]at hl;have hk:=aV (o:=0) (s:=1) (aZ underlying2) (hf 0 _ rfl) (ba hyl ae) rfl ac
  (aV (o := 1) (s := 1) (aZ underlying2) (hf 1 _ rfl) (ba hyl ae) rfl ac
  (aV (o := 2) (s := 1) (aZ underlying2) (hf 2 _ rfl) (ba hyl ae) rfl ac
  (aV (o := 3) (s := 1) (aZ underlying2) (hf 3 _ rfl) (ba hyl ae) rfl ac
  (cR (o:=4) (s:=1) (aZ underlying2) (hf 4 _ rfl) (ba hyl ae) rfl ac hl))))
 obtain⟨⟨a0,a1,a2,a3,a4⟩,F,hk⟩:=hk;exact⟨⟨a0,a1,a2,a3,a4⟩,F,hk⟩
theorem Jc:Tryz.prog.cellsOf 317=9:=by kernel_rfl
theorem E4:ed Tryz.prog 317 YI:=by
 intro H enc w base spare held fuel cs y h;obtain⟨ys,n,_,_,hl,hyl,hf⟩:=DataW.trod_struct underlying317 h;rw[Jc]at hl;have hk:=aV (o:=0) (s:=1) (aZ underlying2) (hf 0 _ rfl) (ba hyl ae) rfl ac
  (aV (o := 1) (s := 1) (aZ underlying2) (hf 1 _ rfl) (ba hyl ae) rfl ac
  (aV (o := 2) (s := 1) (aZ underlying2) (hf 2 _ rfl) (ba hyl ae) rfl ac
  (aV (o := 3) (s := 1) (aZ underlying2) (hf 3 _ rfl) (ba hyl ae) rfl ac
  (cR (o:=4) (s:=5) xr (hf 4 _ rfl) (ba hyl ae) rfl ac hl))))
 obtain⟨⟨a0,a1,a2,a3,a4⟩,F,hk⟩:=hk;exact⟨⟨a0,a1,a2,a3,a4⟩,F,hk⟩
theorem L8:Tryz.prog.cellsOf 262=7:=by kernel_rfl
theorem IJ:ed Tryz.prog 262 YX:=by
 intro H enc w base spare held fuel cs y h;obtain⟨ys,n,_,_,hl,hyl,hf⟩:=DataW.trod_struct underlying262 h;rw[L8]at hl;have hk:=aV (o:=0) (s:=1) (aZ underlying2) (hf 0 _ rfl) (ba hyl ae) rfl ac
  (aV (o := 1) (s := 5) xr (hf 1 _ rfl) (ba hyl ae) rfl ac
  (cR (o:=6) (s:=1) (aZ underlying2) (hf 2 _ rfl) (ba hyl ae) rfl ac hl))
 obtain⟨⟨a0,a1,a2⟩,F,hk⟩:=hk;exact⟨⟨a0,a1,a2⟩,F,hk⟩
abbrev eB(b:Bool):List AD:=[dB b]
abbrev bD(l:List Int):List AD:=[dIs l]
structure DWrite where
 at_:Int
 row:(List Int)
 deriving DecidableEq
def Yy:Rep DWrite:=XY (λx=>(x.at_,x.row)) (XH (Rep.int .i64) (Rep.sl (Rep.int .i64)))
def DWrite.ds(x:DWrite):List AD:=[dI x.at_,.sl (x.row.map eI)]
theorem aai:Enc Yy DWrite.ds:=X2 (f:=λx:DWrite=>(x.at_,x.row)) (XJ Enc.int (Enc.sl Enc.int))
theorem ZY:be Yy DWrite.ds:=XX (f:=λx:DWrite=>(x.at_,x.row)) (XG be.int (be.sl be.int))
def X0(n:Nat)(x:DWrite):Prop:=x.row.length<=n
structure DDisk where
 kept:(List (List Int))
 wait:(List DWrite)
 deriving DecidableEq
def Yr:Rep DDisk:=XY (λx=>(x.kept,x.wait)) (XH (Rep.sl (Rep.sl (Rep.int .i64))) (Rep.sl Yy))
def DDisk.ds(x:DDisk):List AD:=[.sl (x.kept.map bD),.sl (x.wait.map DWrite.ds)]
theorem Za:Enc Yr DDisk.ds:=X2 (f:=λx:DDisk=>(x.kept,x.wait)) (XJ (Enc.sl (Enc.sl Enc.int)) (Enc.sl aai))
theorem YZ:be Yr DDisk.ds:=XX (f:=λx:DDisk=>(x.kept,x.wait)) (XG (be.sl (be.sl be.int)) (be.sl ZY))
def XV(n:Nat)(x:DDisk):Prop:=x.kept.length<=n/\(∀y∈x.kept,y.length<=n)/\x.wait.length<=n/\(∀y∈x.wait,X0 n y)
structure DTwo where
 a:DDisk
 b:DDisk
 deriving DecidableEq
def YS:Rep DTwo:=XY (λx=>(x.a,x.b)) (XH Yr Yr)
def DTwo.ds(x:DTwo):List AD:=[.sl (x.a.kept.map bD),.sl (x.a.wait.map DWrite.ds),.sl (x.b.kept.map bD),.sl (x.b.wait.map DWrite.ds)]
theorem aaJ:Enc YS DTwo.ds:=X2 (f:=λx:DTwo=>(x.a,x.b)) (XJ Za Za)
theorem aax:be YS DTwo.ds:=XX (f:=λx:DTwo=>(x.a,x.b)) (XG YZ YZ)
def X8(n:Nat)(x:DTwo):Prop:=XV n x.a/\XV n x.b
structure DMark where
 client:Int
 seq:Int
 index:Int
 deriving DecidableEq
def YG:Rep DMark:=XY (λx=>(x.client,x.seq,x.index)) (XH (Rep.int .i64) (XH (Rep.int .i64) (Rep.int .i64)))
def DMark.ds(x:DMark):List AD:=[dI x.client,dI x.seq,dI x.index]
theorem ZJ:Enc YG DMark.ds:=X2 (f:=λx:DMark=>(x.client,x.seq,x.index)) (XJ Enc.int (XJ Enc.int Enc.int))
theorem Zv:be YG DMark.ds:=XX (f:=λx:DMark=>(x.client,x.seq,x.index)) (XG be.int (XG be.int be.int))
structure DHead where
 num:Int
 base:Int
 time:Int
 seen:(List DMark)
 deriving DecidableEq
def Yv:Rep DHead:=XY (λx=>(x.num,x.base,x.time,x.seen)) (XH (Rep.int .i64) (XH (Rep.int .i64) (XH (Rep.int .i64) (Rep.sl YG))))
def DHead.ds(x:DHead):List AD:=[dI x.num,dI x.base,dI x.time,.sl (x.seen.map DMark.ds)]
theorem ZI:Enc Yv DHead.ds:=X2 (f:=λx:DHead=>(x.num,x.base,x.time,x.seen)) (XJ Enc.int (XJ Enc.int (XJ Enc.int (Enc.sl ZJ))))
theorem Zu:be Yv DHead.ds:=XX (f:=λx:DHead=>(x.num,x.base,x.time,x.seen)) (XG be.int (XG be.int (XG be.int (be.sl Zv))))
def XW(n:Nat)(x:DHead):Prop:=x.seen.length<=n
theorem ZO:Enc YV DOp.ds:=X2 (f:=λx:DOp=>(x.kind,x.a,x.b,x.c,x.d)) (XJ Enc.int (XJ Enc.int (XJ Enc.int (XJ Enc.int Enc.int))))
theorem Zz:be YV DOp.ds:=XX (f:=λx:DOp=>(x.kind,x.a,x.b,x.c,x.d)) (XG be.int (XG be.int (XG be.int (XG be.int be.int))))
theorem Z8:Enc YI DEntry.ds:=X2 (f:=λx:DEntry=>(x.index,x.time,x.client,x.seq,x.op)) (XJ Enc.int (XJ Enc.int (XJ Enc.int (XJ Enc.int ZO))))
theorem ZU:be YI DEntry.ds:=XX (f:=λx:DEntry=>(x.index,x.time,x.client,x.seq,x.op)) (XG be.int (XG be.int (XG be.int (XG be.int Zz))))
structure DBook where
 base:Int
 time:Int
 entries:(List DEntry)
 deriving DecidableEq
def YE:Rep DBook:=XY (λx=>(x.base,x.time,x.entries)) (XH (Rep.int .i64) (XH (Rep.int .i64) (Rep.sl YI)))
def DBook.ds(x:DBook):List AD:=[dI x.base,dI x.time,.sl (x.entries.map DEntry.ds)]
theorem aao:Enc YE DBook.ds:=X2 (f:=λx:DBook=>(x.base,x.time,x.entries)) (XJ Enc.int (XJ Enc.int (Enc.sl Z8)))
theorem Z7:be YE DBook.ds:=XX (f:=λx:DBook=>(x.base,x.time,x.entries)) (XG be.int (XG be.int (be.sl ZU)))
def X5(n:Nat)(x:DBook):Prop:=x.entries.length<=n
structure DAck where
 client:Int
 seq:Int
 index:Int
 last:Int
 deriving DecidableEq
def Y5:Rep DAck:=XY (λx=>(x.client,x.seq,x.index,x.last)) (XH (Rep.int .i64) (XH (Rep.int .i64) (XH (Rep.int .i64) (Rep.int .i64))))
def DAck.ds(x:DAck):List AD:=[dI x.client,dI x.seq,dI x.index,dI x.last]
theorem aaD:Enc Y5 DAck.ds:=X2 (f:=λx:DAck=>(x.client,x.seq,x.index,x.last)) (XJ Enc.int (XJ Enc.int (XJ Enc.int Enc.int)))
theorem aan:be Y5 DAck.ds:=XX (f:=λx:DAck=>(x.client,x.seq,x.index,x.last)) (XG be.int (XG be.int (XG be.int be.int)))
structure DLogNode where
 two:DTwo
 head:DHead
 nxt:DHead
 more:Bool
 book:DBook
 seen:(List DMark)
 durable:Int
 owe:(List DAck)
 deriving DecidableEq
def Yp:Rep DLogNode:=XY (λx=>(x.two,x.head,x.nxt,x.more,x.book,x.seen,x.durable,x.owe)) (XH YS (XH Yv (XH Yv (XH Rep.bool (XH YE (XH (Rep.sl YG) (XH (Rep.int .i64) (Rep.sl Y5))))))))
def DLogNode.ds(x:DLogNode):List AD:=[.sl (x.two.a.kept.map bD),.sl (x.two.a.wait.map DWrite.ds),.sl (x.two.b.kept.map bD),.sl (x.two.b.wait.map DWrite.ds),dI x.head.num,dI x.head.base,dI x.head.time,.sl (x.head.seen.map DMark.ds),dI x.nxt.num,dI x.nxt.base,dI x.nxt.time,.sl (x.nxt.seen.map DMark.ds),dB x.more,dI x.book.base,dI x.book.time,.sl (x.book.entries.map DEntry.ds),.sl (x.seen.map DMark.ds),dI x.durable,.sl (x.owe.map DAck.ds)]
theorem ZN:Enc Yp DLogNode.ds:=X2 (f:=λx:DLogNode=>(x.two,x.head,x.nxt,x.more,x.book,x.seen,x.durable,x.owe)) (XJ aaJ (XJ ZI (XJ ZI (XJ Enc.bool (XJ aao (XJ (Enc.sl ZJ) (XJ Enc.int (Enc.sl aaD))))))))
theorem ZF:be Yp DLogNode.ds:=XX (f:=λx:DLogNode=>(x.two,x.head,x.nxt,x.more,x.book,x.seen,x.durable,x.owe)) (XG aax (XG Zu (XG Zu (XG be.bool (XG Z7 (XG (be.sl Zv) (XG be.int (be.sl aan))))))))
def XT(n:Nat)(x:DLogNode):Prop:=X8 n x.two/\XW n x.head/\XW n x.nxt/\X5 n x.book/\x.seen.length<=n/\x.owe.length<=n
structure DPair where
 key:Int
 value:Int
 deriving DecidableEq
def YW:Rep DPair:=XY (λx=>(x.key,x.value)) (XH (Rep.int .i64) (Rep.int .i64))
def DPair.ds(x:DPair):List AD:=[dI x.key,dI x.value]
theorem aaw:Enc YW DPair.ds:=X2 (f:=λx:DPair=>(x.key,x.value)) (XJ Enc.int Enc.int)
theorem aac:be YW DPair.ds:=XX (f:=λx:DPair=>(x.key,x.value)) (XG be.int be.int)
structure DJob where
 id:Int
 due:Int
 key:Int
 value:Int
 fired:Int
 deriving DecidableEq
def Y8:Rep DJob:=XY (λx=>(x.id,x.due,x.key,x.value,x.fired)) (XH (Rep.int .i64) (XH (Rep.int .i64) (XH (Rep.int .i64) (XH (Rep.int .i64) (Rep.int .i64)))))
def DJob.ds(x:DJob):List AD:=[dI x.id,dI x.due,dI x.key,dI x.value,dI x.fired]
theorem aaG:Enc Y8 DJob.ds:=X2 (f:=λx:DJob=>(x.id,x.due,x.key,x.value,x.fired)) (XJ Enc.int (XJ Enc.int (XJ Enc.int (XJ Enc.int Enc.int))))
theorem aar:be Y8 DJob.ds:=XX (f:=λx:DJob=>(x.id,x.due,x.key,x.value,x.fired)) (XG be.int (XG be.int (XG be.int (XG be.int be.int))))
structure DLease where
 holder:Int
 epoch:Int
 til:Int
 deriving DecidableEq
def YJ:Rep DLease:=XY (λx=>(x.holder,x.epoch,x.til)) (XH (Rep.int .i64) (XH (Rep.int .i64) (Rep.int .i64)))
def DLease.ds(x:DLease):List AD:=[dI x.holder,dI x.epoch,dI x.til]
theorem aaa:Enc YJ DLease.ds:=X2 (f:=λx:DLease=>(x.holder,x.epoch,x.til)) (XJ Enc.int (XJ Enc.int Enc.int))
theorem ZV:be YJ DLease.ds:=XX (f:=λx:DLease=>(x.holder,x.epoch,x.til)) (XG be.int (XG be.int be.int))
structure DState where
 index:Int
 time:Int
 pairs:(List DPair)
 jobs:(List DJob)
 lease:DLease
 deriving DecidableEq
def Yw:Rep DState:=XY (λx=>(x.index,x.time,x.pairs,x.jobs,x.lease)) (XH (Rep.int .i64) (XH (Rep.int .i64) (XH (Rep.sl YW) (XH (Rep.sl Y8) YJ))))
def DState.ds(x:DState):List AD:=[dI x.index,dI x.time,.sl (x.pairs.map DPair.ds),.sl (x.jobs.map DJob.ds),dI x.lease.holder,dI x.lease.epoch,dI x.lease.til]
theorem aad:Enc Yw DState.ds:=X2 (f:=λx:DState=>(x.index,x.time,x.pairs,x.jobs,x.lease)) (XJ Enc.int (XJ Enc.int (XJ (Enc.sl aaw) (XJ (Enc.sl aaG) aaa))))
theorem ZW:be Yw DState.ds:=XX (f:=λx:DState=>(x.index,x.time,x.pairs,x.jobs,x.lease)) (XG be.int (XG be.int (XG (be.sl aac) (XG (be.sl aar) ZV))))
def X1(n:Nat)(x:DState):Prop:=x.pairs.length<=n/\x.jobs.length<=n
structure DStore where
 disk:DDisk
 state:DState
 num:Int
 last:Int
 busy:Int
 deriving DecidableEq
def Yx:Rep DStore:=XY (λx=>(x.disk,x.state,x.num,x.last,x.busy)) (XH Yr (XH Yw (XH (Rep.int .i64) (XH (Rep.int .i64) (Rep.int .i64)))))
def DStore.ds(x:DStore):List AD:=[.sl (x.disk.kept.map bD),.sl (x.disk.wait.map DWrite.ds),dI x.state.index,dI x.state.time,.sl (x.state.pairs.map DPair.ds),.sl (x.state.jobs.map DJob.ds),dI x.state.lease.holder,dI x.state.lease.epoch,dI x.state.lease.til,dI x.num,dI x.last,dI x.busy]
theorem aae:Enc Yx DStore.ds:=X2 (f:=λx:DStore=>(x.disk,x.state,x.num,x.last,x.busy)) (XJ Za (XJ aad (XJ Enc.int (XJ Enc.int Enc.int))))
theorem ZX:be Yx DStore.ds:=XX (f:=λx:DStore=>(x.disk,x.state,x.num,x.last,x.busy)) (XG YZ (XG ZW (XG be.int (XG be.int be.int))))
def X3(n:Nat)(x:DStore):Prop:=XV n x.disk/\X1 n x.state
structure DDue where
 id:Int
 due:Int
 deriving DecidableEq
def Y6:Rep DDue:=XY (λx=>(x.id,x.due)) (XH (Rep.int .i64) (Rep.int .i64))
def DDue.ds(x:DDue):List AD:=[dI x.id,dI x.due]
theorem aaE:Enc Y6 DDue.ds:=X2 (f:=λx:DDue=>(x.id,x.due)) (XJ Enc.int Enc.int)
theorem aap:be Y6 DDue.ds:=XX (f:=λx:DDue=>(x.id,x.due)) (XG be.int be.int)
structure DJobs where
 index:Int
 time:Int
 holder:Int
 epoch:Int
 til:Int
 opens:(List DDue)
 deriving DecidableEq
def YF:Rep DJobs:=XY (λx=>(x.index,x.time,x.holder,x.epoch,x.til,x.opens)) (XH (Rep.int .i64) (XH (Rep.int .i64) (XH (Rep.int .i64) (XH (Rep.int .i64) (XH (Rep.int .i64) (Rep.sl Y6))))))
def DJobs.ds(x:DJobs):List AD:=[dI x.index,dI x.time,dI x.holder,dI x.epoch,dI x.til,.sl (x.opens.map DDue.ds)]
theorem aas:Enc YF DJobs.ds:=X2 (f:=λx:DJobs=>(x.index,x.time,x.holder,x.epoch,x.til,x.opens)) (XJ Enc.int (XJ Enc.int (XJ Enc.int (XJ Enc.int (XJ Enc.int (Enc.sl aaE))))))
theorem Z9:be YF DJobs.ds:=XX (f:=λx:DJobs=>(x.index,x.time,x.holder,x.epoch,x.til,x.opens)) (XG be.int (XG be.int (XG be.int (XG be.int (XG be.int (be.sl aap))))))
def Ya(n:Nat)(x:DJobs):Prop:=x.opens.length<=n
structure DView where
 jobs:DJobs
 deriving DecidableEq
def YH:Rep DView:=XY (λx=>x.jobs) YF
def DView.ds(x:DView):List AD:=[dI x.jobs.index,dI x.jobs.time,dI x.jobs.holder,dI x.jobs.epoch,dI x.jobs.til,.sl (x.jobs.opens.map DDue.ds)]
theorem aay:Enc YH DView.ds:=X2 (f:=λx:DView=>x.jobs) aas
theorem aaf:be YH DView.ds:=XX (f:=λx:DView=>x.jobs) Z9
def X6(n:Nat)(x:DView):Prop:=Ya n x.jobs
structure DSched where
 id:Int
 seq:Int
 view:DView
 busy:Bool
 op:DOp
 index:Int
 deriving DecidableEq
def Ys:Rep DSched:=XY (λx=>(x.id,x.seq,x.view,x.busy,x.op,x.index)) (XH (Rep.int .i64) (XH (Rep.int .i64) (XH YH (XH Rep.bool (XH YV (Rep.int .i64))))))
def DSched.ds(x:DSched):List AD:=[dI x.id,dI x.seq,dI x.view.jobs.index,dI x.view.jobs.time,dI x.view.jobs.holder,dI x.view.jobs.epoch,dI x.view.jobs.til,.sl (x.view.jobs.opens.map DDue.ds),dB x.busy,dI x.op.kind,dI x.op.a,dI x.op.b,dI x.op.c,dI x.op.d,dI x.index]
theorem ZA:Enc Ys DSched.ds:=X2 (f:=λx:DSched=>(x.id,x.seq,x.view,x.busy,x.op,x.index)) (XJ Enc.int (XJ Enc.int (XJ aay (XJ Enc.bool (XJ ZO Enc.int)))))
theorem Zl:be Ys DSched.ds:=XX (f:=λx:DSched=>(x.id,x.seq,x.view,x.busy,x.op,x.index)) (XG be.int (XG be.int (XG aaf (XG be.bool (XG Zz be.int)))))
def XZ(n:Nat)(x:DSched):Prop:=X6 n x.view
theorem aaz:Enc YX DWant.ds:=X2 (f:=λx:DWant=>(x.kind,x.op,x.key)) (XJ Enc.int (XJ ZO Enc.int))
theorem aag:be YX DWant.ds:=XX (f:=λx:DWant=>(x.kind,x.op,x.key)) (XG be.int (XG Zz be.int))
structure DGot where
 seq:Int
 index:Int
 has:Int
 value:Int
 deriving DecidableEq
def Y7:Rep DGot:=XY (λx=>(x.seq,x.index,x.has,x.value)) (XH (Rep.int .i64) (XH (Rep.int .i64) (XH (Rep.int .i64) (Rep.int .i64))))
def DGot.ds(x:DGot):List AD:=[dI x.seq,dI x.index,dI x.has,dI x.value]
theorem aaF:Enc Y7 DGot.ds:=X2 (f:=λx:DGot=>(x.seq,x.index,x.has,x.value)) (XJ Enc.int (XJ Enc.int (XJ Enc.int Enc.int)))
theorem aaq:be Y7 DGot.ds:=XX (f:=λx:DGot=>(x.seq,x.index,x.has,x.value)) (XG be.int (XG be.int (XG be.int be.int)))
structure DClient where
 id:Int
 todo:(List DWant)
 gots:(List DGot)
 last:Int
 deriving DecidableEq
def Ym:Rep DClient:=XY (λx=>(x.id,x.todo,x.gots,x.last)) (XH (Rep.int .i64) (XH (Rep.sl YX) (XH (Rep.sl Y7) (Rep.int .i64))))
def DClient.ds(x:DClient):List AD:=[dI x.id,.sl (x.todo.map DWant.ds),.sl (x.gots.map DGot.ds),dI x.last]
theorem Zk:Enc Ym DClient.ds:=X2 (f:=λx:DClient=>(x.id,x.todo,x.gots,x.last)) (XJ Enc.int (XJ (Enc.sl aaz) (XJ (Enc.sl aaF) Enc.int)))
theorem Y4:be Ym DClient.ds:=XX (f:=λx:DClient=>(x.id,x.todo,x.gots,x.last)) (XG be.int (XG (be.sl aag) (XG (be.sl aaq) be.int)))
def XU(n:Nat)(x:DClient):Prop:=x.todo.length<=n/\x.gots.length<=n
def DMsg.ds(x:DMsg):List AD:=[dI x.frm,dI x.to_,.sl (x.row.map eI)]
theorem aaH:Enc YQ DMsg.ds:=X2 (f:=λx:DMsg=>(x.frm,x.to_,x.row)) (XJ Enc.int (XJ Enc.int (Enc.sl Enc.int)))
theorem aau:be YQ DMsg.ds:=XX (f:=λx:DMsg=>(x.frm,x.to_,x.row)) (XG be.int (XG be.int (be.sl be.int)))
def X4(n:Nat)(x:DMsg):Prop:=x.row.length<=n
def DLink.ds(x:DLink):List AD:=[dI x.a,dI x.b]
theorem aat:Enc YU DLink.ds:=X2 (f:=λx:DLink=>(x.a,x.b)) (XJ Enc.int Enc.int)
theorem aab:be YU DLink.ds:=XX (f:=λx:DLink=>(x.a,x.b)) (XG be.int be.int)
def DNet.ds(x:DNet):List AD:=[.sl (x.flight.map DMsg.ds),.sl (x.cuts.map DLink.ds)]
theorem aaI:Enc YR DNet.ds:=X2 (f:=λx:DNet=>(x.flight,x.cuts)) (XJ (Enc.sl aaH) (Enc.sl aat))
theorem aav:be YR DNet.ds:=XX (f:=λx:DNet=>(x.flight,x.cuts)) (XG (be.sl aau) (be.sl aab))
def Yf(n:Nat)(x:DNet):Prop:=x.flight.length<=n/\(∀y∈x.flight,X4 n y)/\x.cuts.length<=n
structure DWorld where
 log:DLogNode
 store:DStore
 left:DSched
 right:DSched
 ann:DClient
 bob:DClient
 net:DNet
 clocks:(List Int)
 up:(List Bool)
 deriving DecidableEq
def YK:Rep DWorld:=XY (λx=>(x.log,x.store,x.left,x.right,x.ann,x.bob,x.net,x.clocks,x.up)) (XH Yp (XH Yx (XH Ys (XH Ys (XH Ym (XH Ym (XH YR (XH (Rep.sl (Rep.int .i64)) (Rep.sl Rep.bool)))))))))
def DWorld.ds(x:DWorld):List AD:=[.sl (x.log.two.a.kept.map bD),.sl (x.log.two.a.wait.map DWrite.ds),.sl (x.log.two.b.kept.map bD),.sl (x.log.two.b.wait.map DWrite.ds),dI x.log.head.num,dI x.log.head.base,dI x.log.head.time,.sl (x.log.head.seen.map DMark.ds),dI x.log.nxt.num,dI x.log.nxt.base,dI x.log.nxt.time,.sl (x.log.nxt.seen.map DMark.ds),dB x.log.more,dI x.log.book.base,dI x.log.book.time,.sl (x.log.book.entries.map DEntry.ds),.sl (x.log.seen.map DMark.ds),dI x.log.durable,.sl (x.log.owe.map DAck.ds),.sl (x.store.disk.kept.map bD),.sl (x.store.disk.wait.map DWrite.ds),dI x.store.state.index,dI x.store.state.time,.sl (x.store.state.pairs.map DPair.ds),.sl (x.store.state.jobs.map DJob.ds),dI x.store.state.lease.holder,dI x.store.state.lease.epoch,dI x.store.state.lease.til,dI x.store.num,dI x.store.last,dI x.store.busy,dI x.left.id,dI x.left.seq,dI x.left.view.jobs.index,dI x.left.view.jobs.time,dI x.left.view.jobs.holder,dI x.left.view.jobs.epoch,dI x.left.view.jobs.til,.sl (x.left.view.jobs.opens.map DDue.ds),dB x.left.busy,dI x.left.op.kind,dI x.left.op.a,dI x.left.op.b,dI x.left.op.c,dI x.left.op.d,dI x.left.index,dI x.right.id,dI x.right.seq,dI x.right.view.jobs.index,dI x.right.view.jobs.time,dI x.right.view.jobs.holder,dI x.right.view.jobs.epoch,dI x.right.view.jobs.til,.sl (x.right.view.jobs.opens.map DDue.ds),dB x.right.busy,dI x.right.op.kind,dI x.right.op.a,dI x.right.op.b,dI x.right.op.c,dI x.right.op.d,dI x.right.index,dI x.ann.id,.sl (x.ann.todo.map DWant.ds),.sl (x.ann.gots.map DGot.ds),dI x.ann.last,dI x.bob.id,.sl (x.bob.todo.map DWant.ds),.sl (x.bob.gots.map DGot.ds),dI x.bob.last,.sl (x.net.flight.map DMsg.ds),.sl (x.net.cuts.map DLink.ds),.sl (x.clocks.map eI),.sl (x.up.map eB)]
theorem aah:Enc YK DWorld.ds:=X2 (f:=λx:DWorld=>(x.log,x.store,x.left,x.right,x.ann,x.bob,x.net,x.clocks,x.up)) (XJ ZN (XJ aae (XJ ZA (XJ ZA (XJ Zk (XJ Zk (XJ aaI (XJ (Enc.sl Enc.int) (Enc.sl Enc.bool)))))))))
theorem aaN:be YK DWorld.ds:=XX (f:=λx:DWorld=>(x.log,x.store,x.left,x.right,x.ann,x.bob,x.net,x.clocks,x.up)) (XG ZF (XG ZX (XG Zl (XG Zl (XG Y4 (XG Y4 (XG aav (XG (be.sl be.int) (be.sl be.bool)))))))))
def XO(n:Nat)(x:DWorld):Prop:=XT n x.log/\X3 n x.store/\XZ n x.left/\XZ n x.right/\XU n x.ann/\XU n x.bob/\Yf n x.net/\x.clocks.length<=n/\x.up.length<=n
theorem Ji:Tryz.prog.cellsOf 290=2:=by kernel_rfl
theorem E9:ed Tryz.prog 290 Yy:=by
 intro H enc w base spare held fuel cs y h;obtain⟨ys,n,_,_,hl,hyl,hf⟩:=DataW.trod_struct underlying290 h;rw[Ji]at hl;have hk:=
  aV (o:=0) (s:=1) (aZ underlying2) (hf 0 _ rfl) (ba hyl ae) rfl ac
  (cR (o:=1) (s:=1) (d9 underlying62 ac (aZ underlying2)) (hf 1 _ rfl) (ba hyl ae) rfl ac hl)
 obtain⟨⟨a0,a1⟩,F,hk⟩:=hk;exact⟨⟨a0,a1⟩,F,hk⟩
theorem L1:Tryz.prog.cellsOf 25=2:=by kernel_rfl
theorem sj:ed Tryz.prog 25 Yr:=by
 intro H enc w base spare held fuel cs y h;obtain⟨ys,n,_,_,hl,hyl,hf⟩:=DataW.trod_struct underlying25 h;rw[L1]at hl;have hk:=
  aV (o:=0) (s:=1) (d9 underlying22 ac (d9 underlying62 ac (aZ underlying2))) (hf 0 _ rfl) (ba hyl ae) rfl ac
  (cR (o:=1) (s:=1) (d9 underlying23 ac E9) (hf 1 _ rfl) (ba hyl ae) rfl ac hl)
 obtain⟨⟨a0,a1⟩,F,hk⟩:=hk;exact⟨⟨a0,a1⟩,F,hk⟩
theorem Oz:Tryz.prog.cellsOf 27=4:=by kernel_rfl
theorem Lz:ed Tryz.prog 27 YS:=by
 intro H enc w base spare held fuel cs y h;obtain⟨ys,n,_,_,hl,hyl,hf⟩:=DataW.trod_struct underlying27 h;rw[Oz]at hl;have hk:=
  aV (o:=0) (s:=2) sj (hf 0 _ rfl) (ba hyl ae) rfl ac
  (cR (o:=2) (s:=2) sj (hf 1 _ rfl) (ba hyl ae) rfl ac hl)
 obtain⟨⟨a0,a1⟩,F,hk⟩:=hk;exact⟨⟨a0,a1⟩,F,hk⟩
theorem L5:Tryz.prog.cellsOf 249=3:=by kernel_rfl
theorem yT:ed Tryz.prog 249 YG:=by
 intro H enc w base spare held fuel cs y h;obtain⟨ys,n,_,_,hl,hyl,hf⟩:=DataW.trod_struct underlying249 h;rw[L5]at hl;have hk:=
  aV (o:=0) (s:=1) (aZ underlying2) (hf 0 _ rfl) (ba hyl ae) rfl ac
  (aV (o := 1) (s := 1) (aZ underlying2) (hf 1 _ rfl) (ba hyl ae) rfl ac
  (cR (o:=2) (s:=1) (aZ underlying2) (hf 2 _ rfl) (ba hyl ae) rfl ac hl))
 obtain⟨⟨a0,a1,a2⟩,F,hk⟩:=hk;exact⟨⟨a0,a1,a2⟩,F,hk⟩
theorem L2:Tryz.prog.cellsOf 30=4:=by kernel_rfl
theorem yS:ed Tryz.prog 30 Yv:=by
 intro H enc w base spare held fuel cs y h;obtain⟨ys,n,_,_,hl,hyl,hf⟩:=DataW.trod_struct underlying30 h;rw[L2]at hl;have hk:=
  aV (o:=0) (s:=1) (aZ underlying2) (hf 0 _ rfl) (ba hyl ae) rfl ac
  (aV (o := 1) (s := 1) (aZ underlying2) (hf 1 _ rfl) (ba hyl ae) rfl ac
  (aV (o := 2) (s := 1) (aZ underlying2) (hf 2 _ rfl) (ba hyl ae) rfl ac
  (cR (o:=3) (s:=1) (d9 underlying28 ac yT) (hf 3 _ rfl) (ba hyl ae) rfl ac hl)))
 obtain⟨⟨a0,a1,a2,a3⟩,F,hk⟩:=hk;exact⟨⟨a0,a1,a2,a3⟩,F,hk⟩
theorem L0:Tryz.prog.cellsOf 33=3:=by kernel_rfl
theorem IE:ed Tryz.prog 33 YE:=by
 intro H enc w base spare held fuel cs y h;obtain⟨ys,n,_,_,hl,hyl,hf⟩:=DataW.trod_struct underlying33 h;rw[L0]at hl;have hk:=
  aV (o:=0) (s:=1) (aZ underlying2) (hf 0 _ rfl) (ba hyl ae) rfl ac
  (aV (o := 1) (s := 1) (aZ underlying2) (hf 1 _ rfl) (ba hyl ae) rfl ac
  (cR (o:=2) (s:=1) (d9 underlying31 ac E4) (hf 2 _ rfl) (ba hyl ae) rfl ac hl))
 obtain⟨⟨a0,a1,a2⟩,F,hk⟩:=hk;exact⟨⟨a0,a1,a2⟩,F,hk⟩
theorem Ot:Tryz.prog.cellsOf 253=4:=by kernel_rfl
theorem Lt:ed Tryz.prog 253 Y5:=by
 intro H enc w base spare held fuel cs y h;obtain⟨ys,n,_,_,hl,hyl,hf⟩:=DataW.trod_struct underlying253 h;rw[Ot]at hl;have hk:=
  aV (o:=0) (s:=1) (aZ underlying2) (hf 0 _ rfl) (ba hyl ae) rfl ac
  (aV (o := 1) (s := 1) (aZ underlying2) (hf 1 _ rfl) (ba hyl ae) rfl ac
  (aV (o := 2) (s := 1) (aZ underlying2) (hf 2 _ rfl) (ba hyl ae) rfl ac
  (cR (o:=3) (s:=1) (aZ underlying2) (hf 3 _ rfl) (ba hyl ae) rfl ac hl)))
 obtain⟨⟨a0,a1,a2,a3⟩,F,hk⟩:=hk;exact⟨⟨a0,a1,a2,a3⟩,F,hk⟩
theorem ED:Tryz.prog.cellsOf 36=19:=by kernel_rfl
theorem Bp:ed Tryz.prog 36 Yp:=by
 intro H enc w base spare held fuel cs y h;obtain⟨ys,n,_,_,hl,hyl,hf⟩:=DataW.trod_struct underlying36 h;rw[ED]at hl;have hk:=
  aV (o:=0) (s:=4) Lz (hf 0 _ rfl) (ba hyl ae) rfl ac
  (aV (o := 4) (s := 4) yS (hf 1 _ rfl) (ba hyl ae) rfl ac
  (aV (o := 8) (s := 4) yS (hf 2 _ rfl) (ba hyl ae) rfl ac
  (aV (o := 12) (s := 1) (u9 underlying4) (hf 3 _ rfl) (ba hyl ae) rfl ac
  (aV (o := 13) (s := 3) IE (hf 4 _ rfl) (ba hyl ae) rfl ac
  (aV (o := 16) (s := 1) (d9 underlying28 ac yT) (hf 5 _ rfl) (ba hyl ae) rfl ac
  (aV (o := 17) (s := 1) (aZ underlying2) (hf 6 _ rfl) (ba hyl ae) rfl ac
  (cR (o:=18) (s:=1) (d9 underlying34 ac Lt) (hf 7 _ rfl) (ba hyl ae) rfl ac hl)))))))
 obtain⟨⟨a0,a1,a2,a3,a4,a5,a6,a7⟩,F,hk⟩:=hk;exact⟨⟨a0,a1,a2,a3,a4,a5,a6,a7⟩,F,hk⟩
theorem L6:Tryz.prog.cellsOf 322=2:=by kernel_rfl
theorem IH:ed Tryz.prog 322 YW:=by
 intro H enc w base spare held fuel cs y h;obtain⟨ys,n,_,_,hl,hyl,hf⟩:=DataW.trod_struct underlying322 h;rw[L6]at hl;have hk:=
  aV (o:=0) (s:=1) (aZ underlying2) (hf 0 _ rfl) (ba hyl ae) rfl ac
  (cR (o:=1) (s:=1) (aZ underlying2) (hf 1 _ rfl) (ba hyl ae) rfl ac hl)
 obtain⟨⟨a0,a1⟩,F,hk⟩:=hk;exact⟨⟨a0,a1⟩,F,hk⟩
theorem Ow:Tryz.prog.cellsOf 326=5:=by kernel_rfl
theorem Lw:ed Tryz.prog 326 Y8:=by
 intro H enc w base spare held fuel cs y h;obtain⟨ys,n,_,_,hl,hyl,hf⟩:=DataW.trod_struct underlying326 h;rw[Ow]at hl;have hk:=
  aV (o:=0) (s:=1) (aZ underlying2) (hf 0 _ rfl) (ba hyl ae) rfl ac
  (aV (o := 1) (s := 1) (aZ underlying2) (hf 1 _ rfl) (ba hyl ae) rfl ac
  (aV (o := 2) (s := 1) (aZ underlying2) (hf 2 _ rfl) (ba hyl ae) rfl ac
  (aV (o := 3) (s := 1) (aZ underlying2) (hf 3 _ rfl) (ba hyl ae) rfl ac
  (cR (o:=4) (s:=1) (aZ underlying2) (hf 4 _ rfl) (ba hyl ae) rfl ac hl))))
 obtain⟨⟨a0,a1,a2,a3,a4⟩,F,hk⟩:=hk;exact⟨⟨a0,a1,a2,a3,a4⟩,F,hk⟩
theorem Jd:Tryz.prog.cellsOf 40=3:=by kernel_rfl
theorem E5:ed Tryz.prog 40 YJ:=by
 intro H enc w base spare held fuel cs y h;obtain⟨ys,n,_,_,hl,hyl,hf⟩:=DataW.trod_struct underlying40 h;rw[Jd]at hl;have hk:=
  aV (o:=0) (s:=1) (aZ underlying2) (hf 0 _ rfl) (ba hyl ae) rfl ac
  (aV (o := 1) (s := 1) (aZ underlying2) (hf 1 _ rfl) (ba hyl ae) rfl ac
  (cR (o:=2) (s:=1) (aZ underlying2) (hf 2 _ rfl) (ba hyl ae) rfl ac hl))
 obtain⟨⟨a0,a1,a2⟩,F,hk⟩:=hk;exact⟨⟨a0,a1,a2⟩,F,hk⟩
theorem Jf:Tryz.prog.cellsOf 42=7:=by kernel_rfl
theorem E6:ed Tryz.prog 42 Yw:=by
 intro H enc w base spare held fuel cs y h;obtain⟨ys,n,_,_,hl,hyl,hf⟩:=DataW.trod_struct underlying42 h;rw[Jf]at hl;have hk:=
  aV (o:=0) (s:=1) (aZ underlying2) (hf 0 _ rfl) (ba hyl ae) rfl ac
  (aV (o := 1) (s := 1) (aZ underlying2) (hf 1 _ rfl) (ba hyl ae) rfl ac
  (aV (o := 2) (s := 1) (d9 underlying37 ac IH) (hf 2 _ rfl) (ba hyl ae) rfl ac
  (aV (o := 3) (s := 1) (d9 underlying38 ac Lw) (hf 3 _ rfl) (ba hyl ae) rfl ac
  (cR (o:=4) (s:=3) E5 (hf 4 _ rfl) (ba hyl ae) rfl ac hl))))
 obtain⟨⟨a0,a1,a2,a3,a4⟩,F,hk⟩:=hk;exact⟨⟨a0,a1,a2,a3,a4⟩,F,hk⟩
theorem Jg:Tryz.prog.cellsOf 44=12:=by kernel_rfl
theorem E7:ed Tryz.prog 44 Yx:=by
 intro H enc w base spare held fuel cs y h;obtain⟨ys,n,_,_,hl,hyl,hf⟩:=DataW.trod_struct underlying44 h;rw[Jg]at hl;have hk:=
  aV (o:=0) (s:=2) sj (hf 0 _ rfl) (ba hyl ae) rfl ac
  (aV (o := 2) (s := 7) E6 (hf 1 _ rfl) (ba hyl ae) rfl ac
  (aV (o := 9) (s := 1) (aZ underlying2) (hf 2 _ rfl) (ba hyl ae) rfl ac
  (aV (o := 10) (s := 1) (aZ underlying2) (hf 3 _ rfl) (ba hyl ae) rfl ac
  (cR (o:=11) (s:=1) (aZ underlying2) (hf 4 _ rfl) (ba hyl ae) rfl ac hl))))
 obtain⟨⟨a0,a1,a2,a3,a4⟩,F,hk⟩:=hk;exact⟨⟨a0,a1,a2,a3,a4⟩,F,hk⟩
theorem Ou:Tryz.prog.cellsOf 367=2:=by kernel_rfl
theorem Lu:ed Tryz.prog 367 Y6:=by
 intro H enc w base spare held fuel cs y h;obtain⟨ys,n,_,_,hl,hyl,hf⟩:=DataW.trod_struct underlying367 h;rw[Ou]at hl;have hk:=
  aV (o:=0) (s:=1) (aZ underlying2) (hf 0 _ rfl) (ba hyl ae) rfl ac
  (cR (o:=1) (s:=1) (aZ underlying2) (hf 1 _ rfl) (ba hyl ae) rfl ac hl)
 obtain⟨⟨a0,a1⟩,F,hk⟩:=hk;exact⟨⟨a0,a1⟩,F,hk⟩
theorem L3:Tryz.prog.cellsOf 47=6:=by kernel_rfl
theorem IF:ed Tryz.prog 47 YF:=by
 intro H enc w base spare held fuel cs y h;obtain⟨ys,n,_,_,hl,hyl,hf⟩:=DataW.trod_struct underlying47 h;rw[L3]at hl;have hk:=
  aV (o:=0) (s:=1) (aZ underlying2) (hf 0 _ rfl) (ba hyl ae) rfl ac
  (aV (o := 1) (s := 1) (aZ underlying2) (hf 1 _ rfl) (ba hyl ae) rfl ac
  (aV (o := 2) (s := 1) (aZ underlying2) (hf 2 _ rfl) (ba hyl ae) rfl ac
  (aV (o := 3) (s := 1) (aZ underlying2) (hf 3 _ rfl) (ba hyl ae) rfl ac
  (aV (o := 4) (s := 1) (aZ underlying2) (hf 4 _ rfl) (ba hyl ae) rfl ac
  (cR (o:=5) (s:=1) (d9 underlying45 ac Lu) (hf 5 _ rfl) (ba hyl ae) rfl ac hl)))))
 obtain⟨⟨a0,a1,a2,a3,a4,a5⟩,F,hk⟩:=hk;exact⟨⟨a0,a1,a2,a3,a4,a5⟩,F,hk⟩
theorem L7:Tryz.prog.cellsOf 49=6:=by kernel_rfl
theorem II:ed Tryz.prog 49 YH:=by
 intro H enc w base spare held fuel cs y h;obtain⟨ys,n,_,_,hl,hyl,hf⟩:=DataW.trod_struct underlying49 h;rw[L7]at hl;have hk:=
  cR (o:=0) (s:=6) IF (hf 0 _ rfl) (ba hyl ae) rfl ac hl
 obtain⟨a0,F,hk⟩:=hk;exact⟨⟨a0⟩,F,hk⟩
theorem Je:Tryz.prog.cellsOf 53=15:=by kernel_rfl
theorem wO:ed Tryz.prog 53 Ys:=by
 intro H enc w base spare held fuel cs y h;obtain⟨ys,n,_,_,hl,hyl,hf⟩:=DataW.trod_struct underlying53 h;rw[Je]at hl;have hk:=
  aV (o:=0) (s:=1) (aZ underlying2) (hf 0 _ rfl) (ba hyl ae) rfl ac
  (aV (o := 1) (s := 1) (aZ underlying2) (hf 1 _ rfl) (ba hyl ae) rfl ac
  (aV (o := 2) (s := 6) II (hf 2 _ rfl) (ba hyl ae) rfl ac
  (aV (o := 8) (s := 1) (u9 underlying4) (hf 3 _ rfl) (ba hyl ae) rfl ac
  (aV (o := 9) (s := 5) xr (hf 4 _ rfl) (ba hyl ae) rfl ac
  (cR (o:=14) (s:=1) (aZ underlying2) (hf 5 _ rfl) (ba hyl ae) rfl ac hl)))))
 obtain⟨⟨a0,a1,a2,a3,a4,a5⟩,F,hk⟩:=hk;exact⟨⟨a0,a1,a2,a3,a4,a5⟩,F,hk⟩
theorem Ov:Tryz.prog.cellsOf 264=4:=by kernel_rfl
theorem Lv:ed Tryz.prog 264 Y7:=by
 intro H enc w base spare held fuel cs y h;obtain⟨ys,n,_,_,hl,hyl,hf⟩:=DataW.trod_struct underlying264 h;rw[Ov]at hl;have hk:=
  aV (o:=0) (s:=1) (aZ underlying2) (hf 0 _ rfl) (ba hyl ae) rfl ac
  (aV (o := 1) (s := 1) (aZ underlying2) (hf 1 _ rfl) (ba hyl ae) rfl ac
  (aV (o := 2) (s := 1) (aZ underlying2) (hf 2 _ rfl) (ba hyl ae) rfl ac
  (cR (o:=3) (s:=1) (aZ underlying2) (hf 3 _ rfl) (ba hyl ae) rfl ac hl)))
 obtain⟨⟨a0,a1,a2,a3⟩,F,hk⟩:=hk;exact⟨⟨a0,a1,a2,a3⟩,F,hk⟩
theorem Hz:Tryz.prog.cellsOf 57=4:=by kernel_rfl
theorem uZ:ed Tryz.prog 57 Ym:=by
 intro H enc w base spare held fuel cs y h;obtain⟨ys,n,_,_,hl,hyl,hf⟩:=DataW.trod_struct underlying57 h;rw[Hz]at hl;have hk:=
  aV (o:=0) (s:=1) (aZ underlying2) (hf 0 _ rfl) (ba hyl ae) rfl ac
  (aV (o := 1) (s := 1) (d9 underlying54 ac IJ) (hf 1 _ rfl) (ba hyl ae) rfl ac
  (aV (o := 2) (s := 1) (d9 underlying55 ac Lv) (hf 2 _ rfl) (ba hyl ae) rfl ac
  (cR (o:=3) (s:=1) (aZ underlying2) (hf 3 _ rfl) (ba hyl ae) rfl ac hl)))
 obtain⟨⟨a0,a1,a2,a3⟩,F,hk⟩:=hk;exact⟨⟨a0,a1,a2,a3⟩,F,hk⟩
theorem Ox:Tryz.prog.cellsOf 216=3:=by kernel_rfl
theorem Lx:ed Tryz.prog 216 YQ:=by
 intro H enc w base spare held fuel cs y h;obtain⟨ys,n,_,_,hl,hyl,hf⟩:=DataW.trod_struct underlying216 h;rw[Ox]at hl;have hk:=
  aV (o:=0) (s:=1) (aZ underlying2) (hf 0 _ rfl) (ba hyl ae) rfl ac
  (aV (o := 1) (s := 1) (aZ underlying2) (hf 1 _ rfl) (ba hyl ae) rfl ac
  (cR (o:=2) (s:=1) (d9 underlying62 ac (aZ underlying2)) (hf 2 _ rfl) (ba hyl ae) rfl ac hl))
 obtain⟨⟨a0,a1,a2⟩,F,hk⟩:=hk;exact⟨⟨a0,a1,a2⟩,F,hk⟩
theorem L4:Tryz.prog.cellsOf 267=2:=by kernel_rfl
theorem IG:ed Tryz.prog 267 YU:=by
 intro H enc w base spare held fuel cs y h;obtain⟨ys,n,_,_,hl,hyl,hf⟩:=DataW.trod_struct underlying267 h;rw[L4]at hl;have hk:=
  aV (o:=0) (s:=1) (aZ underlying2) (hf 0 _ rfl) (ba hyl ae) rfl ac
  (cR (o:=1) (s:=1) (aZ underlying2) (hf 1 _ rfl) (ba hyl ae) rfl ac hl)
 obtain⟨⟨a0,a1⟩,F,hk⟩:=hk;exact⟨⟨a0,a1⟩,F,hk⟩
theorem Oy:Tryz.prog.cellsOf 61=2:=by kernel_rfl
theorem Ly:ed Tryz.prog 61 YR:=by
 intro H enc w base spare held fuel cs y h;obtain⟨ys,n,_,_,hl,hyl,hf⟩:=DataW.trod_struct underlying61 h;rw[Oy]at hl;have hk:=
  aV (o:=0) (s:=1) (d9 underlying58 ac Lx) (hf 0 _ rfl) (ba hyl ae) rfl ac
  (cR (o:=1) (s:=1) (d9 underlying59 ac IG) (hf 1 _ rfl) (ba hyl ae) rfl ac hl)
 obtain⟨⟨a0,a1⟩,F,hk⟩:=hk;exact⟨⟨a0,a1⟩,F,hk⟩
theorem Jh:Tryz.prog.cellsOf 65=73:=by kernel_rfl
theorem E8:ed Tryz.prog 65 YK:=by
 intro H enc w base spare held fuel cs y h;obtain⟨ys,n,_,_,hl,hyl,hf⟩:=DataW.trod_struct underlying65 h;rw[Jh]at hl;have hk:=
  aV (o:=0) (s:=19) Bp (hf 0 _ rfl) (ba hyl ae) rfl ac
  (aV (o := 19) (s := 12) E7 (hf 1 _ rfl) (ba hyl ae) rfl ac
  (aV (o := 31) (s := 15) wO (hf 2 _ rfl) (ba hyl ae) rfl ac
  (aV (o := 46) (s := 15) wO (hf 3 _ rfl) (ba hyl ae) rfl ac
  (aV (o := 61) (s := 4) uZ (hf 4 _ rfl) (ba hyl ae) rfl ac
  (aV (o := 65) (s := 4) uZ (hf 5 _ rfl) (ba hyl ae) rfl ac
  (aV (o := 69) (s := 2) Ly (hf 6 _ rfl) (ba hyl ae) rfl ac
  (aV (o := 71) (s := 1) (d9 underlying62 ac (aZ underlying2)) (hf 7 _ rfl) (ba hyl ae) rfl ac
  (cR (o:=72) (s:=1) (d9 underlying63 ac (u9 underlying4)) (hf 8 _ rfl) (ba hyl ae) rfl ac hl))))))))
 obtain⟨⟨a0,a1,a2,a3,a4,a5,a6,a7,a8⟩,F,hk⟩:=hk;exact⟨⟨a0,a1,a2,a3,a4,a5,a6,a7,a8⟩,F,hk⟩
structure dK (P:Nat->Prop) (w w':World):Prop where
 os:w'.os=w.os
 tape:w'.tape=w.tape
 output:w'.output=w.output
 size:w'.heap.size=w.heap.size
 block:∀b,¬P b->w'.heap[b]? =w.heap[b]?
section
variable {P P':Nat->Prop} {w w1 w':World}
theorem dK.refl(P:Nat->Prop)(w:World):dK P w w:=⟨rfl,rfl,rfl,rfl,λ_ _=>rfl⟩
theorem dK.trans(h:dK P w w1)(h':dK P w1 w'):dK P w w':=⟨h'.os.trans h.os,h'.tape.trans h.tape,h'.output.trans h.output,h'.size.trans h.size,λb hb=>(h'.block b hb).trans (h.block b hb)⟩
theorem dK.mono(h:dK P w w')(hp:∀b,P b->P' b):dK P' w w':=⟨h.os,h.tape,h.output,h.size,λb hb=>h.block b λhq=>hb (hp b hq)⟩
theorem dK.setCell{a:Addr}(ha:P a.block)(u:Value):dK P w (w.setCell a u):=⟨rfl,rfl,rfl,by simp[World.setCell],λb hb=>Below.heap_setCell _ _ _ _ (λe=>hb (e▸ha))⟩
theorem aaP{B:Nat}(h:dK P w w')(hp:∀b,P b->B<=b):Below B w w':=⟨h.os,h.tape,h.output,by rw[h.size];exact Nat.le_refl _,λk hk=>h.block k λhq=>by have:=hp k hq;omega⟩
end
theorem dF.set{w:World}{P:Nat->Prop}{x:List AD}{us:List Value}(h:dF w P x us){c:Nat}{u:Value}(h1:u.oneCell'=true):dF w P (x.set c (.pv u)) (us.set c u):=by
 obtain⟨l,Q,q,e,r⟩:=h;refine⟨by simp[l],Q,q,e,λi a y ha hy=>?_⟩;rw[List.getElem?_set]at ha hy;by_cases hi:c=i
 ·subst hi;simp only[if_true]at ha hy;split at ha
  ·split at hy
   ·injection ha with ha;injection hy with hy;subst ha hy;exact .pv _ _ h1
   ·cases hy
  ·cases ha
 ·rw[if_neg hi]at ha hy;exact r i a y ha hy
structure El (w0:World) (b o s:Nat) (Q:Nat->Prop) (w:World) (x:List AD) (us:List Value):Prop where
 len:us.length=s
 fam:dF w Q x us
 cell:∀(c:Nat) u,us[c]? =some u->w.cell? ⟨b,o+c,none⟩=some u
 oth:∀o',(o'<o\/o+s<=o')->w.cell? ⟨b,o',none⟩=w0.cell? ⟨b,o',none⟩
 row:∃cur cur' t,w0.heap[b]? =some (.cells cur t (0,0))/\w.heap[b]? =some (.cells cur' t (0,0))/\cur'.size=cur.size
 turn:dK (λg=>g=b\/Q g) w0 w
 nb:¬Q b
section
variable {w0 w:World} {b o s:Nat} {Q:Nat->Prop} {x:List AD} {us:List Value}
theorem El.frozen(h:El w0 b o s Q w x us)(o':Nat):w.frozen? ⟨b,o',none⟩=false:=by
 obtain⟨cur,cur',t,_,h2,_⟩:=h.row;simp[World.frozen?,h2]
theorem El.set(h:El w0 b o s Q w x us){c:Nat}(hc:c<s)(u:Value)(h1:u.oneCell'=true):El w0 b o s Q (w.setCell ⟨b,o+c,none⟩ u) (x.set c (.pv u)) (us.set c u):=by
 have hlt:c<us.length:=by rw[h.len];exact hc
 obtain⟨cur,cur',t,r1,r2,r3⟩:=h.row;refine⟨by simp[h.len],?_,λc' y hy=>?_,λo' ho=>?_,⟨cur,cur'.setIfInBounds (o+c) u,t,r1,by simp[World.setCell,Array.getElem?_modify,r2],by simp[r3]⟩,h.turn.trans (dK.setCell (.inl rfl) u),h.nb⟩
 ·exact dF.set (h.fam.keep λg hg=>Below.heap_setCell w ⟨b,o+c,none⟩ u g (λe=>h.nb (by have e2:g=b:=e;subst e2;exact hg))) h1
 ·rw[List.getElem?_set]at hy;by_cases hcc:c=c'
  ·subst hcc;rw[if_pos rfl,if_pos hlt]at hy;injection hy with hy
   subst hy;exact World.cell?_setCell_same _ _ _ (h.cell c _ (getElem?_eq_getElem hlt))
  ·rw[if_neg hcc]at hy;exact(World.cell?_setCell_other _ _ _ _ (by intro e;injection e;omega)).trans (h.cell c' y hy)
 ·exact(World.cell?_setCell_other _ _ _ _ (by intro e;injection e;omega)).trans (h.oth o' ho)
theorem El.sub(h:El w0 b o s Q w x us){c:Nat}{a:AD}{u:Value}(ha:x[c]? =some a)(hu:us[c]? =some u):
  ∃Qc,(∀g,Qc g->Q g)/\cf w Qc a u/\∀w' a',dK Qc w w'->cf w' Qc a' u->El w0 b o s Q w' (x.set c a') us:=by
 obtain⟨l,R,q,e,r⟩:=h.fam;refine⟨R c,q c,r c a u ha hu,λw' a' ht hr=>?_⟩;have hb:w'.heap[b]? =w.heap[b]? :=ht.block b λhq=>h.nb (q c b hq);have hcell:∀o',w'.cell? ⟨b,o',none⟩=w.cell? ⟨b,o',none⟩:=λo'=>World.cell?_of_block (a:=⟨b,o',none⟩) hb;obtain⟨cur,cur',t,r1,r2,r3⟩:=h.row;refine⟨h.len,⟨by simp[l],R,q,e,λi a2 y h1 h2=>?_⟩,λc' y hy=>(hcell _).trans (h.cell c' y hy),λo' ho=>(hcell _).trans (h.oth o' ho),⟨cur,cur',t,r1,hb.trans r2,r3⟩,h.turn.trans (ht.mono λg hg=> .inr (q c g hg)),h.nb⟩;rw[List.getElem?_set]at h1;by_cases hi:c=i
 ·subst hi;rw[hu]at h2;injection h2 with h2
  subst h2;rw[if_pos rfl]at h1;split at h1
  ·injection h1 with h1;subst h1;exact hr
  ·cases h1
 ·rw[if_neg hi]at h1;exact(r i a2 y h1 h2).keep λg hg=>ht.block g λhq=>hi (e _ _ g hq hg)
end
theorem cf.lens{w:World}{P:Nat->Prop}{xs:List (List AD)}{v:Value}(h:cf w P (.sl xs) v){j:Nat}{x:List AD}(hj:xs[j]? =some x):
  ∃(b off cap:Nat) (us:List Value) (Q:Nat->Prop),v= .slice (some ⟨b,off,none⟩) xs.length cap/\P b/\(∀g,Q g->P g)/\El w b (off+j*x.length) x.length Q w x us/\
   ∀w' x' us',El w b (off+j*x.length) x.length Q w' x' us'->cf w' P (.sl (xs.set j x')) v:=by
 have hjl:j<xs.length:=(List.getElem?_eq_some_iff.1 hj).1;cases h with
 |emp P A cap hm=>simp at hj
 |sl P xs e s us v R hs hl hx hu hown hb hQ hd hh=>
  have hxs:x.length=s:=hx x (List.mem_of_getElem? hj);have hju:j<us.length:=aa;have hus:us[j].length=s:=hu _ (List.getElem_mem hju);rcases hown.2 with⟨_,hn⟩|⟨g,cap,cur,rfl,_,hg,h1,h2,h3,h4⟩
  ·omega
  have hfl:us.flatten.length=us.length*s:=fb hu;have hcell:∀(i:Nat) y,us.flatten[i]? =some y->w.cell? ⟨g,i,none⟩=some y:=λi y hy=>mP hown rfl hy;rw[hxs];refine⟨g,0,cap,us[j],λb=>∃r,r<s/\R (j*s+r) b,rfl,(hb g rfl).1,λb ⟨r,_,hr⟩=>hQ _ b hr,⟨hus,⟨by rw[hus,hxs],λr b=>r<s/\R (j*s+r) b,λr b hr=>⟨r,hr⟩,λi i' b p q=>by have:=hd _ _ b p.2 q.2;omega,λr a y ha hy=>?_⟩,λc y hy=>?_,λ_ _=>rfl,⟨cur,cur,e,hg,hg,rfl⟩,dK.refl _ _,fun⟨r,_,hr⟩=>(hb g rfl).2 _ hr⟩,λw' x' us' hel=>?_⟩
  ·have hr:r<s:=by rw[<-hxs];exact(List.getElem?_eq_some_iff.1 ha).1
   exact(hh (j*s+r) a y (by rw[dz hx hj hr];exact ha) (by rw[dz hu (getElem?_eq_getElem hju) hr];exact hy)).mono λb hb=>⟨hr,hb⟩
  ·have hr:c<s:=by rw[<-hus];exact(List.getElem?_eq_some_iff.1 hy).1
   rw[Nat.zero_add];exact hcell _ _ (by rw[dz hu (getElem?_eq_getElem hju) hr];exact hy)
  ·obtain⟨c1,c2,t,r1,r2,r3⟩:=hel.row;rw[hg]at r1;injection r1 with r1
   injection r1 with e1 e2 e3
   subst e1 e2;obtain⟨lF,R',q',d',f'⟩:=hel.fam;have hx':x'.length=s:=by rw[<-lF,hel.len]
   have hx2:∀y∈xs.set j x',y.length=s:=λy hy=>by rcases List.mem_or_eq_of_mem_set hy with hy|rfl;exact hx y hy;exact hx'
   have hu2:∀y∈us.set j us',y.length=s:=λy hy=>by rcases List.mem_or_eq_of_mem_set hy with hy|rfl;exact hu y hy;exact hel.len
   have hl2:(us.set j us').flatten.length=us.length*s:=by rw[fb hu2,length_set]
   have hc2:∀i:Nat,i<us.length*s->w'.cell? ⟨g,i,none⟩=(us.set j us').flatten[i]? :=by
    intro i hi;have hdm:i=i/s*s+i % s:=(Nat.div_add_mod' i s).symm;have hr:i % s<s:=Nat.mod_lt _ hs;have hk:i/s<us.length:=Nat.div_lt_of_lt_mul (by rw[Nat.mul_comm];exact hi);by_cases hij:i/s=j
    ·have e1:(us.set j us')[i/s]? =some us':=by rw[hij];simp[hju]
     obtain⟨y,hy⟩:∃y,us'[i % s]? =some y:=⟨_,getElem?_eq_getElem (by rw[hel.len];exact hr)⟩;have h5:=hel.cell (i % s) y hy;rw[Nat.zero_add,<-hij,<-hdm]at h5;rw[h5];conv=>rhs;rw[hdm]
     rw[dz hu2 e1 hr,hy]
    ·have e1:(us.set j us')[i/s]? =some us[i/s]:=by rw[List.getElem?_set_ne (λe=>hij e.symm)];exact getElem?_eq_getElem hk
     have hne:i<0+j*s\/0+j*s+s<=i:=by
      rcases Nat.lt_or_gt_of_ne hij with h|h
      ·left;have:(i/s+1)*s<=j*s:=Nat.mul_le_mul_right s h;rw[Nat.add_mul]at this;omega
      ·right;have:(j+1)*s<=i/s*s:=Nat.mul_le_mul_right s h;rw[Nat.add_mul]at this;omega
     rw[hel.oth i hne];have h5:=hcell i us.flatten[i] (getElem?_eq_getElem (by rw[hfl];exact hi));rw[h5,<-getElem?_eq_getElem (by rw[hfl];exact hi)];conv=>lhs;rw[hdm]
     conv=>rhs;rw[hdm]
     rw[dz hu2 e1 hr,dz hu (getElem?_eq_getElem hk) hr]
   have hown':w'.ownsRow 0 e s (.slice (some ⟨g,0,none⟩) xs.length cap) (xs.set j x').length (us.set j us').flatten:=by
    refine⟨by rw[hl2,hl,length_set],.inr ⟨g,cap,c2,by rw[length_set],Nat.zero_le _,r2,by rw[length_set];exact h1,h2,by rw[r3];exact h3,?_⟩⟩;apply List.ext_getElem?;intro i;rw[List.getElem?_take,length_set];by_cases hi:i<xs.length*s
    ·rw[if_pos hi,<-hc2 i (by rw[hl];exact hi),cell_of_row w' g i c2 e (0,0) r2,Array.getElem?_toList]
    ·rw[if_neg hi,List.getElem?_eq_none (by rw[hl2,hl];omega)]
   have:=cf.sl (w:=w') P (xs.set j x') e s (us.set j us') (.slice (some ⟨g,0,none⟩) xs.length cap) (λi b=>if j*s<=i/\i<j*s+s then R' (i-j*s) b else R i b) hs (by simp[hl]) hx2 hu2 hown' ?_ ?_ ?_ ?_
   ·exact this
   ·intro b hbb;refine⟨(hb b hbb).1,λi hi=>?_⟩;split at hi
    ·obtain⟨r,_,hr⟩:=q' _ b hi;exact(hb b hbb).2 _ hr
    ·exact(hb b hbb).2 _ hi
   ·intro i b hi;split at hi
    ·obtain⟨r,_,hr⟩:=q' _ b hi;exact hQ _ b hr
    ·exact hQ _ b hi
   ·intro i i' b hi hi';split at hi<;>split at hi'
    ·have:=d' _ _ b hi hi';omega
    ·obtain⟨r,hr0,hr⟩:=q' _ b hi;have:=hd _ _ b hr hi';omega
    ·obtain⟨r,hr0,hr⟩:=q' _ b hi';have:=hd _ _ b hr hi;omega
    ·exact hd _ _ b hi hi'
   ·intro i a y ha hy;have hi:i<xs.length*s:=by
     have:=(List.getElem?_eq_some_iff.1 ha).1;rwa[fb hx2,length_set]at this
    have hdm:i=i/s*s+i % s:=(Nat.div_add_mod' i s).symm;have hr:i % s<s:=Nat.mod_lt _ hs;have hk:i/s<xs.length:=Nat.div_lt_of_lt_mul (by rw[Nat.mul_comm];exact hi);by_cases hij:i/s=j
    ·have e1:(us.set j us')[i/s]? =some us':=by rw[hij];simp[hju]
     have e2:(xs.set j x')[i/s]? =some x':=by rw[hij];simp[hjl]
     rw[hdm,dz hx2 e2 hr]at ha;rw[hdm,dz hu2 e1 hr]at hy;have hin:j*s<=i/\i<j*s+s:=by rw[<-hij];omega
     simp only[if_pos hin];rw[show i-j*s=i % s by rw[<-hij];omega];exact f' _ a y ha hy
    ·have hne:¬(j*s<=i/\i<j*s+s):=by
      rcases Nat.lt_or_gt_of_ne hij with h|h
      ·have:(i/s+1)*s<=j*s:=Nat.mul_le_mul_right s h;rw[Nat.add_mul]at this;omega
      ·have:(j+1)*s<=i/s*s:=Nat.mul_le_mul_right s h;rw[Nat.add_mul]at this;omega
     have e1:(us.set j us')[i/s]? =some us[i/s]:=by rw[List.getElem?_set_ne (λe=>hij e.symm)];exact getElem?_eq_getElem aa
     have e2:(xs.set j x')[i/s]? =some xs[i/s]:=by rw[List.getElem?_set_ne (λe=>hij e.symm)];exact getElem?_eq_getElem hk
     rw[hdm,dz hx2 e2 hr,<-dz hx (getElem?_eq_getElem hk) hr,<-hdm]at ha;rw[hdm,dz hu2 e1 hr,<-dz hu (getElem?_eq_getElem aa) hr,<-hdm]at hy;simp only[if_neg hne];refine(hh i a y ha hy).keep λb hRb=>hel.turn.block b ?_;rintro(rfl|⟨r,hr0,hr'⟩)
     ·exact(hb _ rfl).2 _ hRb
     ·have:=hd _ _ b hRb hr';omega
theorem cf.form{w:World}{P:Nat->Prop}{xs:List (List AD)}{v:Value}(h:cf w P (.sl xs) v):∃A cap,v= .slice A xs.length cap/\xs.length<=cap/\cap<=maxLen:=by
 cases h with
 |emp P A cap hm=>exact⟨A,cap,rfl,Nat.zero_le _,hm⟩
 |sl P xs e s us v Q hs hl hx hu hown hb hQ hd h=>
  rcases hown.2 with⟨hv,hn⟩|⟨g,cap,cur,hv,_,hg,h1,h2,h3,h4⟩
  ·exact⟨none,0,by rw[hv,hn],aa,Nat.zero_le _⟩
  ·exact⟨_,cap,hv,h1,h2⟩
def kI(k:Int)(P:Nat->Prop)(w:World)(G:World->Prop)(e:Ending)(w':World):Prop:=e= .returned (.int .i64 k)/\dK P w w'/\G w'
def mI(k:Int)(_:Int):Int:=k
def mB(k:Int)(_:Bool):Bool:=k % 3==0
def cI{α:Type}(_:α):Int:=1
section
variable {α:Type} {mk:Int->α->α} {cnt:α->Int}
def mkL(mk:Int->α->α)(cnt:α->Int):Int->List α->List α
 |_,[]=>[]
 |k,a::r=>mk k a::mkL mk cnt (k+cnt a) r
def aQ(cnt:α->Int):List α->Int
 |[]=>0
 |a::r=>cnt a+aQ cnt r
theorem dl:∀(l:List α) (k:Int),(mkL mk cnt k l).length=l.length
 |[],_=>rfl
 |a::r,k=>by simp[mkL,dl r]
theorem FK:∀(l:List α) (a:α),aQ cnt (l++[a])=aQ cnt l+cnt a
 |[],a=>by simp[aQ]
 |b::r,a=>by simp only[List.cons_append,aQ,FK r];omega
theorem Et{l:List α}{k:Nat}(hk:k<l.length):l.take (k+1)=l.take k++[l[k]]:=by rw[List.take_add_one,getElem?_eq_getElem hk];rfl
theorem bj{l:List α}{k:Nat}(hk:k<l.length):aQ cnt (l.take (k+1))=aQ cnt (l.take k)+cnt l[k]:=by
 rw[Et hk,FK]
theorem zP:∀(l l':List α),aQ cnt (l++l')=aQ cnt l+aQ cnt l'
 |[],l'=>by simp[aQ]
 |b::r,l'=>by simp only[List.cons_append,aQ,zP r];omega
theorem aO(h:∀a,0<=cnt a):∀(l:List α),0<=aQ cnt l
 |[]=>by simp[aQ]
 |b::r=>by have:=aO h r;have:=h b;simp only[aQ];omega
theorem bG(h:∀a,0<=cnt a)(l:List α)(k:Nat):aQ cnt (l.take k)<=aQ cnt l:=by
 have e:aQ cnt l=aQ cnt (l.take k)+aQ cnt (l.drop k):=by rw[<-zP,List.take_append_drop]
 have:=aO h (l.drop k);omega
theorem Kr:∀(l:List α) (a:α) (k:Int),mkL mk cnt k (l++[a])=mkL mk cnt k l++[mk (k+aQ cnt l) a]
 |[],a,k=>by simp[mkL,aQ]
 |b::r,a,k=>by simp only[List.cons_append,mkL,Kr r,aQ];rw[Int.add_assoc]
theorem NH:∀(l:List α) (k0:Int) {k:Nat} (hk:k<l.length),(mkL mk cnt k0 l)[k]'(by rw[dl];exact hk)=mk (k0+aQ cnt (l.take k)) l[k]
 |[],_,k,hk=>absurd hk (Nat.not_lt_zero _)
 |a::r,k0,0,_=>by simp[mkL,aQ]
 |a::r,k0,k+1,hk=>by
  have:=NH r (k0+cnt a) (k:=k) (by simpa using hk);simp only[mkL,List.getElem_cons_succ,List.take_succ_cons,aQ];rw[this,Int.add_assoc]
def mkP(mk:Int->α->α)(cnt:α->Int)(k0:Int)(j:Nat)(l:List α):List α:=mkL mk cnt k0 (l.take j)++l.drop j
theorem gR(k0:Int)(l:List α):mkP mk cnt k0 0 l=l:=by simp[mkP,mkL]
theorem jc(k0:Int)(l:List α):mkP mk cnt k0 l.length l=mkL mk cnt k0 l:=by simp[mkP]
theorem kY{β:Type}(f:α->β)(k0:Int){j:Nat}{l:List α}(hj:j<l.length):((mkP mk cnt k0 j l).map f)[j]? =some (f l[j]):=by
 rw[List.getElem?_map];simp only[mkP];rw[List.getElem?_append_right (by rw[dl,List.length_take];omega),dl,List.length_take,List.getElem?_drop];rw[show j+(j-min j l.length)=j by omega,getElem?_eq_getElem hj];rfl
theorem gQ{β:Type}(f:α->β)(k0:Int){j:Nat}{l:List α}(hj:j<l.length):((mkP mk cnt k0 j l).map f).set j (f (mk (k0+aQ cnt (l.take j)) l[j]))=(mkP mk cnt k0 (j+1) l).map f:=by
 have hl:(mkL mk cnt k0 (l.take j)).length=j:=by rw[dl,List.length_take];omega
 rw[<-List.map_set];congr 1;unfold mkP;rw[List.set_append_right _ _ aa,hl,Nat.sub_self,Et hj,Kr,List.append_assoc];congr 1;rw[List.drop_eq_getElem_cons hj];rfl
end
end
section
theorem hH{α:Type}(a:α):0<=(cI a:Int):=by unfold cI;omega
theorem bJ{α:Type}{us:List α}{n:Nat}(h:us.length=n+1):∃u r,us=u::r/\r.length=n:=by
 cases us with
 |nil=>simp at h
 |cons u r=>exact⟨u,r,rfl,by simpa using h⟩
theorem i7{α:Type}{us:List α}(h:us.length=0):us=[]:=List.eq_nil_of_length_eq_zero h
def gP(k:Int)(y:(List Int)):(List Int):=mkL mI cI k y
def bm(y:(List Int)):Int:=aQ cI y
theorem fP(y:(List Int)):0<=bm y:=aO hH y
def ic(k:Int)(x:DWrite):DWrite:=⟨k,mkL mI cI (k+1) x.row⟩
def bu(x:DWrite):Int:=1+aQ cI x.row
theorem fO(x:DWrite):0<=bu x:=by
 unfold bu;have:=aO hH x.row;omega
def iE(k:Int)(x:DMark):DMark:=⟨k,k+1,k+1+1⟩
def bk(x:DMark):Int:=3
theorem fg(x:DMark):0<=bk x:=by
 unfold bk;omega
def ib(k:Int)(x:DEntry):DEntry:=⟨k,k+1,k+1+1,k+1+1+1,⟨k+1+1+1+1,k+1+1+1+1+1,k+1+1+1+1+1+1,k+1+1+1+1+1+1+1,k+1+1+1+1+1+1+1+1⟩⟩
def bA(x:DEntry):Int:=9
theorem fN(x:DEntry):0<=bA x:=by
 unfold bA;omega
def lX(k:Int)(x:DAck):DAck:=⟨k,k+1,k+1+1,k+1+1+1⟩
def co(x:DAck):Int:=4
theorem it(x:DAck):0<=co x:=by
 unfold co;omega
def ja(k:Int)(x:DPair):DPair:=⟨k,k+1⟩
def bB(x:DPair):Int:=2
theorem gG(x:DPair):0<=bB x:=by
 unfold bB;omega
def l0(k:Int)(x:DJob):DJob:=⟨k,k+1,k+1+1,k+1+1+1,k+1+1+1+1⟩
def ct(x:DJob):Int:=5
theorem iy(x:DJob):0<=ct x:=by
 unfold ct;omega
def lY(k:Int)(x:DDue):DDue:=⟨k,k+1⟩
def cp(x:DDue):Int:=2
theorem iu(x:DDue):0<=cp x:=by
 unfold cp;omega
def jb(k:Int)(x:DWant):DWant:=⟨k,⟨k+1,k+1+1,k+1+1+1,k+1+1+1+1,k+1+1+1+1+1⟩,k+1+1+1+1+1+1⟩
def bC(x:DWant):Int:=7
theorem gH(x:DWant):0<=bC x:=by
 unfold bC;omega
def lZ(k:Int)(x:DGot):DGot:=⟨k,k+1,k+1+1,k+1+1+1⟩
def cq(x:DGot):Int:=4
theorem iw(x:DGot):0<=cq x:=by
 unfold cq;omega
def kW(k:Int)(x:DMsg):DMsg:=⟨k,k+1,mkL mI cI (k+1+1) x.row⟩
def bS(x:DMsg):Int:=2+aQ cI x.row
theorem iz(x:DMsg):0<=bS x:=by
 unfold bS;have:=aO hH x.row;omega
def jF(k:Int)(x:DLink):DLink:=⟨k,k+1⟩
def bQ(x:DLink):Int:=2
theorem gF(x:DLink):0<=bQ x:=by
 unfold bQ;omega
end
section
structure SmR {α:Type} (R:Rep α) (p:α->Prop):Prop where
 h:∀{w cs a F},R.rd w cs a F->p a
theorem SmR.any{α:Type}{R:Rep α}:SmR R λ_=>True:=⟨λ_=>trivial⟩
theorem XP{α β:Type}{R:Rep α}{S:Rep β}{p:α->Prop}{q:β->Prop}(h1:SmR R p)(h2:SmR S q):SmR (XH R S) λx=>p x.1/\q x.2:=by
 refine⟨?_⟩;rintro w cs a F ⟨c1,c2,F1,F2,_,_,g1,g2⟩;exact⟨h1.h g1,h2.h g2⟩
theorem aaM{α β:Type}{R:Rep α}{f:β->α}{p:α->Prop}(h:SmR R p):SmR (XY f R) λx=>p (f x):=⟨λhr=>h.h hr⟩
theorem SmR.all{α:Type}{R:Rep α}{p:α->Prop}(h:SmR R p){w:World}:∀{l:List α} {xs:List Value} {F:List Nat},R.all w xs l F->∀y∈l,p y
 |[],_,_,_,y,hy=>by cases hy
 |a::l,_,_,⟨c1,c2,F1,F2,_,_,h1,h2⟩,y,hy=>by
  rcases List.mem_cons.1 hy with rfl|hy
  ·exact h.h h1
  ·exact SmR.all h h2 y hy
theorem SmR.sl{α:Type}{R:Rep α}{p:α->Prop}(h:SmR R p):SmR (Rep.sl R) λl=>l.length<=9223372036854775807/\∀y∈l,p y:=by
 refine⟨?_⟩;rintro w cs l F ⟨A,cap,xs,F1,_,hc,hm,_,hall,_⟩;have:maxLen<=9223372036854775807:=ae;exact⟨aa,SmR.all h hall⟩
theorem SmR.mono{α:Type}{R:Rep α}{p q:α->Prop}(h:SmR R p)(hq:∀a,p a->q a):SmR R q:=⟨λhr=>hq _ (h.h hr)⟩
theorem Yl{α β:Type}{R:Rep β}{S:Rep α}{f:β->α}{p:α->Prop}{q:β->Prop}(h:SmR S p)(e:R=XY f S)(hq:∀a,p (f a)->q a):SmR R q:=by subst e;exact(aaM h).mono hq
theorem Pk:SmR Yy (X0 9223372036854775807):=Yl (XP SmR.any (SmR.sl SmR.any)) rfl λx h=>h.2.1
theorem En:SmR Yr (XV 9223372036854775807):=Yl (XP (SmR.sl (SmR.sl SmR.any)) (SmR.sl Pk)) rfl λx h=>⟨h.1.1,λy hy=>(h.1.2 y hy).1,h.2.1,h.2.2⟩
theorem SL:SmR YS (X8 9223372036854775807):=Yl (XP En En) rfl λx h=>h
theorem Lf:SmR Yv (XW 9223372036854775807):=Yl (XP SmR.any (XP SmR.any (XP SmR.any (SmR.sl SmR.any)))) rfl λx h=>h.2.2.2.1
theorem Rh:SmR YE (X5 9223372036854775807):=Yl (XP SmR.any (XP SmR.any (SmR.sl SmR.any))) rfl λx h=>h.2.2.1
theorem Lg:SmR Yp (XT 9223372036854775807):=Yl (XP SL (XP Lf (XP Lf (XP SmR.any (XP Rh (XP (SmR.sl SmR.any) (XP SmR.any (SmR.sl SmR.any)))))))) rfl λx h=>⟨h.1,h.2.1,h.2.2.1,h.2.2.2.2.1,h.2.2.2.2.2.1.1,h.2.2.2.2.2.2.2.1⟩
theorem Ph:SmR Yw (X1 9223372036854775807):=Yl (XP SmR.any (XP SmR.any (XP (SmR.sl SmR.any) (XP (SmR.sl SmR.any) SmR.any)))) rfl λx h=>⟨h.2.2.1.1,h.2.2.2.1.1⟩
theorem Pi:SmR Yx (X3 9223372036854775807):=Yl (XP En (XP Ph SmR.any)) rfl λx h=>⟨h.1,h.2.1⟩
theorem Ri:SmR YF (Ya 9223372036854775807):=Yl (XP SmR.any (XP SmR.any (XP SmR.any (XP SmR.any (XP SmR.any (SmR.sl SmR.any)))))) rfl λx h=>h.2.2.2.2.2.1
theorem Rj:SmR YH (X6 9223372036854775807):=Yl Ri rfl λx h=>h
theorem GV:SmR Ys (XZ 9223372036854775807):=Yl (XP SmR.any (XP SmR.any (XP Rj SmR.any))) rfl λx h=>h.2.2.1
theorem Em:SmR Ym (XU 9223372036854775807):=Yl (XP SmR.any (XP (SmR.sl SmR.any) (XP (SmR.sl SmR.any) SmR.any))) rfl λx h=>⟨h.2.1.1,h.2.2.1.1⟩
theorem SJ:SmR YQ (X4 9223372036854775807):=Yl (XP SmR.any (XP SmR.any (SmR.sl SmR.any))) rfl λx h=>h.2.2.1
theorem SK:SmR YR (Yf 9223372036854775807):=Yl (XP (SmR.sl SJ) (SmR.sl SmR.any)) rfl λx h=>⟨h.1.1,h.1.2,h.2.1⟩
theorem Pj:SmR YK (XO 9223372036854775807):=Yl (XP Lg (XP Pi (XP GV (XP GV (XP Em (XP Em (XP SK (XP (SmR.sl SmR.any) (SmR.sl SmR.any))))))))) rfl λx h=>⟨h.1,h.2.1,h.2.2.1,h.2.2.2.1,h.2.2.2.2.1,h.2.2.2.2.2.1,h.2.2.2.2.2.2.1,h.2.2.2.2.2.2.2.1.1,h.2.2.2.2.2.2.2.2.1⟩
end
end
end Go.Proofs.YtpdmakdpnejnfaaGreat
