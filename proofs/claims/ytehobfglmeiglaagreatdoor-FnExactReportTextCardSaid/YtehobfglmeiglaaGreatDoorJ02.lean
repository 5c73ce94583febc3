/- J02 -/
import Derived.Test.YtehobfglmeiglaaGreatDoorAvJ3
set_option linter.unusedVariables false
set_option linter.unusedSimpArgs false
set_option maxRecDepth 100000
namespace Go.Proofs.YtehobfglmeiglaaGreatDoor
open Go.RowKit
structure Cps {α:Type} (F:(α->Prop)->Prop):Prop where
 mono:∀{P Q:α->Prop},(∀x,P x->Q x)->F P->F Q
 dj:∀{K:α->Prop},F K->∃x,K x/\F (· =x)
section
variable {α β γ:Type}
theorem Cps.ret(x:α):Cps λK:α->Prop=>K x:=⟨λh hp=>h x hp,λh=>⟨x,h,rfl⟩⟩
theorem Cps.no:Cps λ_:α->Prop=>False:=⟨λ_ h=>h,λh=>h.elim⟩
theorem Cps.bind{G:(β->Prop)->Prop}{H:β->(α->Prop)->Prop}(hg:Cps G)(hh:∀y,Cps (H y)):Cps λK=>G λy=>H y K:=
 ⟨λh hp=>hg.mono (λy=>(hh y).mono h) hp,λhk=>by
  obtain⟨y,hy,g⟩:=hg.dj hk
  obtain⟨x,hx,e⟩:=(hh y).dj hy
  exact⟨x,hx,hg.mono (λy' e'=>by subst e';exact e) g⟩⟩
theorem Cps.map{G:(β->Prop)->Prop}(hg:Cps G)(f:β->α):Cps λK=>G λy=>K (f y):=hg.bind λy=>Cps.ret (f y)
theorem Cps.and{F:(α->Prop)->Prop}(p:Prop)(hf:Cps F):Cps λK=>p/\F K:=
 ⟨λh hp=>⟨hp.1,hf.mono h hp.2⟩,λhk=>by obtain⟨x,hx,e⟩:=hf.dj hk.2;exact⟨x,hx,hk.1,e⟩⟩
theorem Cps.ex{F:β->(α->Prop)->Prop}(hf:∀y,Cps (F y)):Cps λK=>∃y,F y K:=
 ⟨λh ⟨y,hp⟩=>⟨y,(hf y).mono h hp⟩,fun⟨y,hk⟩=>by obtain⟨x,hx,e⟩:=(hf y).dj hk;exact⟨x,hx,y,e⟩⟩
theorem Cps.ab{F G:(α->Prop)->Prop}(p:Bool)(hf:Cps F)(hg:Cps G):Cps λK=>AB p (F K) (G K):=by
 cases p with
 |true=>exact⟨λh hp=>AB.tt (hf.mono h (hp.t rfl)),λhk=>by obtain⟨x,hx,e⟩:=hf.dj (hk.t rfl);exact⟨x,hx,AB.tt e⟩⟩
 |false=>exact⟨λh hp=>AB.ff (hg.mono h (hp.f rfl)),λhk=>by obtain⟨x,hx,e⟩:=hg.dj (hk.f rfl);exact⟨x,hx,AB.ff e⟩⟩
theorem Cps.aw(k:IntKind)(n:Int){F:Int->(α->Prop)->Prop}(hf:∀c,Cps (F c)):Cps λK=>AW k n λc=>F c K:=
 ⟨λh ⟨⟨c,e,hp⟩⟩=>⟨⟨c,e,(hf c).mono h hp⟩⟩,fun⟨⟨c,e,hk⟩⟩=>by obtain⟨x,hx,g⟩:=(hf c).dj hk;exact⟨x,hx,⟨⟨c,e,g⟩⟩⟩⟩
theorem Cps.aix(xs:List (List AD))(n:Int){F:Nat->List AD->(α->Prop)->Prop}(hf:∀k x,Cps (F k x)):Cps λK=>AIx xs n λk x=>F k x K:=
 ⟨λh ⟨⟨k,x,e1,e2,hp⟩⟩=>⟨⟨k,x,e1,e2,(hf k x).mono h hp⟩⟩,fun⟨⟨k,x,e1,e2,hk⟩⟩=>by obtain⟨y,hy,g⟩:=(hf k x).dj hk;exact⟨y,hy,⟨⟨k,x,e1,e2,g⟩⟩⟩⟩
theorem Cps.of{F G:(α->Prop)->Prop}(h:∀K,F K=G K)(hg:Cps G):Cps F:=by
 have:F=G:=funext h
 rw[this];exact hg
end
section
variable {E:aO} {st:ASt}
theorem BQ:∀(l:List AV) (n:Nat),Cps (aTm l n)
 |[],_=>Cps.no
 |x::_,0=>Cps.ret x
 |_::r,n+1=>BQ r n
theorem rJ:∀(l:List (Nat×AO)) (i:Nat),Cps (aOb l i)
 |[],_=>Cps.no
 |(k,o)::r,i=>by
  refine Cps.of (G:=λK=>match Nat.beq k i with|true=>K o|false=>aOb r i K) (λK=>rfl) ?_
  cases Nat.beq k i with
  |true=>exact Cps.ret o
  |false=>exact rJ r i
theorem lJ{α:Type}:∀(l:List α) (n:Nat),Cps (oe l n)
 |[],_=>Cps.no
 |x::_,0=>Cps.ret x
 |_::r,n+1=>lJ r n
theorem iD{α:Type}:∀(l:List α) (n:Nat),Cps (qA l n)
 |l,0=>by refine Cps.of (G:=λK=>K l) (λK=>by cases l<;>rfl) (Cps.ret l)
 |[],n+1=>Cps.no
 |_::r,n+1=>iD r n
theorem vo{α:Type}:∀(n:Nat) (l:List α),Cps (BP l n)
 |0,l=>by refine Cps.of (G:=λK=>K []) (λK=>by cases l<;>rfl) (Cps.ret [])
 |n+1,[]=>Cps.no
 |n+1,x::r=>(vo n r).map λr'=>x::r'
theorem mR:∀(l:List AD),Cps (sq l)
 |[]=>Cps.ret []
 |x::r=>(mR r).map λr'=>AC.d x::r'
theorem bB(T:TT)(t:TypeId):Cps (aTI T t):=by
 unfold aTI
 cases T.get t with
 |some i=>exact Cps.ret i
 |none=>exact Cps.no
theorem sr(v:Value):Cps (w7 v):=Cps.of (G:=λK=>K (ofC v)) (λK=>by unfold w7 ofC;split<;>rfl) (Cps.ret _)
theorem su:∀l:List Value,Cps (Cx l)
 |[]=>Cps.ret []
 |v::r=>(sr v).bind λc=>(su r).map λr'=>c::r'
theorem bt(x:Operand):Cps (aEv st x):=by
 cases x with
 |tmp t=>exact BQ _ _
 |const v=>
  by_cases hv:∃cs,v= .agg cs
  ·obtain⟨cs,rfl⟩:=hv
   exact(su cs.toList).map AV.agg
  ·have key:∀K,aEv st (.const v) K=w7 v λc=>K (AV.one c):=λK=>by
    cases v<;>first|rfl|exact absurd ⟨_,rfl⟩ hv
   exact Cps.of key ((sr v).map AV.one)
 |func f=>exact Cps.ret _
 |global g=>exact Cps.no
theorem oN:∀xs:List Operand,Cps (w3 st xs)
 |[]=>Cps.ret []
 |x::r=>(bt x).bind λv=>(oN r).map λr'=>v::r'
theorem oV(i:TI)(cs:List AC):Cps (sJ i cs):=by
 unfold sJ
 cases i.agg with
 |true=>exact(vo _ _).map AV.agg
 |false=>
  cases cs with
  |nil=>exact Cps.no
  |cons c r=>exact Cps.ret _
theorem oU:∀l:List AC,Cps (yl l)
 |[]=>Cps.ret []
 |c::r=>by
  cases c with
  |d x=>exact(oU r).map λr'=>x::r'
  |nil=>exact(oU r).map λr'=>AD.sl []::r'
  |_=>exact Cps.no
theorem Cu(op:BinOp)(k:IntKind)(a b:Int):Cps (ya op k a b):=by
 cases op with
 |add=>exact Cps.aw _ _ λc=>Cps.ret _
 |sub=>exact Cps.aw _ _ λc=>Cps.ret _
 |mul=>exact Cps.aw _ _ λc=>Cps.ret _
 |quo=>exact Cps.and _ (Cps.aw _ _ λc=>Cps.ret _)
 |rem=>exact Cps.and _ (Cps.ret _)
 |shr=>
  refine Cps.of (G:=λK=>match decide (0<=b)with|true=>K (vI k (H9 k a b))|false=>False) (λK=>rfl) ?_
  cases decide (0<=b)with
  |true=>exact Cps.ret _
  |false=>exact Cps.no
 |_=>first|exact Cps.ret _|exact Cps.no
theorem vn(op:BinOp)(a b:ByteArray):Cps (BO op a b):=by
 cases op with
 |add=>exact Cps.and _ (Cps.ret _)
 |_=>first|exact Cps.ret _|exact Cps.no
theorem Al(op:BinOp)(a b:Bool):Cps (wY op a b):=by
 cases op with
 |_=>first|exact Cps.ret _|exact Cps.no
theorem vk(op:BinOp)(k k':IntKind)(a b:Int):Cps (λK=>match w9 k k' with|true=>ya op k a b K|false=>False):=by
 cases w9 k k' with
 |true=>exact Cu ..
 |false=>exact Cps.no
theorem r8(op:BinOp)(t:TypeId)(a b:Bool):Cps (λK=>aTI E.T t λi=>match i.kind with| .bool=>wY op a b K|_=>False):=
 (bB _ _).bind λi=>by
  cases i.kind with
  |bool=>exact Al ..
  |_=>exact Cps.no
theorem DP{α:Type}(f:AV->α)(op:BinOp)(t:TypeId)(x y:AV){F:(α->Prop)->Prop}(hF:Cps F):Cps λK=>Co E op t x y (F K) λv=>K (f v):=by
 refine⟨fun{P Q} hpq h=>?_,fun{K} h=>?_⟩<;>unfold Co at h⊢<;>split at h
 all_goals first
  |exact hF.mono hpq h
  |exact hF.dj h
  |exact((vk ..).map f).mono hpq h
  |exact((vk ..).map f).dj h
  |exact((vn ..).map f).mono hpq h
  |exact((vn ..).map f).dj h
  |exact((r8 ..).map f).mono hpq h
  |exact((r8 ..).map f).dj h
theorem rY{α:Type}(f:AV->α)(o:Oper):Cps λK=>il E o st λv=>K (f v):=
 ⟨λhpq h=>by obtain⟨v,hk,hr⟩:=h.h;exact⟨v,hpq _ hk,hr⟩,λh=>by obtain⟨v,hk,hr⟩:=h.h;exact⟨_,hk,⟨v,rfl,hr⟩⟩⟩
theorem FB(op:UnOp)(x:AV):Cps (aUn op x False):=by
 refine⟨fun{P Q} hpq h=>?_,fun{K} h=>?_⟩<;>unfold aUn at h⊢<;>split at h
 all_goals first
  |exact h.elim
  |exact(Cps.ret _).mono hpq h
  |exact(Cps.ret _).dj h
  |exact(Cps.aw _ _ λc=>Cps.ret _).mono hpq h
  |exact(Cps.aw _ _ λc=>Cps.ret _).dj h
theorem dz{α:Type}(b:Bool){F:(α->Prop)->Prop}(hf:Cps F):Cps λK=>match(generalizing:=false) b with|true=>F K|false=>False:=by
 cases b with
 |true=>exact hf
 |false=>exact Cps.no
theorem Cs(s d:TypeId)(x:AV):Cps (uY E s d x False):=by
 refine⟨fun{P Q} hpq h=>?_,fun{K} h=>?_⟩<;>unfold uY at h⊢<;>split at h
 all_goals first
  |exact h.elim
  |skip
 ·rename_i k n
  exact((bB E.T s).bind λ_=>(bB E.T d).bind (H:=λi K=>match i.kind with| .int k=>AW k n λc=>K (vI k c)|_=>False) λi=>by
   cases i.kind with
   |int k=>exact Cps.aw _ _ λc=>Cps.ret _
   |_=>exact Cps.no).mono hpq h
 ·rename_i k n
  exact((bB E.T s).bind λ_=>(bB E.T d).bind (H:=λi K=>match i.kind with| .int k=>AW k n λc=>K (vI k c)|_=>False) λi=>by
   cases i.kind with
   |int k=>exact Cps.aw _ _ λc=>Cps.ret _
   |_=>exact Cps.no).dj h
theorem sh(t:TypeId)(x:AV)(f:Nat):Cps (gu E t x f):=by
 unfold gu
 refine(bB _ _).bind λi=>?_
 cases i.kind with
 |st fs=>
  refine(lJ _ _).bind λp=>(bB _ _).bind λj=>?_
  cases j.size with
  |zero=>exact Cps.no
  |succ n=>
   cases x with
   |one c=>
    cases c with
    |ref id k s off=>exact Cps.ret _
    |ptr cs=>exact(iD _ _).bind λr=>Cps.ret _
    |_=>exact Cps.no
   |_=>exact Cps.no
 |_=>exact Cps.no
theorem Cw(t:TypeId)(x:AV):Cps (oQ E st t x):=by
 unfold oQ
 refine(bB _ _).bind λi=>?_
 cases x with
 |one c=>
  cases c with
  |ref id k s off=>
   refine(rJ _ _).bind λo=>?_
   cases o with
   |cells u cs=>
    cases k with
    |zero=>exact(iD _ _).bind λr=>oV _ _
    |succ k=>exact Cps.no
   |row e s' xs=>exact dz _ (Cps.aix _ _ λ_ x=>(iD _ _).bind λr=>(mR _).bind λr=>oV _ _)
   |frame vs us=>exact Cps.no
   |any Q=>exact Cps.no
   |many P Q=>exact Cps.no
  |ptr cs=>exact(mR _).bind λcs=>oV _ _
  |_=>exact Cps.no
 |_=>exact Cps.no
theorem jp(x:AV):Cps (gr x):=by
 cases x with
 |one c=>exact dz _ (Cps.ret _)
 |agg cs=>exact dz _ (Cps.ret _)
 |tup vs=>exact Cps.no
theorem vq(z:Value):Cps (oW z):=by
 by_cases hv:∃cs,z= .agg cs
 ·obtain⟨cs,rfl⟩:=hv
  exact(su cs.toList).bind λl=>dz _ (Cps.ret _)
 ·have key:∀K,oW z K=w7 z λc=>match eg [c]with|true=>K [c]|false=>False:=λK=>by
   cases z<;>first|rfl|exact absurd ⟨_,rfl⟩ hv
  exact Cps.of key ((sr z).bind λc=>dz _ (Cps.ret _))
theorem fH:∀(l:List AC) (n:Nat) (xs:List AC),Cps (ga l n xs)
 |l,0,[]=>by refine Cps.of (G:=λK=>K l) (λK=>by cases l<;>rfl) (Cps.ret l)
 |_::r,0,x::xs=>(fH r 0 xs).map λr'=>x::r'
 |c::r,n+1,xs=>by
  refine Cps.of (G:=λK=>ga r n xs λr'=>K (c::r')) (λK=>by cases xs<;>rfl) ((fH r n xs).map λr'=>c::r')
 |[],0,_::_=>Cps.no
 |[],_+1,[]=>Cps.no
 |[],_+1,_::_=>Cps.no
theorem p7{place:Nat->(Nat×Nat->Prop)->Prop}(hp:∀n,Cps (place n)):∀(ps:List (Nat×Operand)) (l:List AC),Cps (xX st place ps l)
 |[],l=>Cps.ret l
 |(i,x)::r,l=>(hp i).bind λp=>(bt x).bind λv=>(jp v).bind λvs=>dz _ ((fH _ _ _).bind λl'=>p7 hp r l')
theorem qE:∀fs:List (Nat×TypeId),Cps (rK E fs)
 |[]=>Cps.ret []
 |p::r=>(bB _ _).bind λj=>(qE r).map λq=>(p.1,j.size)::q
theorem Am(t:TypeId)(ps:List (Nat×Operand)):Cps (sc E st t ps):=by
 unfold sc
 refine(bB _ _).bind λi=>(vq _).bind λz=>?_
 cases i.kind with
 |st fs=>exact(qE _).bind λplaces=>(p7 (λn=>lJ _ _) _ _).bind λl=>Cps.ret _
 |arr n e=>exact(bB _ _).bind λj=>(p7 (λn=>Cps.ret _) _ _).bind λl=>Cps.ret _
 |_=>exact Cps.no
theorem se(s:Nat):∀(ps:List (Nat×Operand)) (a n:Nat),Cps (fU st s ps a n)
 |[],a,n=>dz _ (Cps.ret [])
 |(i,x)::r,a,n=>dz _ ((bt x).bind λv=>(jp v).bind λvs=>dz _ ((oU _).bind λds=>(se s r (a+1) n).map λr'=>ds::r'))
theorem Az(x:AV):Cps (lK st x):=by
 cases x with
 |one c=>
  cases c with
  |nil=>exact Cps.ret _
  |d x=>
   cases x with
   |sl xs=>exact Cps.ret _
   |pv v=>exact Cps.no
   |x R=>exact Cps.no
  |own id=>
   refine(rJ _ _).bind λo=>?_
   cases o with
   |row _ _ xs=>exact Cps.ret _
   |_=>exact Cps.no
  |_=>exact Cps.no
 |_=>exact Cps.no
theorem DS(t:TypeId)(x:AV):Cps (As E st t x False):=by
 have rest:Cps λK:AV->Prop=>aTI E.T t λi=>match i.kind with| .sl _=>lK st x λxs=>K (vI .i64 xs.length)|_=>False:=
  (bB _ _).bind λi=>by
   cases i.kind with
   |sl e=>exact(Az _).bind λxs=>Cps.ret _
   |_=>exact Cps.no
 by_cases hs:∃s,x= .one (.d (.pv (.string s)))
 ·obtain⟨s,rfl⟩:=hs
  exact(bB E.T t).bind (H:=λi K=>match i.kind with| .str=>K (vI .i64 s.size)|_=>False) λi=>by
   cases i.kind with
   |str=>exact Cps.ret _
   |_=>exact Cps.no
 ·refine Cps.of (λK=>?_) rest
  unfold As
  split
  ·exact absurd ⟨_,rfl⟩ hs
  ·rfl
theorem si(t:TypeId)(x i:AV):Cps (fm E st t x i):=by
 refine⟨fun{P Q} hpq h=>?_,fun{K} h=>?_⟩<;>unfold fm at h⊢<;>split at h
 all_goals first
  |exact h.elim
  |skip
 all_goals
  rename_i k n
  have key:Cps λK:AV->Prop=>aTI E.T t λti=>match ti.kind with
   | .sl e=>aTI E.T e λj=>match j.size with
    |0=>False
    |s+1=>match(generalizing:=false) x with
     | .one (.d (.sl xs))=>AIx xs n λ_ x=>match BL x (s+1)with
      |true=>K (.one (.ptr x))
      |false=>False
     | .one (.own id)=>aOb st.ob id λo=>match o with
      | .row _ s' xs=>match Nat.beq (s+1) s' with
       |true=>AIx xs n λk _=>K (.one (.ref id k (s+1) 0))
       |false=>False
      |_=>False
     |_=>False
   |_=>False:=(bB _ _).bind λti=>by
    cases ti.kind with
    |sl e=>
     refine(bB _ _).bind λj=>?_
     cases j.size with
     |zero=>exact Cps.no
     |succ s=>
      cases x with
      |one c=>
       cases c with
       |d x=>
        cases x with
        |sl xs=>exact Cps.aix _ _ λ_ x=>dz _ (Cps.ret _)
        |pv v=>exact Cps.no
        |x R=>exact Cps.no
       |own id=>
        refine(rJ _ _).bind λo=>?_
        cases o with
        |row e' s' xs=>exact dz _ (Cps.aix _ _ λk _=>Cps.ret _)
        |_=>exact Cps.no
       |_=>exact Cps.no
      |_=>exact Cps.no
    |_=>exact Cps.no
  first
   |exact key.mono hpq h
   |exact key.dj h
theorem Ap(t:TypeId)(x i:AV):Cps (qd E t x i False):=by
 refine⟨fun{P Q} hpq h=>?_,fun{K} h=>?_⟩<;>unfold qd at h⊢<;>split at h
 all_goals first
  |exact h.elim
  |skip
 all_goals
  rename_i s k n
  have key:Cps λK:AV->Prop=>aTI E.T t λti=>match ti.kind with
   | .str=>∃(k:Nat) (b:UInt8),n=(k:Int)/\s[k]? =some b/\K (vI .u8 b.toNat)
   |_=>False:=(bB _ _).bind λti=>by
    cases ti.kind with
    |str=>exact Cps.ex λk=>Cps.ex λb=>Cps.and _ (Cps.and _ (Cps.ret _))
    |_=>exact Cps.no
  first
   |exact key.mono hpq h
   |exact key.dj h
theorem sa(x:Option Operand):Cps (r9 st x):=by
 cases x with
 |none=>exact Cps.ret none
 |some x=>
  refine(bt x).bind λv=>?_
  refine⟨fun{P Q} hpq h=>?_,fun{K} h=>?_⟩<;>split at h
  all_goals first
   |exact h.elim
   |exact hpq _ h
   |exact⟨_,h,rfl⟩
theorem oM{α:Type}(len:Nat)(lo hi:Option Int){F:Nat->Nat->(α->Prop)->Prop}(hf:∀l h,Cps (F l h)):Cps λK=>H4 len lo hi λl h=>F l h K:=
 Cps.ex λl=>Cps.ex λh=>Cps.and _ (Cps.and _ (Cps.and _ (Cps.and _ (hf l h))))
theorem yi(x:AV)(lo hi:Option Int)(i:TI):Cps λK=>oS E x lo hi False K i:=by
 refine⟨fun{P Q} hpq h=>?_,fun{K} h=>?_⟩<;>unfold oS at h⊢<;>split at h
 all_goals first
  |exact h.elim
  |skip
 ·rename_i s
  revert h
  cases i.kind with
  |str=>exact(oM s.size lo hi λl h=>Cps.ret (vS (s.extract l h))).mono hpq
  |_=>exact λh=>h.elim
 ·rename_i xs
  revert h
  cases i.kind with
  |sl e=>exact((bB E.T e).bind λj=>oM xs.length lo hi λl h=>Cps.and _ (Cps.ret (AV.one (.d (.sl ((xs.take h).drop l)))))).mono hpq
  |_=>exact λh=>h.elim
 ·rename_i s
  revert h
  cases i.kind with
  |str=>exact(oM s.size lo hi λl h=>Cps.ret (vS (s.extract l h))).dj
  |_=>exact λh=>h.elim
 ·rename_i xs
  revert h
  cases i.kind with
  |sl e=>exact((bB E.T e).bind λj=>oM xs.length lo hi λl h=>Cps.and _ (Cps.ret (AV.one (.d (.sl ((xs.take h).drop l)))))).dj
  |_=>exact λh=>h.elim
theorem AE(t:TypeId)(x:AV)(lo hi:Option Operand):Cps (sI E st t x lo hi False):=
 (sa lo).bind λlo=>(sa hi).bind λhi=>(bB _ _).bind λi=>yi x lo hi i
theorem An(t:TypeId)(x:AV)(f:Nat):Cps (sg E t x f):=by
 cases x with
 |agg cs=>
  refine(bB E.T t).bind (H:=λi K=>match i.kind with| .st fs=>oe fs f λp=>aTI E.T p.2 λj=>qA cs p.1 λr=>sJ j r K|_=>False) λi=>?_
  cases i.kind with
  |st fs=>exact(lJ _ _).bind λp=>(bB _ _).bind λj=>(iD _ _).bind λr=>oV _ _
  |_=>exact Cps.no
 |_=>exact Cps.no
theorem rX(ob:List (Nat×AO))(f:FuncId)(args:List AV):Cps (ac E ob f args):=
 ⟨λhpq h=>by obtain⟨ps,res,h1,h2,h3⟩:=h.h;exact⟨⟨ps,res,h1,h2,hpq _ h3⟩⟩,λh=>by obtain⟨ps,res,h1,h2,h3⟩:=h.h;exact⟨_,h3,⟨⟨ps,res,h1,h2,rfl⟩⟩⟩⟩
theorem uZ(d:Option Tmp)(t:TypeId)(cs:List AC):Cps λK:AV×Option AO->Prop=>xW d t cs λv oo=>K (v,oo):=by
 cases d with
 |none=>exact Cps.no
 |some d=>exact dz _ (Cps.ret ((.one (.ref d 0 0 0),some (.cells t cs)):AV×Option AO))
theorem Cp{α:Type}(v:AV){F G:(α->Prop)->Prop}(hf:Cps F)(hg:Cps G):Cps λK=>oL v (F K) (G K):=by
 refine⟨fun{P Q} hpq h=>?_,fun{K} h=>?_⟩<;>unfold oL at h⊢<;>split at h
 all_goals first
  |exact h.elim
  |exact(Cps.ab _ hf hg).mono hpq h
  |exact(Cps.ab _ hf hg).dj h
theorem Cps.v{G:(AV->Prop)->Prop}(h:Cps G):Cps λK:AV×Option AO->Prop=>G λv=>K (v,none):=h.map λv=>(v,none)
theorem vr(o:Oper):Cps λK:AV×Option AO->Prop=>fJ E o st λv oo=>K (v,oo):=by
 obtain⟨dst,op,ty,pos,g,af⟩:=o
 cases op with
 |move x=>exact(bt x).v
 |assign x=>exact(bt x).v
 |pick c a b=>exact(bt c).bind λc=>Cp c (bt a).v (bt b).v
 |binOp op t x y z=>exact(bt x).bind λx=>(bt y).bind λy=>DP (λv=>((v,none):AV×Option AO)) op t x y (rY (λv=>((v,none):AV×Option AO)) _)
 |unOp op t x=>exact(bt x).bind λx=>(FB op x).v
 |convert s d x=>exact(bt x).bind λx=>(Cs s d x).v
 |fieldAddr t x f=>exact(bt x).bind λx=>(sh t x f).v
 |load t x=>exact(bt x).bind λx=>(Cw t x).v
 |build t ps=>exact(Am t ps.toList).v
 |buildSlice t n ps=>
  refine (bB E.T t).bind (H := fun i K => match i.kind with
   | .sl e=>aTI E.T e λj=>match j.size with
    |0=>False
    |s+1=>match Nat.ble (n*(s+1)) 16777216 with
     |true=>fU st (s+1) ps.toList 0 n λxs=>K ((.one (.d (.sl xs)),none):AV×Option AO)
     |false=>False
   |_=>False) λi=>?_
  cases i.kind with
  |sl e=>
   refine(bB _ _).bind λj=>?_
   cases j.size with
   |zero=>exact Cps.no
   |succ s=>exact dz _ ((se _ _ _ _).bind λxs=>Cps.ret _)
  |_=>exact Cps.no
 |box t x=>exact(bt x).bind λx=>(jp x).bind λcs=>uZ dst t cs
 |alloc t=>exact(bB E.T t).bind λi=>(vq _).bind λcs=>uZ dst t cs
 |slice t x lo hi m=>
  cases m with
  |none=>exact(bt x).bind λx=>(AE t x lo hi).v
  |some m=>exact rY (λv=>((v,none):AV×Option AO)) _
 |indexAddr t x i=>exact(bt x).bind λx=>(bt i).bind λi=>(si t x i).v
 |index t x i=>exact(bt x).bind λx=>(bt i).bind λi=>(Ap t x i).v
 |field t x f=>exact(bt x).bind λx=>(An t x f).v
 |extract x i=>
  refine(bt x).bind (H:=λx K=>match x with| .tup vs=>oe vs i λv=>K ((v,none):AV×Option AO)|_=>False) λx=>?_
  cases x with
  |tup vs=>exact(lJ vs i).v
  |_=>exact Cps.no
 |nilCheck x=>
  refine (bt x).bind (H := fun x K => match x with
   | .one (.ref i k s off)=>K ((.one (.ref i k s off),none):AV×Option AO)
   | .one (.ptr cs)=>K (.one (.ptr cs),none)
   |_=>False) λx=>?_
  cases x with
  |one c=>
   cases c with
   |ref i k s off=>exact Cps.ret _
   |ptr cs=>exact Cps.ret _
   |_=>exact Cps.no
  |_=>exact Cps.no
 |call c=>
  obtain⟨cl,args,ts⟩:=c
  cases cl with
  |builtin b=>
   cases b with
   |len=>
    refine(oN args.toList).bind (H:=λvs K=>match ts.toList,vs with|t::_,[x]=>As E st t x False λv=>K ((v,none):AV×Option AO)|_,_=>False) λvs=>?_
    cases ts.toList with
    |nil=>exact Cps.no
    |cons t r=>
     match vs with
     |[]=>exact Cps.no
     |[x]=>exact(DS t x).v
     |_::_::_=>exact Cps.no
   |_=>exact Cps.no
  |value f=>
   refine (bt f).bind (H := fun f K => match f with
    | .one (.d (.pv (.func (.func f) first caps)))=>match first.toList,caps.toList with
     |[],[]=>w3 st args.toList λargs=>ac E st.ob f args λr=>K ((r,none):AV×Option AO)
     |_,_=>False
    |_=>False) λf=>?_
   refine⟨fun{P Q} hpq h=>?_,fun{K} h=>?_⟩<;>split at h
   all_goals first
    |exact h.elim
    |skip
   all_goals
    revert h
    rename_i f first caps
    cases first.toList with
    |cons _ _=>exact λh=>h.elim
    |nil=>
     cases caps.toList with
     |cons _ _=>exact λh=>h.elim
     |nil=>
      first
       |exact((oN args.toList).bind λvs=>(rX st.ob f vs).v).mono hpq
       |exact((oN args.toList).bind λvs=>(rX st.ob f vs).v).dj
  |_=>exact Cps.no
 |_=>exact rY (λv=>((v,none):AV×Option AO)) _
end
theorem vt{E:aO}(he:E.Ok){S:ba}{o:Oper}{P:ASt}{K:AV->Option AO->Prop}(h:fJ E o P K):∃v oo,gN E S o P v oo/\K v oo:=by
 obtain⟨⟨v,oo⟩,hk,e⟩:=(vr (E:=E) (st:=P) o).dj (K:=λp=>K p.1 p.2) h
 have e2:fJ E o P λv' oo'=>v'=v/\oo'=oo:=(vr (E:=E) (st:=P) o).mono (P:=λp=>p=(v,oo)) (Q:=λp=>p.1=v/\p.2=oo) (λp hp=>by subst hp;exact⟨rfl,rfl⟩) e
 exact⟨v,oo,sX he e2,hk⟩
end Go.Proofs.YtehobfglmeiglaaGreatDoor
namespace Go.Proofs.YtehobfglmeiglaaGreatDoor
open Go.RowKit
def gv{α:Type}:List α->Nat->α->(List α->Prop)->Prop
 |[],_,_,K=>K []
 |_::r,0,x,K=>K (x::r)
 |y::r,i+1,x,K=>gv r i x λr'=>K (y::r')
theorem eq{α:Type}:∀{l:List α} {i:Nat} {x:α} {K:List α->Prop},gv l i x K->K (l.set i x)
 |[],_,_,_,h=>h
 |_::_,0,_,_,h=>h
 |y::r,i+1,x,K,h=>eq (l:=r) (K:=λr'=>K (y::r')) h
theorem sy{v:AV}{P Q:List AV->Prop}(h:∀l,P l->Q l):∀{l:List AV} {n:Nat},gP l n v P->gP l n v Q
 |[],_,hp=>hp.elim
 |_::r,0,hp=>h _ hp
 |x::r,n+1,hp=>sy (P:=λr'=>P (x::r')) (Q:=λr'=>Q (x::r')) (λl=>h _) (l:=r) (n:=n) hp
def Au:List Nat->List Oper->List (AV×Option AO)->List AV->(List AV->List (Nat×AO)->Prop)->Prop
 |_,[],_,tm,K=>K tm []
 |[],_::_,_,_,_=>False
 |_::_,_::_,[],_,_=>False
 |f::fs,o::ops,r::R,tm,K=>match f with
  |0=>Au fs ops R tm K
  |1=>match o.dst with
   |none=>False
   |some d=>match r with
    |(v,oo)=>gP tm d v λtm=>match oo with
     |none=>Au fs ops R tm K
     |some x=>Au fs ops R tm λtm obs=>K tm ((d,x)::obs)
  |_+2=>match o.dst with
   |none=>False
   |some d=>gP tm d (.one .dead) λtm=>Au fs ops R tm K
theorem oR{fl:Nat->Nat}:∀(ops:List Oper) (R:List (AV×Option AO)) (j:Nat) (tm:List AV) (K:List AV->List (Nat×AO)->Prop),Au ((List.range' j ops.length).map fl) ops R tm K->aMk fl ops R j tm K
 |[],R,j,tm,K,h=>by cases R<;>exact h
 |_::_,[],j,tm,K,h=>by rw[List.length_cons,List.range'_succ]at h;exact h.elim
 |o::ops,r::R,j,tm,K,h=>by
  rw[List.length_cons,List.range'_succ,List.map_cons]at h
  unfold Au at h
  unfold aMk
  cases hf:fl j with
  |zero=>rw[hf]at h;exact oR ops R (j+1) tm K h
  |succ n=>
   rw[hf]at h
   cases hd:o.dst with
   |none=>rw[hd]at h;cases n<;>exact h.elim
   |some d=>
    rw[hd]at h
    cases n with
    |zero=>
     obtain⟨v,oo⟩:=r
     refine sy ?_ h
     intro tm' h2
     cases oo with
     |none=>exact oR ops R (j+1) tm' K h2
     |some x=>exact oR ops R (j+1) tm' _ h2
    |succ n=>exact sy (λtm' h2=>oR ops R (j+1) tm' K h2) h
def lH(fs:List Nat)(pre:List Oper)(R:List (AV×Option AO))(st:ASt)(K:ASt->Prop):Prop:=
 match st with
 |⟨tm,ob⟩=>Au fs pre R tm λtm obs=>DO obs ob λob=>K ⟨tm,ob⟩
theorem qC{D:List (List Nat)}{pre:List Oper}{R:List (AV×Option AO)}{i:Nat}{st:ASt}{K:ASt->Prop}(h:lH ((List.range pre.length).map (flP D i)) pre R st K):u3 D pre R i st K:=by
 obtain⟨tm,ob⟩:=st
 rw[List.range_eq_range']at h
 exact oR pre R 0 tm _ h
def cf(E:aO)(pre:List Oper)(st:ASt):List Oper->List (List Nat)->Nat->List (AV×Option AO)->(List (AV×Option AO)->Prop)->Prop
 |[],_,_,R,K=>K R
 |_::_,[],_,_,_=>False
 |o::ops,fs::FL,i,R,K=>match o.guard with
  |none=>lH fs pre R st λP=>fJ E o P λv oo=>gv R i (v,oo) λR=>cf E pre st ops FL (i+1) R K
  |some (g,want)=>oe fs g λf=>match f with
   |1=>oe R g λrg=>match rg.1 with
    | .one (.d (.pv (.bool p)))=>AB p
     (match want with
      |true=>lH fs pre R st λP=>fJ E o P λv oo=>gv R i (v,oo) λR=>cf E pre st ops FL (i+1) R K
      |false=>gv R i (.one .und,none) λR=>cf E pre st ops FL (i+1) R K)
     (match want with
      |true=>gv R i (.one .und,none) λR=>cf E pre st ops FL (i+1) R K
      |false=>lH fs pre R st λP=>fJ E o P λv oo=>gv R i (v,oo) λR=>cf E pre st ops FL (i+1) R K)
    | .one .und=>gv R i (.one .und,none) λR=>cf E pre st ops FL (i+1) R K
    |_=>False
   |_=>False
section
variable {E:aO} {S:ba} {ops:List Oper} {D:List (List Nat)} {n0:Nat} {st:ASt}
theorem fh{R:List (AV×Option AO)}{i j:Nat}{x:AV×Option AO}(h:j≠i):vAt (R.set i x) j=vAt R j:=by
 unfold vAt
 rw[List.getD_eq_getElem?_getD,List.getD_eq_getElem?_getD,List.getElem?_set_ne (λe=>h e.symm)]
theorem hE{R:List (AV×Option AO)}{i j:Nat}{x:AV×Option AO}(h:j≠i):oAt (R.set i x) j=oAt R j:=by
 unfold oAt
 rw[List.getD_eq_getElem?_getD,List.getD_eq_getElem?_getD,List.getElem?_set_ne (λe=>h e.symm)]
theorem kr{R:List (AV×Option AO)}{i:Nat}{x:AV×Option AO}(h:i<R.length):vAt (R.set i x) i=x.1:=by
 unfold vAt
 rw[List.getD_eq_getElem?_getD,List.getElem?_set_self h];rfl
theorem iw{R:List (AV×Option AO)}{i:Nat}{x:AV×Option AO}(h:i<R.length):oAt (R.set i x) i=x.2:=by
 unfold oAt
 rw[List.getD_eq_getElem?_getD,List.getElem?_set_self h];rfl
theorem pY{R R':List (AV×Option AO)}{i:Nat}(h:∀j,inD D j i=true->vAt R j=vAt R' j/\oAt R j=oAt R' j):stP ops D R n0 st i=stP ops D R' n0 st i:=by
 have e1:(List.range n0).filterMap (upP ops D R i)=(List.range n0).filterMap (upP ops D R' i):=m0 λj _=>by
  unfold upP
  cases hj:inD D j i with
  |true=>simp[(h j hj).1]
  |false=>simp
 have e2:(List.range n0).filterMap (obF ops R λj=>inD D j i)=(List.range n0).filterMap (obF ops R' λj=>inD D j i):=m0 λj _=>by
  unfold obF
  cases hj:inD D j i with
  |true=>simp[(h j hj).2]
  |false=>simp[hj]
 simp only[stP,e1,e2]
theorem Be(T:nJ ops D n0){i j:Nat}(hi:i<ops.length)(h:inD D j i=true):j<i:=by
 have:=fL T (lf:=λj=>decide (j<i)) (λk hk e he=>?_) (i:=i) (λe he=>?_) h
 ·simpa using this
 ·have hki:k<i:=by simpa using hk
  rw[bc (List.getElem?_eq_getElem (by omega:k<ops.length))]at he
  have:=T.edge k _ (List.getElem?_eq_getElem Mo) _ he
  simp;omega
 ·rw[bc (List.getElem?_eq_getElem hi)]at he
  have:=T.edge i _ (List.getElem?_eq_getElem hi) _ he
  simpa using this
theorem dn.keep(T:nJ ops D n0){R:List (AV×Option AO)}{i k:Nat}{o:Oper}{x:AV×Option AO}(hi:i<k)(hil:i<ops.length)(h:dn E S D R n0 (stP ops D R n0 st i) i o):dn E S D (R.set k x) n0 (stP ops D (R.set k x) n0 st i) i o:=by
 have hlt:∀j,inD D j i=true->j≠k:=λj hj e=>by have:=Be T hil hj;omega
 have e:stP ops D (R.set k x) n0 st i=stP ops D R n0 st i:=pY λj hj=>⟨fh (hlt j hj),hE (hlt j hj)⟩
 have e1:vAt (R.set k x) i=vAt R i:=fh Mo
 have e2:oAt (R.set k x) i=oAt R i:=hE Mo
 unfold dn at h⊢
 rw[e,e1,e2]
 cases hg:o.guard with
 |none=>rw[hg]at h;exact h
 |some gw=>
  obtain⟨g,want⟩:=gw
  rw[hg]at h
  obtain⟨h1,h2,h3⟩:=h
  refine⟨h1,h2,?_⟩
  rw[fh (hlt g h2)]
  exact h3
theorem qL{D:List (List Nat)}{i j:Nat}(h:flP D i j=1):inD D j i=true:=by
 unfold flP at h
 split at h
 ·assumption
 ·split at h
  ·cases h
  ·split at h<;>cases h
theorem vA(he:E.Ok)(T:nJ ops D n0){K:List (AV×Option AO)->Prop}:∀(rest:List Oper) (i:Nat) (R:List (AV×Option AO)),(∀k,(ops.take n0)[i+k]? =rest[k]?)->R.length=n0->
  (∀j o,j<i->ops[j]? =some o->dn E S D R n0 (stP ops D R n0 st j) j o)->cf E (ops.take n0) st rest ((List.range' i rest.length).map λi=>(List.range n0).map (flP D i)) i R K->∃RA,K RA/\∀j o,j<n0->ops[j]? =some o->dn E S D RA n0 (stP ops D RA n0 st j) j o
 |[],i,R,hr,hl,hf,h=>by
  refine⟨R,h,λj o hj ho=>hf j o ?_ ho⟩
  have:=hr 0
  simp only[Nat.add_zero,List.getElem?_nil]at this
  have h2:=List.getElem?_eq_none_iff.1 this
  have:=T.le
  simp at h2
  omega
 |o::rest,i,R,hr,hl,hf,h=>by
  have h0:=hr 0
  simp only[Nat.add_zero,List.getElem?_cons_zero]at h0
  have hi:i<n0:=by
   have:=(List.getElem?_eq_some_iff.1 h0).1
   simp at this
   omega
  have hio:ops[i]? =some o:=by
   rw[List.getElem?_take,if_pos hi]at h0
   exact h0
  have hil:i<ops.length:=(List.getElem?_eq_some_iff.1 hio).1
  have hr':∀k,(ops.take n0)[i+1+k]? =rest[k]? :=λk=>by
   have:=hr (k+1)
   rw[show i+1+k=i+(k+1)by omega]
   simpa using this
  have next:∀x:AV×Option AO,cf E (ops.take n0) st rest ((List.range' (i+1) rest.length).map λi=>(List.range n0).map (flP D i)) (i+1) (R.set i x) K->dn E S D (R.set i x) n0 (stP ops D (R.set i x) n0 st i) i o->∃RA,K RA/\∀j o,j<n0->ops[j]? =some o->dn E S D RA n0 (stP ops D RA n0 st j) j o:=λx hk hd=>
   vA he T rest (i+1) (R.set i x) hr' (by simpa using hl) (λj o' hj ho'=>by
    rcases Nat.lt_succ_iff_lt_or_eq.1 hj with hj|hj
    ·exact(hf j o' hj ho').keep T hj Mo
    ·subst hj
     rw[hio]at ho'
     injection ho' with ho'
     subst ho'
     exact hd) hk
  have eP:∀x:AV×Option AO,stP ops D (R.set i x) n0 st i=stP ops D R n0 st i:=λx=>pY λj hj=>by
   have:=Be T hil hj
   exact⟨fh Mo,hE Mo⟩
  have free:(lH ((List.range n0).map (flP D i)) (ops.take n0) R st λP=>fJ E o P λv oo=>gv R i (v,oo) λR=>cf E (ops.take n0) st rest ((List.range' (i+1) rest.length).map λi=>(List.range n0).map (flP D i)) (i+1) R K)->∃x:AV×Option AO,gN E S o (stP ops D R n0 st i) x.1 x.2/\cf E (ops.take n0) st rest ((List.range' (i+1) rest.length).map λi=>(List.range n0).map (flP D i)) (i+1) (R.set i x) K:=λh=>by
   have hlen:(ops.take n0).length=n0:=by have:=T.le;simp;omega
   have h1:=p9 T.le (qC (by rw[hlen];exact h))
   obtain⟨v,oo,h2,h3⟩:=vt he h1
   exact⟨(v,oo),h2,eq h3⟩
  rw[List.length_cons,List.range'_succ,List.map_cons]at h
  unfold cf at h
  cases hg:o.guard with
  |none=>
   rw[hg]at h
   obtain⟨x,hx,hk⟩:=free h
   refine next x hk ?_
   unfold dn
   rw[hg,eP,kr Mo,iw Mo]
   exact hx
  |some gw=>
   obtain⟨g,want⟩:=gw
   rw[hg]at h
   obtain⟨f,hf1,h3⟩:=dq h
   have hf0:f=flP D i g:=by
    rw[List.getElem?_map]at hf1
    obtain⟨g',hg',rfl⟩:=Option.map_eq_some_iff.1 hf1
    have:=List.getElem?_eq_some_iff.1 hg'
    obtain⟨_,e⟩:=this
    simp at e
    rw[e]
   split at h3
   case h_2=>exact h3.elim
   have h1:inD D g i=true:=qL hf0.symm
   obtain⟨rg,hrg,h3⟩:=dq h3
   have hgi:=Be T hil h1
   have hvg:∀x:AV×Option AO,vAt (R.set i x) g=rg.1:=λx=>by
    rw[fh Mo]
    unfold vAt
    rw[List.getD_eq_getElem?_getD,hrg];rfl
   split at h3
   ·rename_i p hp
    have run:(p=want)->(lH ((List.range n0).map (flP D i)) (ops.take n0) R st λP=>fJ E o P λv oo=>gv R i (v,oo) λR=>cf E (ops.take n0) st rest ((List.range' (i+1) rest.length).map λi=>(List.range n0).map (flP D i)) (i+1) R K)->∃RA,K RA/\∀j o,j<n0->ops[j]? =some o->dn E S D RA n0 (stP ops D RA n0 st j) j o:=λe h=>by
     obtain⟨x,hx,hk⟩:=free h
     refine next x hk ?_
     unfold dn
     rw[hg,eP,kr Mo,iw Mo]
     exact⟨by omega,h1,.inl ⟨p,by rw[hvg,hp],.inl ⟨e,hx⟩⟩⟩
    have skip:(p≠want)->(gv R i (.one .und,none) λR=>cf E (ops.take n0) st rest ((List.range' (i+1) rest.length).map λi=>(List.range n0).map (flP D i)) (i+1) R K)->∃RA,K RA/\∀j o,j<n0->ops[j]? =some o->dn E S D RA n0 (stP ops D RA n0 st j) j o:=λe h=>by
     refine next (.one .und,none) (eq h) ?_
     unfold dn
     rw[hg,eP,kr Mo,iw Mo]
     exact⟨by omega,h1,.inl ⟨p,by rw[hvg,hp],.inr ⟨e,rfl,rfl⟩⟩⟩
    cases p with
    |true=>
     have h:=h3.t rfl
     cases want with
     |true=>exact run rfl h
     |false=>exact skip Mr h
    |false=>
     have h:=h3.f rfl
     cases want with
     |true=>exact skip Mr h
     |false=>exact run rfl h
   ·rename_i hp
    refine next (.one .und,none) (eq h3) ?_
    unfold dn
    rw[hg,eP,kr Mo,iw Mo]
    exact⟨by omega,h1,.inr ⟨by rw[hvg,hp],rfl,rfl⟩⟩
   ·exact h3.elim
end
theorem AWP.drawF{E:aO}(he:E.Ok){S:ba}{ops:Array Oper}{K:Exit->ASt->Prop}{id:Nat}{st:ASt}(n0:Nat)(D:List (List Nat))(R:List (AV×Option AO))(T:nJ ops.toList D n0)(F:n9 E S ops.toList D R n0 st)
  (ht:lE (ops.toList.take n0) R st λst=>nz E S ops.toList (ops.toList.drop n0) st (K .normal)):AWP E S (.region id ops true) K st:=by
 refine⟨λa w hs=>wp_region_any he.mixed ?_⟩
 have hg:w.grownBy {w with drawn:=w.drawn+1} none:=⟨rfl,rfl,rfl,Nat.le_refl _,λb hb _=>rfl⟩
 refine CP (Q:=λe a' w'=>∃st',cR E.W S st' a' w'/\K e st') he T F (λa w h=>h) ht ops.size (Array.replicate ops.size false) a _ Mr (λj _=>?_) (λj hj=>?_) ?_ ?_
 ·simp[bw,Array.getD_eq_getD_getElem?,Array.getElem?_replicate]
  split<;>rfl
 ·exfalso
  simp[bw,Array.getD_eq_getD_getElem?,Array.getElem?_replicate]at hj
  split at hj<;>simp at hj
 ·have:∀(lf:Nat->Bool) n,nA lf n<=n:=λlf n=>by
   induction n with
   |zero=>exact Nat.le_refl _
   |succ n ih=>simp only[nA];split<;>omega
  exact this _ _
 ·obtain⟨Z,ρ,hs⟩:=hs
  have e:stS ops.toList R n0 st (bw (Array.replicate ops.size false))=st:=by
   have e1:∀j,bw (Array.replicate ops.size false) j=false:=λj=>by
    simp[bw,Array.getD_eq_getD_getElem?,Array.getElem?_replicate]
    split<;>rfl
   have e2:(List.range n0).filterMap (upS ops.toList R (bw (Array.replicate ops.size false)))=[]:=by
    rw[List.filterMap_eq_nil_iff];intro j _;simp[upS,e1]
   have e3:(List.range n0).filterMap (obF ops.toList R (bw (Array.replicate ops.size false)))=[]:=by
    rw[List.filterMap_eq_nil_iff];intro j _;simp[obF,e1]
   simp[stS,e2,e3,eK]
  rw[e]
  exact⟨Z,ρ,hs.grow hg (λ_ h=>h) λ_ h=> .inl h⟩
def unq:Nat->Nat->List Nat
 |0,_=>[]
 |n+1,x=>match Nat.beq x 0 with
  |true=>[]
  |false=>(x % 64-1)::unq n (x/64)
def bk:List Nat->List (List Nat)
 |[]=>[]
 |x::r=>unq 64 x::bk r
def unp:Nat->Nat->List Nat
 |0,_=>[]
 |n+1,x=>(x % 3)::unp n (x/3)
def bj(n:Nat):List Nat->List (List Nat)
 |[]=>[]
 |x::r=>unp n x::bj n r
theorem AWP.drawK{E:aO}(he:E.Ok){S:ba}{ops:Array Oper}{K:Exit->ASt->Prop}(id:Nat){st:ASt}(n0:Nat)(D FL:List (List Nat))(hD:gy [] ops.toList=D)(hok:A2 ops.toList D n0=true)(hfl:((List.range n0).map λi=>(List.range n0).map (flP D i))=FL)(hl:xx ops.toList n0 st.tm.length=true)
  (h:cf E (ops.toList.take n0) st (ops.toList.take n0) FL 0 (List.replicate n0 (.one .dead,none)) λR=>noB ops.toList D R n0 st=true/\lE (ops.toList.take n0) R st λst=>nz E S ops.toList (ops.toList.drop n0) st (K .normal)):AWP E S (.region id ops true) K st:=by
 have T:=yz hD hok
 have hlen:(ops.toList.take n0).length=n0:=by have:=T.le;simp at*;omega
 subst hfl
 have e:((List.range n0).map λi=>(List.range n0).map (flP D i))=((List.range' 0 (ops.toList.take n0).length).map λi=>(List.range n0).map (flP D i)):=by rw[hlen,<-List.range_eq_range']
 rw[e]at h
 obtain⟨R,⟨hno,ht⟩,hf⟩:=vA (S:=S) he T (ops.toList.take n0) 0 (List.replicate n0 (.one .dead,none)) (λk=>by simp) Mr (λj o hj=>absurd hj (Nat.not_lt_zero _)) h
 exact AWP.drawF he n0 D R T ⟨FG T hl hno,hf⟩ ht
end Go.Proofs.YtehobfglmeiglaaGreatDoor
namespace Go.Proofs.YtehobfglmeiglaaGreatDoor
open Go.RowKit
theorem yg{i:Nat}{o:AO}:∀{l:List (Nat×AO)} {K:List (Nat×AO)->Prop},K (dG l i o)->dN i o l K
 |[],_,h=>h
 |(k,x)::r,K,h=>by
  simp only[dN]
  unfold dG at h
  cases e:Nat.beq k i with
  |true=>rw[if_pos (Nat.eq_of_beq_eq_true e)]at h;exact h
  |false=>rw[if_neg (Nat.ne_of_beq_eq_false e)]at h;exact yg (l:=r) (K:=λr'=>K ((k,x)::r')) h
theorem AF{K:AV->Prop}:∀{l:List AV} {n:Nat} {x:AV},l[n]? =some x->K x->aTm l n K
 |[],n,x,h,_=>by simp at h
 |y::r,0,x,h,hk=>by simp at h;subst h;exact hk
 |y::r,n+1,x,h,hk=>AF (l:=r) (n:=n) (by simpa using h) hk
theorem yj{E:aO}{tm:List AV}{ob:List (Nat×AO)}{t:TypeId}{c k s off:Nat}{vv:AV}{o0 o1:AO}(hob:aJ ob c=some o0)(h:im E ⟨[],[(c,o0)]⟩ t (.one (.ref c k s off)) vv λst=>st=⟨[],[(c,o1)]⟩):
  im E ⟨tm,ob⟩ t (.one (.ref c k s off)) vv λst=>st=⟨tm,dG ob c o1⟩:=by
 have fin:∀X:AO,(dN c X [(c,o0)] λob=>(⟨[],ob⟩:ASt)=⟨[],[(c,o1)]⟩)->dN c X ob λob'=>(⟨tm,ob'⟩:ASt)=⟨tm,dG ob c o1⟩:=λX hX=>by
  have h1:=cG hX
  simp only[dG,if_true,ASt.mk.injEq,List.cons.injEq,Prod.mk.injEq,true_and,and_true]at h1
  subst h1
  exact yg rfl
 unfold im at h⊢
 refine(bB E.T t).mono (λi h=>(jp vv).mono (λvs h=>?_) h) h
 cases hl:qe vs i.size with
 |false=>rw[hl]at h;exact h
 |true=>
  rw[hl]at h
  obtain⟨o,ho,hk⟩:=bY (l:=[(c,o0)]) (i:=c) h
  have:o=o0:=by simp only[aJ,if_true,Option.some.injEq]at ho;exact ho.symm
  subst this
  refine w6 hob ?_
  cases o with
  |cells u cs=>
   cases k with
   |zero=>exact(fH cs off vs).mono (λcs' h=>fin _ h) hk
   |succ k=>exact hk
  |row e s' xs=>
   cases hs:Nat.beq s s' with
   |false=>simp only[hs]at hk
   |true=>
    simp only[hs]at hk⊢
    obtain⟨k',x,e1,e2,hk⟩:=hk.h
    exact⟨⟨k',x,e1,e2,(mR x).mono (λx h=>(fH x off vs).mono (λx' h=>(oU x').mono (λx' h=>fin _ h) h) h) hk⟩⟩
  |frame vs us=>exact hk
  |any Q=>exact hk
  |many P Q=>exact hk
structure ed (ops:List Oper) (D:List (List Nat)) (m:Nat):Prop where
 hD:gy [] ops=D
 lt:m<ops.length
 nd:((List.range m).map (dAt ops)).Nodup
 edge:∀i o,ops[i]? =some o->∀x∈xb o,x<i
 dst:∀i o,i<m->ops[i]? =some o->o.dst=some (dAt ops i)
 tail:∀i,m<i->i<ops.length->∀j,j<i->inD D j i=true
def o7(ops:List Oper)(D:List (List Nat))(m:Nat):Bool:=
 Nat.blt m ops.length&&nodupB ((List.range m).map (dAt ops))&&
 (List.range ops.length).all λi=>match ops[i]? with
  |some o=>((xb o).all λx=>Nat.blt x i)&&(if i<m then o.dst.isSome else(if i=m then true else(List.range i).all λj=>inD D j i))
  |none=>true
theorem jG{ops:List Oper}{D:List (List Nat)}{m:Nat}(hD:gy [] ops=D)(h:o7 ops D m=true):ed ops D m:=by
 simp only[o7,Bool.and_eq_true,List.all_eq_true]at h
 obtain⟨⟨h1,h2⟩,h3⟩:=h
 have key:∀i o,ops[i]? =some o->_:=λi o ho=>by
  have hlt:=(List.getElem?_eq_some_iff.1 ho).1
  have:=h3 i (List.mem_range.2 hlt)
  rw[ho]at this
  simp only[Bool.and_eq_true,List.all_eq_true]at this
  exact this
 refine⟨hD,Nat.le_of_ble_eq_true h1,qs h2,λi o ho e he=>?_,λi o hi ho=>?_,λi hi hlt j hj=>?_⟩
 ·exact Nat.le_of_ble_eq_true ((key i o ho).1 e he)
 ·have:=(key i o ho).2
  rw[if_pos hi]at this
  obtain⟨d,hd⟩:=Option.isSome_iff_exists.1 this
  rw[hd]
  simp[dAt,ho,hd]
 ·have:=(key i ops[i] (List.getElem?_eq_getElem hlt)).2
  rw[if_neg Mo,if_neg Mo,List.all_eq_true]at this
  exact this j (List.mem_range.2 hj)
theorem dD{ops:List Oper}{D:List (List Nat)}{m:Nat}(T:ed ops D m){lf:Nat->Bool}(hc:∀j,lf j=true->∀e∈bV ops j,lf e=true){i:Nat}(hi:∀e∈bV ops i,lf e=true){j:Nat}(hj:inD D j i=true):lf j=true:=by
 have:=io ops (λj=>lf j=true) hc ops [] (λk=>by simp) (λj hj=>absurd hj (Nat.not_lt_zero _)) i hi j
 rw[T.hD]at this
 refine this ?_
 simpa[inD]using hj
section
variable {E:aO} {S:ba} {ops:List Oper} {D:List (List Nat)} {R:List (AV×Option AO)} {n0:Nat} {st0 st:ASt}
theorem ed.le{ops:List Oper}{D:List (List Nat)}{m:Nat}(T:ed ops D m):m<=ops.length:=Nat.le_of_lt T.lt
theorem oY{D:List (List Nat)}{ops:List Oper}(T:ed ops D n0)(hl:xx ops n0 st0.tm.length=true)(hno:noB ops D R n0 st0=true):DBase ops D R n0 st0:=by
 simp only[xx,List.all_eq_true]at hl
 simp only[noB,List.all_eq_true]at hno
 have hno':∀i,i<n0->∀o,oAt R i=some o->_:=λi hi o ho=>by
  have:=hno i (List.mem_range.2 hi)
  rw[ho]at this
  simp only[Bool.and_eq_true,List.all_eq_true]at this
  exact this
 refine⟨T.le,T.nd,T.dst,λj hj=>Nat.le_of_ble_eq_true (hl j (List.mem_range.2 hj)),λj hj hne=>?_,λi hi hne=>?_,λi j hi hj hne hd hji=>?_⟩
 ·obtain⟨o,ho⟩:=Option.ne_none_iff_exists'.1 hne
  have:=(hno' j hj o ho).1.1.1
  simpa using this
 ·obtain⟨o,ho⟩:=Option.ne_none_iff_exists'.1 hne
  have:=hno' i hi o ho
  exact⟨this.1.1.2,this.1.2⟩
 ·obtain⟨o,ho⟩:=Option.ne_none_iff_exists'.1 hne
  have:=(hno' i hi o ho).2 j (List.mem_range.2 hj)
  simp only[hd,Bool.false_or,Bool.or_eq_true,Bool.and_eq_true]at this
  rcases this with this|⟨h1,h2⟩
  ·exact absurd (Nat.eq_of_beq_eq_true this) hji
  ·refine⟨h1,λo' ho'=>?_⟩
   rw[ho']at h2
   exact h2
theorem Ge(he:E.Ok){D:List (List Nat)}{ops:List Oper}(T:ed ops D n0){i:Nat}{o:Oper}(hi:i<n0){r:AV×Option AO}(hr:R[i]? =some r)(hfact:BH E D (ops.take n0) R st0 i o r):dn E S D R n0 (stP ops D R n0 st0 i) i o:=by
 have hv:vAt R i=r.1:=by simp[vAt,List.getD,hr]
 have hoo:oAt R i=r.2:=by simp[oAt,List.getD,hr]
 have free:(u3 D (ops.take n0) R i st0 λP=>fJ E o P λv oo=>v=r.1/\oo=r.2)->gN E S o (stP ops D R n0 st0 i) (vAt R i) (oAt R i):=λh=>by
  rw[hv,hoo]
  exact sX he (p9 T.le h)
 unfold dn
 unfold BH at hfact
 cases hg:o.guard with
 |none=>
  rw[hg]at hfact
  exact free hfact
 |some gw=>
  obtain⟨g,want⟩:=gw
  rw[hg]at hfact
  obtain⟨h1,h2,h3⟩:=hfact
  obtain⟨rg,hrg,h3⟩:=dq h3
  have hgn:g<n0:=by
   have h4:g<(ops.take n0).length:=Nat.le_of_ble_eq_true h2
   simp at h4
   omega
  refine⟨hgn,h1,?_⟩
  have hvg:vAt R g=rg.1:=by simp[vAt,List.getD,hrg]
  split at h3
  ·rename_i p hp
   refine .inl ⟨p,by rw[hvg,hp],?_⟩
   cases p with
   |true=>
    have h:=h3.t rfl
    cases want with
    |true=>exact .inl ⟨rfl,free h⟩
    |false=>exact .inr ⟨by simp,by rw[hv,show r=(.one .und,none)from h],by rw[hoo,show r=(.one .und,none)from h]⟩
   |false=>
    have h:=h3.f rfl
    cases want with
    |false=>exact .inl ⟨rfl,free h⟩
    |true=>exact .inr ⟨by simp,by rw[hv,show r=(.one .und,none)from h],by rw[hoo,show r=(.one .und,none)from h]⟩
  ·exact h3.elim
theorem m9(T:ed ops D n0){i j:Nat}(hi:i<ops.length)(h:inD D j i=true):j<i:=by
 have:=dD T (lf:=λj=>decide (j<i)) (λk hk e he=>?_) (i:=i) (λe he=>?_) h
 ·simpa using this
 ·have hki:k<i:=by simpa using hk
  rw[bc (List.getElem?_eq_getElem (by omega:k<ops.length))]at he
  have:=T.edge k _ (List.getElem?_eq_getElem Mo) _ he
  simp;omega
 ·rw[bc (List.getElem?_eq_getElem hi)]at he
  have:=T.edge i _ (List.getElem?_eq_getElem hi) _ he
  simpa using this
theorem dn.keepF(T:ed ops D n0){R:List (AV×Option AO)}{i k:Nat}{o:Oper}{x:AV×Option AO}(hi:i<k)(hil:i<ops.length)(h:dn E S D R n0 (stP ops D R n0 st i) i o):dn E S D (R.set k x) n0 (stP ops D (R.set k x) n0 st i) i o:=by
 have hlt:∀j,inD D j i=true->j≠k:=λj hj e=>by have:=m9 T hil hj;omega
 have e:stP ops D (R.set k x) n0 st i=stP ops D R n0 st i:=pY λj hj=>⟨fh (hlt j hj),hE (hlt j hj)⟩
 have e1:vAt (R.set k x) i=vAt R i:=fh Mo
 have e2:oAt (R.set k x) i=oAt R i:=hE Mo
 unfold dn at h⊢
 rw[e,e1,e2]
 cases hg:o.guard with
 |none=>rw[hg]at h;exact h
 |some gw=>
  obtain⟨g,want⟩:=gw
  rw[hg]at h
  obtain⟨h1,h2,h3⟩:=h
  refine⟨h1,h2,?_⟩
  rw[fh (hlt g h2)]
  exact h3
theorem sP(he:E.Ok)(T:ed ops D n0){K:List (AV×Option AO)->Prop}:∀(rest:List Oper) (i:Nat) (R:List (AV×Option AO)),(∀k,(ops.take n0)[i+k]? =rest[k]?)->R.length=n0->
  (∀j o,j<i->ops[j]? =some o->dn E S D R n0 (stP ops D R n0 st j) j o)->cf E (ops.take n0) st rest ((List.range' i rest.length).map λi=>(List.range n0).map (flP D i)) i R K->∃RA,K RA/\∀j o,j<n0->ops[j]? =some o->dn E S D RA n0 (stP ops D RA n0 st j) j o
 |[],i,R,hr,hl,hf,h=>by
  refine⟨R,h,λj o hj ho=>hf j o ?_ ho⟩
  have:=hr 0
  simp only[Nat.add_zero,List.getElem?_nil]at this
  have h2:=List.getElem?_eq_none_iff.1 this
  have:=T.le
  simp at h2
  omega
 |o::rest,i,R,hr,hl,hf,h=>by
  have h0:=hr 0
  simp only[Nat.add_zero,List.getElem?_cons_zero]at h0
  have hi:i<n0:=by
   have:=(List.getElem?_eq_some_iff.1 h0).1
   simp at this
   omega
  have hio:ops[i]? =some o:=by
   rw[List.getElem?_take,if_pos hi]at h0
   exact h0
  have hil:i<ops.length:=(List.getElem?_eq_some_iff.1 hio).1
  have hr':∀k,(ops.take n0)[i+1+k]? =rest[k]? :=λk=>by
   have:=hr (k+1)
   rw[show i+1+k=i+(k+1)by omega]
   simpa using this
  have next:∀x:AV×Option AO,cf E (ops.take n0) st rest ((List.range' (i+1) rest.length).map λi=>(List.range n0).map (flP D i)) (i+1) (R.set i x) K->dn E S D (R.set i x) n0 (stP ops D (R.set i x) n0 st i) i o->∃RA,K RA/\∀j o,j<n0->ops[j]? =some o->dn E S D RA n0 (stP ops D RA n0 st j) j o:=λx hk hd=>
   sP he T rest (i+1) (R.set i x) hr' (by simpa using hl) (λj o' hj ho'=>by
    rcases Nat.lt_succ_iff_lt_or_eq.1 hj with hj|hj
    ·exact(hf j o' hj ho').keepF T hj Mo
    ·subst hj
     rw[hio]at ho'
     injection ho' with ho'
     subst ho'
     exact hd) hk
  have eP:∀x:AV×Option AO,stP ops D (R.set i x) n0 st i=stP ops D R n0 st i:=λx=>pY λj hj=>by
   have:=m9 T hil hj
   exact⟨fh Mo,hE Mo⟩
  have free:(lH ((List.range n0).map (flP D i)) (ops.take n0) R st λP=>fJ E o P λv oo=>gv R i (v,oo) λR=>cf E (ops.take n0) st rest ((List.range' (i+1) rest.length).map λi=>(List.range n0).map (flP D i)) (i+1) R K)->∃x:AV×Option AO,gN E S o (stP ops D R n0 st i) x.1 x.2/\cf E (ops.take n0) st rest ((List.range' (i+1) rest.length).map λi=>(List.range n0).map (flP D i)) (i+1) (R.set i x) K:=λh=>by
   have hlen:(ops.take n0).length=n0:=by have:=T.le;simp;omega
   have h1:=p9 T.le (qC (by rw[hlen];exact h))
   obtain⟨v,oo,h2,h3⟩:=vt he h1
   exact⟨(v,oo),h2,eq h3⟩
  rw[List.length_cons,List.range'_succ,List.map_cons]at h
  unfold cf at h
  cases hg:o.guard with
  |none=>
   rw[hg]at h
   obtain⟨x,hx,hk⟩:=free h
   refine next x hk ?_
   unfold dn
   rw[hg,eP,kr Mo,iw Mo]
   exact hx
  |some gw=>
   obtain⟨g,want⟩:=gw
   rw[hg]at h
   obtain⟨f,hf1,h3⟩:=dq h
   have hf0:f=flP D i g:=by
    rw[List.getElem?_map]at hf1
    obtain⟨g',hg',rfl⟩:=Option.map_eq_some_iff.1 hf1
    have:=List.getElem?_eq_some_iff.1 hg'
    obtain⟨_,e⟩:=this
    simp at e
    rw[e]
   split at h3
   case h_2=>exact h3.elim
   have h1:inD D g i=true:=qL hf0.symm
   obtain⟨rg,hrg,h3⟩:=dq h3
   have hgi:=m9 T hil h1
   have hvg:∀x:AV×Option AO,vAt (R.set i x) g=rg.1:=λx=>by
    rw[fh Mo]
    unfold vAt
    rw[List.getD_eq_getElem?_getD,hrg];rfl
   split at h3
   ·rename_i p hp
    have run:(p=want)->(lH ((List.range n0).map (flP D i)) (ops.take n0) R st λP=>fJ E o P λv oo=>gv R i (v,oo) λR=>cf E (ops.take n0) st rest ((List.range' (i+1) rest.length).map λi=>(List.range n0).map (flP D i)) (i+1) R K)->∃RA,K RA/\∀j o,j<n0->ops[j]? =some o->dn E S D RA n0 (stP ops D RA n0 st j) j o:=λe h=>by
     obtain⟨x,hx,hk⟩:=free h
     refine next x hk ?_
     unfold dn
     rw[hg,eP,kr Mo,iw Mo]
     exact⟨by omega,h1,.inl ⟨p,by rw[hvg,hp],.inl ⟨e,hx⟩⟩⟩
    have skip:(p≠want)->(gv R i (.one .und,none) λR=>cf E (ops.take n0) st rest ((List.range' (i+1) rest.length).map λi=>(List.range n0).map (flP D i)) (i+1) R K)->∃RA,K RA/\∀j o,j<n0->ops[j]? =some o->dn E S D RA n0 (stP ops D RA n0 st j) j o:=λe h=>by
     refine next (.one .und,none) (eq h) ?_
     unfold dn
     rw[hg,eP,kr Mo,iw Mo]
     exact⟨by omega,h1,.inl ⟨p,by rw[hvg,hp],.inr ⟨e,rfl,rfl⟩⟩⟩
    cases p with
    |true=>
     have h:=h3.t rfl
     cases want with
     |true=>exact run rfl h
     |false=>exact skip Mr h
    |false=>
     have h:=h3.f rfl
     cases want with
     |true=>exact skip Mr h
     |false=>exact run rfl h
   ·rename_i hp
    refine next (.one .und,none) (eq h3) ?_
    unfold dn
    rw[hg,eP,kr Mo,iw Mo]
    exact⟨by omega,h1,.inr ⟨by rw[hvg,hp],rfl,rfl⟩⟩
   ·exact h3.elim
end
structure Flt (E:aO) (S:ba) (ops:List Oper) (D:List (List Nat)) (m:Nat) (R0 R1:List (AV×Option AO)) (st0 st1:ASt):Prop where
 F0:n9 E S ops D R0 m st0
 B1:DBase ops D R1 m st1
 out1:∀i o,i<m->inD D i m=false->ops[i]? =some o->dn E S D R1 m (stP ops D R1 m st1 i) i o
 step:∀o,ops[m]? =some o->o.guard=none/\∀l:Nat->Bool,(∀j,inD D j m=true->l j=true)->∀a w,cR E.W S (stS ops R0 m st0 l) a w->∀Q,Oper.wp E.P o a w (λa' w'=>cR E.W S (stS ops R1 m st1 l) a' w') Q
section
variable {E:aO} {S:ba} {ops:Array Oper} {n0:Nat} {st0 st1:ASt} {R0 R1:List (AV×Option AO)} {K:ASt->Prop} {Q:Exit->Act->World->Prop}
theorem jf{listed:Array Bool}(hs:listed.size=ops.size){i:Nat}:
  i∈Region.ready .any ops listed↔i<ops.size/\bw listed i=false/\∀e∈bV ops.toList i,bw listed e=true:=by
 rw[mem_ready]
 constructor
 ·rintro⟨h1,o,ho,h2⟩
  have hlt:=(Array.getElem?_eq_some_iff.1 ho).1
  refine⟨hlt,?_,λe he=>?_⟩
  ·simp only[bw,Array.getD_eq_getD_getElem?]at h1⊢
   rw[Array.getElem?_eq_getElem Mo]at h1⊢
   simpa using h1
  ·rw[bc (by simpa using ho)]at he
   obtain⟨e',he',rfl⟩:=List.mem_map.1 he
   obtain⟨hm,hb⟩:=List.mem_filter.1 he'
   exact h2 e' (by simpa using hm) hb
 ·rintro⟨hlt,h1,h2⟩
  refine⟨?_,ops[i],Array.getElem?_eq_getElem hlt,λe he hb=>?_⟩
  ·simp only[bw,Array.getD_eq_getD_getElem?]at h1⊢
   rw[Array.getElem?_eq_getElem Mo]at h1⊢
   simpa using h1
  ·refine h2 _ ?_
   rw[bc (o:=ops[i]) (by simp[hlt])]
   exact List.mem_map.2 ⟨e,List.mem_filter.2 ⟨by simpa using he,hb⟩,rfl⟩
theorem A4(he:E.Ok){D:List (List Nat)}(T:ed ops.toList D n0)(hQ:∀a w,(∃st',cR E.W S st' a w/\K st')->Q .normal a w):
  ∀(fuel m:Nat) (listed:Array Bool) (st:ASt) (a:Act) (w:World),listed.size=ops.size->n0<m->(∀j,j<ops.size->bw listed j=decide (j<m))->ops.size-m<=fuel->cR E.W S st a w->nz E S ops.toList (ops.toList.drop m) st K->wpAny E.P .any ops Q fuel listed a w:=by
 intro fuel
 induction fuel with
 |zero=>
  intro m listed st a w hs hm hl hf h hk
  rw[List.drop_eq_nil_of_le Mv]at hk
  refine⟨?_,hQ a w ⟨st,h,hk⟩⟩
  rw[List.eq_nil_iff_forall_not_mem]
  intro i hi
  obtain⟨h1,h2,_⟩:=(jf hs).1 hi
  rw[hl i h1]at h2
  simp at h2
  omega
 |succ fuel ih=>
  intro m listed st a w hs hm hl hf h hk
  have hready:∀i,i∈Region.ready .any ops listed↔i=m/\m<ops.size:=by
   intro i
   rw[jf hs]
   constructor
   ·rintro⟨h1,h2,h3⟩
    rw[hl i h1]at h2
    simp at h2
    have hc:∀j,bw listed j=true->∀e∈bV ops.toList j,bw listed e=true:=by
     intro j hj e hej
     by_cases hjs:j<ops.size
     ·rw[hl j hjs]at hj
      rw[bc (o:=ops[j]) (by simp[hjs])]at hej
      have:=T.edge j ops[j] (by simp[hjs]) _ hej
      rw[hl _ Mo]
      simp at hj⊢
      omega
     ·simp[bw,Array.getD_eq_getD_getElem?,Array.getElem?_eq_none (show listed.size<=j by omega)]at hj
    refine⟨?_,by omega⟩
    apply Nat.le_antisymm _ h2
    apply Nat.le_of_not_lt
    intro hlt
    have:=dD T hc h3 (T.tail i Mo (by simpa using h1) m hlt)
    rw[hl m Mo]at this
    simp at this
   ·rintro⟨rfl,h1⟩
    refine⟨h1,by rw[hl i h1];simp,λe hej=>?_⟩
    rw[bc (o:=ops[i]) (by simp[h1])]at hej
    have:=T.edge i ops[i] (by simp[h1]) _ hej
    rw[hl _ Mo]
    simpa using this
  refine⟨λhnil=>?_,λi hi=>?_⟩
  ·have:ops.size<=m:=by
    apply Nat.le_of_not_lt
    intro hlt
    have:=(hready m).2 ⟨rfl,hlt⟩
    rw[hnil]at this
    cases this
   rw[List.drop_eq_nil_of_le (by simpa using this)]at hk
   exact hQ a w ⟨st,h,hk⟩
  ·obtain⟨rfl,hlt⟩:=(hready i).1 hi
   rw[List.drop_eq_getElem_cons (by simpa using hlt)]at hk
   unfold wpOp
   rw[Array.getElem?_eq_getElem hlt]
   have next:∀st' a' w',cR E.W S st' a' w'->nz E S ops.toList (ops.toList.drop (i+1)) st' K->wpAny E.P .any ops Q fuel (listed.setIfInBounds i true) a' w':=by
    intro st' a' w' h' hk'
    refine ih (i+1) _ st' a' w' (by simpa using hs) Mo (λj hj=>?_) Mo h' hk'
    rw[pB Mo]
    simp only[]
    rw[hl j hj]
    by_cases hji:j=i
    ·subst hji;simp[Nat.beq_refl]
    ·have:Nat.beq j i=false:=by
      cases h':Nat.beq j i with
      |false=>rfl
      |true=>exact absurd (Nat.eq_of_beq_eq_true h') hji
     simp[this]
     omega
   obtain⟨Z,ρ,h⟩:=h
   simp only[Array.getElem_toList]at hk
   rcases od h hk with⟨hw,st',hs',hk⟩|⟨hw,st',hs',hk⟩
   ·simp only[Array.toArray_toList]at hw
    simp only[hw,if_true]
    refine .inl (Oper.wp_mono (λa' w' h'=>?_) (qk he hs' hk Q))
    obtain⟨st2,h2,hk2⟩:=h'
    exact next st2 a' w' h2 hk2
   ·simp only[Array.toArray_toList]at hw
    simp only[hw,Bool.false_eq_true,if_false]
    have:=hs'.put ops[i].dst (x:= .one .und) (v:=undef) (.one _ _ (show cy Z w ρ .und undef from rfl))
    exact next _ _ w ⟨Z,ρ,this⟩ (dX hk)
theorem A3(he:E.Ok){D:List (List Nat)}{m:Nat}(T:ed ops.toList D m)(F:Flt E S ops.toList D m R0 R1 st0 st1)(hQ:∀a w,(∃st',cR E.W S st' a w/\K st')->Q .normal a w)
  (ht:lE (ops.toList.take m) R1 st1 λst=>nz E S ops.toList (ops.toList.drop (m+1)) st K):
  ∀(fuel:Nat) (listed:Array Bool) (a:Act) (w:World),listed.size=ops.size->(∀j,m<j->bw listed j=false)->(∀j,bw listed j=true->∀e∈bV ops.toList j,bw listed e=true)->nA (bw listed) ops.size<=fuel->
   (bw listed m=false->cR E.W S (stS ops.toList R0 m st0 (bw listed)) a w)->(bw listed m=true->cR E.W S (stS ops.toList R1 m st1 (bw listed)) a w)->wpAny E.P .any ops Q fuel listed a w:=by
 intro fuel
 have hle:m<=ops.toList.length:=T.le
 have hlt0:m<ops.toList.length:=T.lt
 have hle':m<ops.size:=by simpa using hlt0
 induction fuel with
 |zero=>
  intro listed a w hs htl hc hf h0 h1
  have hall:=ql (Nat.le_zero.1 hf)
  have h:=h1 (hall m hle')
  have hn0:ops.size<=m+1:=by
   apply Nat.le_of_not_lt
   intro hlt
   have h1:=hall (m+1) hlt
   rw[htl (m+1) Mo]at h1
   cases h1
  refine⟨?_,hQ a w ⟨_,h,?_⟩⟩
  ·rw[List.eq_nil_iff_forall_not_mem]
   intro i hi
   obtain⟨h1,h2,_⟩:=(jf hs).1 hi
   rw[hall i h1]at h2
   cases h2
  ·have:=jo hle ht
   rw[List.drop_eq_nil_of_le (by simpa using hn0)]at this
   have e:stS ops.toList R1 m st1 (bw listed)=stS ops.toList R1 m st1 λ_=>true:=jl λj hj=>by rw[hall j Mo]
   rw[e]
   exact this
 |succ fuel ih=>
  intro listed a w hs htl hc hf h0 h1
  by_cases hall:∀j,j<m+1->bw listed j=true
  ·have h:=h1 (hall m Mo)
   have e:stS ops.toList R1 m st1 (bw listed)=stS ops.toList R1 m st1 λ_=>true:=jl λj hj=>by rw[hall j Mo]
   rw[e]at h
   have h2:=xi (m:=m+1) (λj hj=>htl j Mo) (n:=ops.size)
   refine A4 he T hQ (fuel+1) (m+1) listed _ a w hs Mo (λj hj=>?_) Mo h (jo hle ht)
   by_cases hj0:j<m+1
   ·rw[hall j hj0];simp[hj0]
   ·rw[htl j Mo];simp[hj0]
  ·refine⟨λhnil=>?_,λi hi=>?_⟩
   ·exfalso
    apply hall
    intro j
    induction j using Nat.strongRecOn with
    |ind j ihj=>
     intro hj
     cases hlj:bw listed j with
     |true=>rfl
     |false=>
      have:j∈Region.ready .any ops listed:=(jf hs).2 ⟨by omega,hlj,λe hej=>by
       have hjs:j<ops.size:=by omega
       rw[bc (o:=ops[j]) (by simp[hjs])]at hej
       have:=T.edge j ops[j] (by simp[hjs]) _ hej
       exact ihj _ this Mo⟩
      rw[hnil]at this
      cases this
   ·obtain⟨hlt,hli,haf⟩:=(jf hs).1 hi
    have hi0:i<=m:=by
     apply Nat.le_of_not_lt
     intro hge
     apply hall
     intro j hj
     exact dD T hc haf (T.tail i hge (by simpa using hlt) j Mo)
    have hDl:∀j,inD D j i=true->bw listed j=true:=λj hj=>dD T hc haf hj
    have hAl:∀j,j<m->inD D i j=true->bw listed j=false:=λj _ hj=>by
     cases hlj:bw listed j with
     |false=>rfl
     |true=>
      have:=dD T hc (hc j hlj) hj
      rw[hli]at this
      cases this
    have hget:ops.toList[i]? =some ops[i]:=by simp[hlt]
    have elf:=pB (listed:=listed) (i:=i) Mo
    have next:∀a' w',(bw listed m=false->i≠m->cR E.W S (stS ops.toList R0 m st0 λj=>bw listed j||Nat.beq j i) a' w')->(bw listed m=true\/i=m->cR E.W S (stS ops.toList R1 m st1 λj=>bw listed j||Nat.beq j i) a' w')->wpAny E.P .any ops Q fuel (listed.setIfInBounds i true) a' w':=λa' w' h0' h1'=>by
     have bim:Nat.beq m i=true↔i=m:=⟨λe=>(Nat.eq_of_beq_eq_true e).symm,λe=>by rw[e];exact Nat.beq_refl m⟩
     refine ih _ a' w' (by simpa using hs) (λj hj=>?_) (λj hj e' hej=>?_) ?_ (λhm=>?_) (λhm=>?_)
     ·rw[elf]
      simp only[htl j hj,Bool.false_or]
      cases hb:Nat.beq j i with
      |false=>rfl
      |true=>have:=Nat.eq_of_beq_eq_true hb;omega
     ·rw[elf]at hj⊢
      simp only[Bool.or_eq_true]at hj⊢
      rcases hj with hj|hj
      ·exact .inl (hc j hj e' hej)
      ·rw[Nat.eq_of_beq_eq_true hj]at hej
       exact .inl (haf e' hej)
     ·rw[elf]
      have:=(xj hli (n:=ops.size)).2 hlt
      omega
     ·rw[elf]at hm⊢
      simp only[Bool.or_eq_false_iff]at hm
      exact h0' hm.1 (λe=>by rw[bim.2 e]at hm;exact absurd hm.2 Mr)
     ·rw[elf]at hm⊢
      simp only[Bool.or_eq_true]at hm
      exact h1' (hm.imp_right bim.1)
    by_cases him:i=m
    ·subst him
     obtain⟨hgu,hst⟩:=F.step ops[i] hget
     unfold wpOp
     rw[Array.getElem?_eq_getElem hlt]
     simp only
     have hw:Region.wanted ops[i] (yielded ops a.tmps)=true:=by simp[Region.wanted,hgu]
     rw[if_pos hw]
     refine .inl (Oper.wp_mono (λa' w' h'=>?_) (hst (bw listed) hDl a w (h0 hli) Q))
     refine next a' w' (λ_ hne=>absurd rfl hne) λ_=>?_
     have e:stS ops.toList R1 i st1 (λj=>bw listed j||Nat.beq j i)=stS ops.toList R1 i st1 (bw listed):=jl λj hj=>by
      have:Nat.beq j i=false:=by
       cases hb:Nat.beq j i with
       |false=>rfl
       |true=>have:=Nat.eq_of_beq_eq_true hb;omega
      rw[this,Bool.or_false]
     rw[e]
     exact h'
    ·have hi1:i<m:=by omega
     cases hlm:bw listed m with
     |false=>
      have step:=vC (Kont:=wpAny E.P .any ops Q fuel (listed.setIfInBounds i true)) (Q:=Q) F.F0 hi1 hget hli hDl hAl (h0 hlm) λa' w' h'=>next a' w' (λ_ _=>h') λhm=>by
       rcases hm with hm|hm
       ·rw[hlm]at hm;cases hm
       ·exact absurd hm him
      simp only[Array.toArray_toList]at step
      unfold wpOp
      rw[Array.getElem?_eq_getElem hlt]
      simp only
      split
      ·rename_i hw;exact .inl (step.1 hw)
      ·rename_i hw;exact step.2 (by simpa using hw)
     |true=>
      have hnm:inD D i m=false:=by
       cases hx:inD D i m with
       |false=>rfl
       |true=>
        have:=dD T hc (hc m hlm) hx
        rw[hli]at this
        cases this
      have step:=sS (Kont:=wpAny E.P .any ops Q fuel (listed.setIfInBounds i true)) (Q:=Q) F.B1 hi1 hget hli hDl hAl (Ck (D:=D) F.B1.nd F.B1.len F.B1.ob hli (λj _ h=>hDl j h) hAl) (F.out1 i _ hi1 hnm hget) (h1 hlm) λa' w' h'=>next a' w' (λhm=>by rw[hlm]at hm;cases hm) λ_=>h'
      simp only[Array.toArray_toList]at step
      unfold wpOp
      rw[Array.getElem?_eq_getElem hlt]
      simp only
      split
      ·rename_i hw;exact .inl (step.1 hw)
      ·rename_i hw;exact step.2 (by simpa using hw)
theorem AWP.drawFlt(he:E.Ok){K:Exit->ASt->Prop}{id m:Nat}{D:List (List Nat)}(T:ed ops.toList D m)(F:Flt E S ops.toList D m R0 R1 st0 st1)
  (ht:lE (ops.toList.take m) R1 st1 λst=>nz E S ops.toList (ops.toList.drop (m+1)) st (K .normal)):AWP E S (.region id ops true) K st0:=by
 refine⟨λa w hs=>wp_region_any he.mixed ?_⟩
 have hg:w.grownBy {w with drawn:=w.drawn+1} none:=⟨rfl,rfl,rfl,Nat.le_refl _,λb hb _=>rfl⟩
 have e1:∀j,bw (Array.replicate ops.size false) j=false:=λj=>by
  simp[bw,Array.getD_eq_getD_getElem?,Array.getElem?_replicate]
  split<;>rfl
 refine A3 (Q:=λe a' w'=>∃st',cR E.W S st' a' w'/\K e st') he T F (λa w h=>h) ht ops.size (Array.replicate ops.size false) a _ Mr (λj _=>e1 j) (λj hj=>?_) ?_ (λ_=>?_) (λhm=>?_)
 ·rw[e1]at hj;cases hj
 ·have:∀(lf:Nat->Bool) n,nA lf n<=n:=λlf n=>by
   induction n with
   |zero=>exact Nat.le_refl _
   |succ n ih=>simp only[nA];split<;>omega
  exact this _ _
 ·obtain⟨Z,ρ,hs⟩:=hs
  have e:stS ops.toList R0 m st0 (bw (Array.replicate ops.size false))=st0:=by
   have e2:(List.range m).filterMap (upS ops.toList R0 (bw (Array.replicate ops.size false)))=[]:=by
    rw[List.filterMap_eq_nil_iff];intro j _;simp[upS,e1]
   have e3:(List.range m).filterMap (obF ops.toList R0 (bw (Array.replicate ops.size false)))=[]:=by
    rw[List.filterMap_eq_nil_iff];intro j _;simp[obF,e1]
   simp[stS,e2,e3,eK]
  rw[e]
  exact⟨Z,ρ,hs.grow hg (λ_ h=>h) λ_ h=> .inl h⟩
 ·rw[e1]at hm;cases hm
end
def jq(E:aO)(D:List (List Nat))(pre:List Oper)(R:List (AV×Option AO))(st:ASt)(m:Nat):List Oper->List (AV×Option AO)->Nat->Prop
 |[],[],_=>True
 | o :: ops, r :: rs, i => (match inD D i m with
  |true=>True
  |false=>BH E D pre R st i o r)/\jq E D pre R st m ops rs (i+1)
 |_,_,_=>False
theorem qB{E:aO}{D:List (List Nat)}{pre:List Oper}{R:List (AV×Option AO)}{st:ASt}{m:Nat}:∀{ops:List Oper} {rs:List (AV×Option AO)} {i:Nat},jq E D pre R st m ops rs i->∀k o,ops[k]? =some o->inD D (i+k) m=false->∃r,rs[k]? =some r/\BH E D pre R st (i+k) o r
 |[],_,_,_,k,o,h,_=>by simp at h
 |o'::ops,[],_,h,k,o,_,_=>h.elim
 |o'::ops,r::rs,i,h,k,o,ho,hn=>by
  cases k with
  |zero=>
   simp at ho
   subst ho
   have h1:=h.1
   rw[show i+0=i from rfl]at hn
   rw[hn]at h1
   exact⟨r,rfl,h1⟩
  |succ k=>
   obtain⟨r',h1,h2⟩:=qB h.2 k o (by simpa using ho) (by rwa[show i+1+k=i+(k+1)by omega])
   exact⟨r',by simpa using h1,by rwa[show i+(k+1)=i+1+k by omega]⟩
section
variable {E:aO} {S:ba} {ops:List Oper} {D:List (List Nat)} {R0 R1:List (AV×Option AO)} {m:Nat} {st0 st1:ASt}
theorem Ic(hv:∀j,j<m->vAt R1 j=vAt R0 j)(ht:st1.tm=st0.tm)(l:Nat->Bool):(stS ops R1 m st1 l).tm=(stS ops R0 m st0 l).tm:=by
 have e:(List.range m).filterMap (upS ops R1 l)=(List.range m).filterMap (upS ops R0 l):=m0 λj hj=>by simp only[upS,hv j (List.mem_range.1 hj)]
 show eK st1.tm ((List.range m).filterMap (upS ops R1 l))=eK st0.tm ((List.range m).filterMap (upS ops R0 l))
 rw[e,ht]
theorem Eu(he:E.Ok)(T:ed ops D m)(F0:n9 E S ops D R0 m st0)(B1:DBase ops D R1 m st1){t:TypeId}{jx jv dx dv c k s off:Nat}{o0 o1:AO}
  (hop:∃o,ops[m]? =some o/\o.op= .store t (.tmp dx) (.tmp dv)/\o.dst=none/\o.guard=none) (hdx:dAt ops jx=dx) (hdv:dAt ops jv=dv) (hjx:inD D jx m=true) (hjv:inD D jv m=true)
  (hv:∀j,j<m->vAt R1 j=vAt R0 j) (ht:st1.tm=st0.tm) (hvx:vAt R0 jx= .one (.ref c k s off)) (hst:im E ⟨[],[(c,o0)]⟩ t (.one (.ref c k s off)) (vAt R0 jv) λst=>st=⟨[],[(c,o1)]⟩)
  (hget:∀l:Nat->Bool,(∀j,inD D j m=true->l j=true)->aJ (stS ops R0 m st0 l).ob c=some o0)
  (hsub:∀l:Nat->Bool,(∀j,inD D j m=true->l j=true)->ak (dG (stS ops R0 m st0 l).ob c o1) (stS ops R1 m st1 l).ob)
  (hl:R1.length=m) (hf:jq E D (ops.take m) R1 st1 m (ops.take m) R1 0):Flt E S ops D m R0 R1 st0 st1:=by
 refine⟨F0,B1,λi o hi hn ho=>?_,λo ho=>?_⟩
 ·obtain⟨r,hr,hfact⟩:=qB hf i o (by rw[List.getElem?_take,if_pos hi];exact ho) (by rwa[Nat.zero_add])
  rw[Nat.zero_add]at hfact
  exact Ge he T hi hr hfact
 ·obtain⟨o',ho',hstore,hdst,hgu⟩:=hop
  rw[ho]at ho'
  injection ho' with ho'
  subst ho'
  refine⟨hgu,λl hlD a w hs Q=>?_⟩
  obtain⟨Z,ρ,hs⟩:=hs
  have hjx':jx<m:=m9 T T.lt hjx
  have hjv':jv<m:=m9 T T.lt hjv
  have g:=s0 (K:=λst=>st=⟨(stS ops R0 m st0 l).tm,dG (stS ops R0 m st0 l).ob c o1⟩) he hs hstore (by
   refine AF (x:=vAt R0 jx) (by rw[<-hdx];exact ke F0.nd hjx' (hlD jx hjx) (F0.len jx hjx')) ?_
   refine AF (x:=vAt R0 jv) (by rw[<-hdv];exact ke F0.nd hjv' (hlD jv hjv) (F0.len jv hjv')) ?_
   rw[hvx,hdst]
   exact yj (hget l hlD) hst)
  refine Oper.wp_mono (λa' w' h'=>?_) (g Q)
  obtain⟨st',h1,h2⟩:=h'
  subst h2
  refine h1.sub ?_ (hsub l hlD)
  rw[Ic hv ht]
  exact jn.of_get rfl λs x y hx hy=>by
   rw[hx]at hy
   injection hy with hy
   rw[hy]
   exact .refl _
theorem FR(he:E.Ok)(T:ed ops D m)(F0:n9 E S ops D R0 m st0)(hlm:xx ops m st0.tm.length=true){t:TypeId}{jx jv dx dv c k s off:Nat}{o0 o1:AO}
  (hop:∃o,ops[m]? =some o/\o.op= .store t (.tmp dx) (.tmp dv)/\o.dst=none/\o.guard=none) (hdx:dAt ops jx=dx) (hdv:dAt ops jv=dv) (hjx:inD D jx m=true) (hjv:inD D jv m=true)
  (hvx:vAt R0 jx= .one (.ref c k s off)) (hc:aJ st0.ob c=some o0) (hst:im E ⟨[],[(c,o0)]⟩ t (.one (.ref c k s off)) (vAt R0 jv) λst=>st=⟨[],[(c,o1)]⟩)
  (hno:noB ops D R0 m ⟨st0.tm,dG st0.ob c o1⟩=true)
  (hl:R0.length=m) (hf:jq E D (ops.take m) R0 ⟨st0.tm,dG st0.ob c o1⟩ m (ops.take m) R0 0):Flt E S ops D m R0 R0 st0 ⟨st0.tm,dG st0.ob c o1⟩:=by
 have hfar:∀j,j<m->oAt R0 j≠none->c≠dAt ops j:=λj hj hne e=>by
  have:=F0.ob j hj hne
  rw[<-e,hc]at this
  cases this
 refine Eu he T F0 (oY T hlm hno) hop hdx hdv hjx hjv (λ_ _=>rfl) rfl hvx hst (λl _=>?_) (λl _ id o ho=>?_) hl hf
 ·rw[ek F0.nd]
  exact .inr ⟨λj hj _ e=>by
   cases ho2:oAt R0 j with
   |none=>rfl
   |some o2=>exact absurd e.symm (hfar j hj (by rw[ho2];simp)),hc⟩
 ·rw[ek F0.nd]at ho
  rw[bD]
  rcases ho with⟨j,hj,hlj,e,h⟩|⟨h,hb⟩
  ·rw[if_neg (λe'=>hfar j hj (by rw[h];simp) (by rw[e,e'])),ek F0.nd]
   exact .inl ⟨j,hj,hlj,e,h⟩
  ·have hb:aJ (dG st0.ob c o1) id=some o:=hb
   rw[bD]at hb
   by_cases hci:c=id
   ·rw[if_pos hci]at hb⊢
    exact hb
   ·rw[if_neg hci]at hb⊢
    rw[ek F0.nd]
    exact .inr ⟨h,hb⟩
theorem FQ(he:E.Ok)(T:ed ops D m)(F0:n9 E S ops D R0 m st0)(hlm:xx ops m st0.tm.length=true){t:TypeId}{jx jv j0 dx dv c k s off:Nat}{o0 o1:AO}
  (hop:∃o,ops[m]? =some o/\o.op= .store t (.tmp dx) (.tmp dv)/\o.dst=none/\o.guard=none) (hdx:dAt ops jx=dx) (hdv:dAt ops jv=dv) (hjx:inD D jx m=true) (hjv:inD D jv m=true)
  (hj0:inD D j0 m=true) (hd0:dAt ops j0=c) (ho0:oAt R0 j0=some o0)
  (hvx:vAt R0 jx= .one (.ref c k s off)) (hst:im E ⟨[],[(c,o0)]⟩ t (.one (.ref c k s off)) (vAt R0 jv) λst=>st=⟨[],[(c,o1)]⟩)
  (hno:noB ops D (R0.set j0 (vAt R0 j0,some o1)) m st0=true)
  (hl:R0.length=m) (hf:jq E D (ops.take m) (R0.set j0 (vAt R0 j0,some o1)) st0 m (ops.take m) (R0.set j0 (vAt R0 j0,some o1)) 0):Flt E S ops D m R0 (R0.set j0 (vAt R0 j0,some o1)) st0 st0:=by
 have hj0':j0<m:=m9 T T.lt hj0
 have hv:∀j,j<m->vAt (R0.set j0 (vAt R0 j0,some o1)) j=vAt R0 j:=λj hj=>by
  by_cases e:j=j0
  ·subst e;exact kr Mo
  ·exact fh e
 refine Eu he T F0 (oY T hlm hno) hop hdx hdv hjx hjv hv rfl hvx hst (λl hlD=>?_) (λl hlD id o ho=>?_) (by simpa using hl) hf
 ·rw[ek F0.nd]
  exact .inl ⟨j0,hj0',hlD j0 hj0,hd0,ho0⟩
 ·rw[ek F0.nd]at ho
  rw[bD]
  rcases ho with⟨j,hj,hlj,e,h⟩|⟨h,hb⟩
  ·by_cases hjj:j=j0
   ·subst hjj
    rw[iw Mo]at h
    rw[if_pos (by rw[<-hd0,e])]
    exact h
   ·rw[hE hjj]at h
    rw[if_neg (λe'=>hjj (yy F0.nd hj hj0' (by rw[e,hd0,e']))),ek F0.nd]
    exact .inl ⟨j,hj,hlj,e,h⟩
  ·have hne:c≠id:=λe=>by
    have:=h j0 hj0' (hlD j0 hj0) (by rw[hd0,e])
    rw[iw Mo]at this
    cases this
   rw[if_neg hne,ek F0.nd]
   refine .inr ⟨λj hj hlj e=>?_,hb⟩
   have:=h j hj hlj e
   by_cases hjj:j=j0
   ·subst hjj
    exact absurd (by rw[<-hd0,e]) hne
   ·rwa[hE hjj]at this
end
section
variable {E:aO} {S:ba} {ops:Array Oper}
theorem sQ(he:E.Ok){st:ASt}{m:Nat}{D FL:List (List Nat)}{K:List (AV×Option AO)->Prop}(hD:gy [] ops.toList=D)(hok:o7 ops.toList D m=true)(hfl:((List.range m).map λi=>(List.range m).map (flP D i))=FL)
  (h:cf E (ops.toList.take m) st (ops.toList.take m) FL 0 (List.replicate m (.one .dead,none)) K):∃R,K R/\∀j o,j<m->ops.toList[j]? =some o->dn E S D R m (stP ops.toList D R m st j) j o:=by
 have T:=jG hD hok
 have hlen:(ops.toList.take m).length=m:=by have:=T.le;simp at*;omega
 subst hfl
 have e:((List.range m).map λi=>(List.range m).map (flP D i))=((List.range' 0 (ops.toList.take m).length).map λi=>(List.range m).map (flP D i)):=by rw[hlen,<-List.range_eq_range']
 rw[e]at h
 exact sP (S:=S) he T (ops.toList.take m) 0 (List.replicate m (.one .dead,none)) (λk=>by simp) Mr (λj o hj=>absurd hj (Nat.not_lt_zero _)) h
theorem AWP.drawSO(he:E.Ok){K:Exit->ASt->Prop}(id:Nat){tm:List AV}{ob:List (Nat×AO)}(m:Nat)(D FL:List (List Nat))(jx jv:Nat){t:TypeId}{dx dv:Nat}(hD:gy [] ops.toList=D)(hok:o7 ops.toList D m=true)(hfl:((List.range m).map λi=>(List.range m).map (flP D i))=FL)(hl:xx ops.toList m tm.length=true)
  (hop:∃o,ops.toList[m]? =some o/\o.op= .store t (.tmp dx) (.tmp dv)/\o.dst=none/\o.guard=none) (hdx:dAt ops.toList jx=dx) (hdv:dAt ops.toList jv=dv) (hjx:inD D jx m=true) (hjv:inD D jv m=true)
  (h : cf E (ops.toList.take m) ⟨tm, ob⟩ (ops.toList.take m) FL 0 (List.replicate m (.one .dead, none)) fun R => ∃ c k s off o0 o1, vAt R jx = .one (.ref c k s off) ∧ aJ ob c = some o0 ∧ R.length = m ∧ noB ops.toList D R m ⟨tm, ob⟩ = true ∧
   (im E ⟨[],[(c,o0)]⟩ t (.one (.ref c k s off)) (vAt R jv) λst=>st=⟨[],[(c,o1)]⟩)/\dN c o1 ob λob=>noB ops.toList D R m ⟨tm,ob⟩=true/\jq E D (ops.toList.take m) R ⟨tm,ob⟩ m (ops.toList.take m) R 0/\
   lE (ops.toList.take m) R ⟨tm,ob⟩ λst=>nz E S ops.toList (ops.toList.drop (m+1)) st (K .normal)):AWP E S (.region id ops true) K ⟨tm,ob⟩:=by
 have T:=jG hD hok
 obtain⟨R,⟨c,k,s,off,o0,o1,hvx,hc,hlR,hno,hst,h1⟩,hf⟩:=sQ (S:=S) he hD hok hfl h
 obtain⟨hno1,hfL,ht⟩:=cG h1
 exact AWP.drawFlt he T (FR he T ⟨oY T hl hno,hf⟩ hl hop hdx hdv hjx hjv hvx hc hst hno1 hlR hfL) ht
theorem AWP.drawSN(he:E.Ok){K:Exit->ASt->Prop}(id:Nat){tm:List AV}{ob:List (Nat×AO)}(m:Nat)(D FL:List (List Nat))(jx jv j0:Nat){t:TypeId}{dx dv:Nat}(hD:gy [] ops.toList=D)(hok:o7 ops.toList D m=true)(hfl:((List.range m).map λi=>(List.range m).map (flP D i))=FL)(hl:xx ops.toList m tm.length=true)
  (hop:∃o,ops.toList[m]? =some o/\o.op= .store t (.tmp dx) (.tmp dv)/\o.dst=none/\o.guard=none) (hdx:dAt ops.toList jx=dx) (hdv:dAt ops.toList jv=dv) (hjx:inD D jx m=true) (hjv:inD D jv m=true) (hj0:inD D j0 m=true)
  (h : cf E (ops.toList.take m) ⟨tm, ob⟩ (ops.toList.take m) FL 0 (List.replicate m (.one .dead, none)) fun R => ∃ c k s off o0 o1, vAt R jx = .one (.ref c k s off) ∧ oAt R j0 = some o0 ∧ dAt ops.toList j0 = c ∧ R.length = m ∧ noB ops.toList D R m ⟨tm, ob⟩ = true ∧
   (im E ⟨[],[(c,o0)]⟩ t (.one (.ref c k s off)) (vAt R jv) λst=>st=⟨[],[(c,o1)]⟩)/\gv R j0 (vAt R j0,some o1) λR=>noB ops.toList D R m ⟨tm,ob⟩=true/\jq E D (ops.toList.take m) R ⟨tm,ob⟩ m (ops.toList.take m) R 0/\
   lE (ops.toList.take m) R ⟨tm,ob⟩ λst=>nz E S ops.toList (ops.toList.drop (m+1)) st (K .normal)):AWP E S (.region id ops true) K ⟨tm,ob⟩:=by
 have T:=jG hD hok
 obtain⟨R,⟨c,k,s,off,o0,o1,hvx,ho0,hd0,hlR,hno,hst,h1⟩,hf⟩:=sQ (S:=S) he hD hok hfl h
 obtain⟨hno1,hfL,ht⟩:=eq h1
 exact AWP.drawFlt he T (FQ he T ⟨oY T hl hno,hf⟩ hl hop hdx hdv hjx hjv hj0 hd0 ho0 hvx hst hno1 hlR hfL) ht
end
end Go.Proofs.YtehobfglmeiglaaGreatDoor
namespace Go.Proofs.YtehobfglmeiglaaGreatDoor
open Go.RowKit
def qv:AD->Value
 | .pv v=>v
 |_=>undef
def AD.isPv:AD->Bool
 | .pv _=>true
 |_=>false
def AP1.pl:AP1->Value
 | .one d=>qv d
 | .agg ds=> .agg (ds.map qv).toArray
def AP1.isPl:AP1->Bool
 | .one d=>d.isPv
 | .agg ds=>ds.all AD.isPv
theorem hU{Z:Nat->Prop}{w:World}{d:AD}{u:Value}(h:d.isPv=true)(hr:bl Z w d u):u=qv d:=by
 cases hr with
 |pv=>rfl
 |sl=>cases h
 |x=>cases h
theorem Ch{Z:Nat->Prop}{w:World}{p:AP1}{u:Value}(h:p.isPl=true)(hr:dM Z w p u):u=p.pl:=by
 cases p with
 |one d=>exact hU h hr
 |agg ds=>
  obtain⟨us,rfl,hl,hh⟩:=hr
  have:us=ds.map qv:=by
   apply List.ext_getElem?
   intro i
   rw[List.getElem?_map]
   cases hd:ds[i]? with
   |none=>rw[List.getElem?_eq_none];rfl;rw[hl];exact List.getElem?_eq_none_iff.1 hd
   |some d=>
    have hlt:i<us.length:=by rw[hl];exact(List.getElem?_eq_some_iff.1 hd).1
    rw[List.getElem?_eq_getElem hlt]
    have hp:d.isPv=true:=List.all_eq_true.1 h d (List.mem_of_getElem? hd)
    simp[hU hp (hh i d us[i] hd (List.getElem?_eq_getElem hlt))]
  rw[this]
  rfl
theorem Io{E:aO}(he:E.Ok){Z:Nat->Prop}{w:World}(h:GZ E.W Z w):E.W w:=by
 obtain⟨w1,h1,h2,_⟩:=h
 exact he.below w1 w h1 h2
theorem aj.plain{E:aO}(he:E.Ok){f:FuncId}{args:List AP1}{v:Value}(enter:∀(us:Array Value) w,(callFunc f us).run E.P w= .ok (.enter f us) w)(hp:args.all AP1.isPl=true)(hv:v.oneCell'=true)
  (h:∀w,E.W w->Calls E.P f (args.map AP1.pl).toArray w λe w'=>e= .returned v/\Below w.heap.size w w'):aj E f args (.val (.one (.pv v))):=by
 refine⟨enter,λZ w us hz hg hl hr=>?_⟩
 have:us=args.map AP1.pl:=by
  apply List.ext_getElem?
  intro i
  rw[List.getElem?_map]
  cases hd:args[i]? with
  |none=>rw[List.getElem?_eq_none];rfl;rw[hl];exact List.getElem?_eq_none_iff.1 hd
  |some d=>
   have hlt:i<us.length:=by rw[hl];exact(List.getElem?_eq_some_iff.1 hd).1
   rw[List.getElem?_eq_getElem hlt]
   have hp:d.isPl=true:=List.all_eq_true.1 hp d (List.mem_of_getElem? hd)
   simp[Ch hp (hr i d us[i] hd (List.getElem?_eq_getElem hlt))]
 subst this
 refine(h w (Io he hg)).mono ?_
 rintro e w' ⟨rfl,hb⟩
 exact⟨v,Z,rfl,hb,λ_ h=>h,λ_ h=> .inl h,.pv v hv⟩
theorem Ec{w w':World}(h:w=w'):Below w.heap.size w w':=by subst h;exact Below.refl _ _
end Go.Proofs.YtehobfglmeiglaaGreatDoor
namespace Go.Proofs.YtehobfglmeiglaaGreatDoor
open Go.RowKit
theorem pc{α:Type}{us:List (List α)}{s:Nat}(h:∀u∈us,u.length=s):∀{k r:Nat} {u:List α},us[k]? =some u->r<s->us.flatten[k*s+r]? =u[r]? :=by
 induction us with
 |nil=>intro k r u hu;simp at hu
 |cons x l ih=>
  intro k r u hu hr
  have hx:=h x Mr
  cases k with
  |zero=>
   simp at hu
   subst hu
   rw[List.flatten_cons,Nat.zero_mul,Nat.zero_add,List.getElem?_append_left Mo]
  |succ k=>
   rw[List.flatten_cons,List.getElem?_append_right (by rw[hx,Nat.succ_mul];omega),hx,show(k+1)*s+r-s=k*s+r by rw[Nat.succ_mul];omega]
   exact ih (λu hu=>h u (by simp[hu])) (by simpa using hu) hr
theorem vL{α:Type}{us:List (List α)}{s:Nat}(h:∀u∈us,u.length=s):us.flatten.length=us.length*s:=by
 induction us with
 |nil=>simp
 |cons x l ih=>rw[List.flatten_cons,List.length_append,ih λu hu=>h u (by simp[hu]),h x Mr,List.length_cons,Nat.succ_mul];omega
inductive gq (w:World):(Nat->Prop)->AD->Value->Prop
 |pv (P:Nat->Prop) (v:Value) (h1:v.oneCell'=true):gq w P (.pv v) v
 |emp (P:Nat->Prop) (A:Option Addr) (cap:Nat) (hm:cap<=maxLen):gq w P (.sl []) (.slice A 0 cap)
 |sl (P:Nat->Prop) (xs:List (List AD)) (e:TypeId) (s:Nat) (us:List (List Value)) (v:Value) (Q:Nat->Nat->Prop)
   (hs:0<s) (hl:us.length=xs.length) (hx:∀x∈xs,x.length=s) (hu:∀u∈us,u.length=s)
   (hown:w.ownsRow 0 e s v xs.length us.flatten)
   (hb:∀b,aZ v=some b->P b/\∀i,¬Q i b) (hQ:∀i b,Q i b->P b) (hd:∀i j b,Q i b->Q j b->i=j)
   (h:∀(i:Nat) a u,xs.flatten[i]? =some a->us.flatten[i]? =some u->gq w (Q i) a u):gq w P (.sl xs) v
section
variable {w w':World} {P P':Nat->Prop} {d:AD} {v:Value}
theorem gq.mono(hp:∀b,P b->P' b)(h:gq w P d v):gq w P' d v:=by
 cases h with
 |pv P v h1=>exact .pv _ _ h1
 |emp P A cap hm=>exact .emp _ A cap hm
 |sl P xs e s us v Q hs hl hx hu hown hb hQ hd h=>exact .sl _ xs e s us _ Q hs hl hx hu hown (λb e=>⟨hp b (hb b e).1,(hb b e).2⟩) (λi b q=>hp b (hQ i b q)) hd h
theorem gq.keep(h:gq w P d v)(hk:∀b,P b->w'.heap[b]? =w.heap[b]?):gq w' P d v:=by
 induction h with
 |pv P v h1=>exact .pv _ v h1
 |emp P A cap hm=>exact .emp _ A cap hm
 |sl P xs e s us v Q hs hl hx hu hown hb hQ hd h ih=>
  refine .sl _ xs e s us v Q hs hl hx hu ⟨hown.1,?_⟩ hb hQ hd λi a u ha hu=>ih i a u ha hu λb q=>hk b (hQ i b q)
  rcases hown.2 with h0|⟨g,cap,cur,hv,hbg,hg,r⟩
  ·exact .inl h0
  ·exact .inr ⟨g,cap,cur,hv,hbg,(hk g (hb g (by rw[hv];rfl)).1).trans hg,r⟩
theorem gq.one(h:gq w P d v):v.oneCell'=true:=by
 cases h with
 |pv P v h1=>exact h1
 |emp P A cap hm=>rfl
 |sl P xs e s us v Q hs hl hx hu hown hb hQ hd h=>rcases hown.2 with⟨hv,_⟩|⟨g,cap,cur,hv,_⟩<;>rw[hv]<;>rfl
theorem gq.relD{Z:Nat->Prop}(h:gq w P d v)(hz:∀b,P b->Z b):bl Z w d v:=by
 induction h with
 |pv P v h1=>exact .pv v h1
 |emp P A cap hm=>exact .sl [] A cap 1 [] (Nat.zero_le _) hm rfl Mr Mr (.inl rfl) Mr
 |sl P xs e s us v Q hs hl hx hu hown hb hQ hd h ih=>
  have key:∀(i j:Nat) x u a b,xs[i]? =some x->us[i]? =some u->x[j]? =some a->u[j]? =some b->bl Z w a b:=λi j x u a b h1 h2 h3 h4=>by
   have hj:j<s:=by rw[<-hx x (List.mem_of_getElem? h1)];exact(List.getElem?_eq_some_iff.1 h3).1
   exact ih (i*s+j) a b (by rw[pc hx h1 hj];exact h3) (by rw[pc hu h2 hj];exact h4) λb q=>hz b (hQ _ b q)
  rcases hown.2 with⟨hv,hn⟩|⟨g,cap,cur,hv,_,hg,h1,h2,h3,h4⟩
  ·have:xs=[]:=List.eq_nil_of_length_eq_zero hn
   subst this hv
   exact .sl [] none 0 0 [] (Nat.le_refl _) (Nat.zero_le _) rfl Mr Mr (.inl rfl) Mr
  ·subst hv
   exact .sl xs _ cap s us h1 h2 hl hx hu (.inr ⟨g,0,rfl,hz g (hb g rfl).1,λi u hu=>by rw[Nat.zero_add];exact je hown rfl hu⟩) key
end
def dp(w:World)(P:Nat->Prop)(ds:List AD)(us:List Value):Prop:=
 us.length=ds.length/\∃Q:Nat->Nat->Prop,(∀i b,Q i b->P b)/\(∀i j b,Q i b->Q j b->i=j)/\∀(i:Nat) a u,ds[i]? =some a->us[i]? =some u->gq w (Q i) a u
section
variable {w w':World} {P P1 P2 P':Nat->Prop} {ds d1 d2:List AD} {us u1 u2:List Value}
theorem dp.mono(hp:∀b,P b->P' b)(h:dp w P ds us):dp w P' ds us:=by
 obtain⟨l,Q,q,e,r⟩:=h
 exact⟨l,Q,λi b h=>hp b (q i b h),e,r⟩
theorem dp.keep(h:dp w P ds us)(hk:∀b,P b->w'.heap[b]? =w.heap[b]?):dp w' P ds us:=by
 obtain⟨l,Q,q,e,r⟩:=h
 exact⟨l,Q,q,e,λi a u ha hu=>(r i a u ha hu).keep λb h=>hk b (q i b h)⟩
theorem dp.nil:dp w P [] []:=⟨rfl,λ_ _=>False,λ_ _ h=>h.elim,λ_ _ _ h=>h.elim,λi a u ha=>by simp at ha⟩
theorem dp.append(h1:dp w P1 d1 u1)(h2:dp w P2 d2 u2)(hd:∀b,P1 b->P2 b->False)(a1:∀b,P1 b->P b)(a2:∀b,P2 b->P b):dp w P (d1++d2) (u1++u2):=by
 obtain⟨l1,Q1,q1,e1,r1⟩:=h1
 obtain⟨l2,Q2,q2,e2,r2⟩:=h2
 refine⟨by simp[l1,l2],λi b=>if i<d1.length then Q1 i b else Q2 (i-d1.length) b,?_,?_,?_⟩
 ·intro i b h
  split at h
  ·exact a1 b (q1 _ _ h)
  ·exact a2 b (q2 _ _ h)
 ·intro i j b h h'
  split at h<;>split at h'
  ·exact e1 i j b h h'
  ·exact(hd b (q1 _ _ h) (q2 _ _ h')).elim
  ·exact(hd b (q1 _ _ h') (q2 _ _ h)).elim
  ·have:=e2 _ _ b h h'
   omega
 ·intro i a u ha hu
  by_cases hi:i<d1.length
  ·rw[List.getElem?_append_left hi]at ha
   rw[List.getElem?_append_left Mo]at hu
   simp only[if_pos hi]
   exact r1 i a u ha hu
  ·rw[List.getElem?_append_right Mo]at ha
   rw[List.getElem?_append_right Mo,l1]at hu
   simp only[if_neg hi]
   exact r2 _ a u ha hu
theorem dp.split(h:dp w P (d1++d2) us):∃(u1 u2:List Value) (P1 P2:Nat->Prop),us=u1++u2/\(∀b,P1 b->P2 b->False)/\(∀b,P1 b->P b)/\(∀b,P2 b->P b)/\dp w P1 d1 u1/\dp w P2 d2 u2:=by
 obtain⟨l,Q,q,e,r⟩:=h
 have hl:us.length=d1.length+d2.length:=by simpa using l
 refine⟨us.take d1.length,us.drop d1.length,λb=>∃i,i<d1.length/\Q i b,λb=>∃i,Q (d1.length+i) b,(List.take_append_drop _ _).symm,?_,?_,?_,⟨by simp;omega,λi b=>i<d1.length/\Q i b,?_,?_,?_⟩,⟨by simp;omega,λi b=>Q (d1.length+i) b,?_,?_,?_⟩⟩
 ·rintro b ⟨i,hi,h1⟩ ⟨j,h2⟩
  have:=e _ _ _ h1 h2
  omega
 ·rintro b ⟨i,_,h⟩;exact q _ _ h
 ·rintro b ⟨i,h⟩;exact q _ _ h
 ·rintro i b ⟨hi,h⟩;exact⟨i,hi,h⟩
 ·rintro i j b ⟨_,h⟩ ⟨_,h'⟩;exact e _ _ _ h h'
 ·intro i a u ha hu
  have hi:i<d1.length:=(List.getElem?_eq_some_iff.1 ha).1
  refine(r i a u (by rw[List.getElem?_append_left hi];exact ha) ?_).mono λb h=>⟨hi,h⟩
  rw[List.getElem?_take,if_pos hi]at hu
  exact hu
 ·intro i b h;exact⟨i,h⟩
 ·intro i j b h h'
  have:=e _ _ _ h h'
  omega
 ·intro i a u ha hu
  refine r _ a u (by rw[List.getElem?_append_right Mo];simpa using ha) ?_
  rw[List.getElem?_drop]at hu
  exact hu
theorem dp.one{d:AD}{v:Value}(h:gq w P d v):dp w P [d] [v]:=by
 refine⟨rfl,λi b=>i=0/\P b,λi b h=>h.2,λi j b h h'=>by omega,λi a u ha hu=>?_⟩
 cases i with
 |zero=>simp at ha hu;subst ha hu;exact h.mono λb hb=>⟨rfl,hb⟩
 |succ i=>simp at ha
theorem dp.get{i:Nat}{a:AD}{u:Value}(h:dp w P ds us)(ha:ds[i]? =some a)(hu:us[i]? =some u):gq w P a u:=by
 obtain⟨l,Q,q,e,r⟩:=h
 exact(r i a u ha hu).mono λb h=>q i b h
theorem dp.relD{Z:Nat->Prop}(h:dp w P ds us)(hz:∀b,P b->Z b):us.length=ds.length/\∀(i:Nat) a u,ds[i]? =some a->us[i]? =some u->bl Z w a u:=⟨h.1,λi a u ha hu=>(h.get ha hu).relD hz⟩
end
def Fam(lo hi:Nat)(cs ds:List AD):Prop:=
 cs.length=ds.length/\∀(Z:Nat->Prop) (w:World) (us:List Value),us.length=cs.length->(∀(i:Nat) c u,cs[i]? =some c->us[i]? =some u->bl Z w c u)->dp w (λb=>lo<=b/\b<hi/\Z b) ds us
def AD.isBl:AD->Bool
 | .pv _=>true
 | .sl []=>true
 |_=>false
theorem Gl{Z P:Nat->Prop}{w:World}{d:AD}{u:Value}(hb:d.isBl=true)(h:bl Z w d u):gq w P d u:=by
 cases h with
 |pv _ h1=>exact .pv _ _ h1
 |sl xs A cap s us hc hm hl hx hu hr h=>
  cases xs with
  |nil=>exact .emp _ _ _ hm
  |cons x r=>cases hb
 |x R _ h1 h=>cases hb
theorem Fam.blank{lo hi:Nat}{ds:List AD}(h:ds.all AD.isBl=true):Fam lo hi ds ds:=by
 refine⟨rfl,λZ w us hl hr=>⟨hl,λ_ _=>False,λ_ _ h=>h.elim,λ_ _ _ h=>h.elim,λi a u ha hu=>?_⟩⟩
 exact Gl (List.all_eq_true.1 h a (List.mem_of_getElem? ha)) (hr i a u ha hu)
theorem Fam.mono{lo hi lo' hi':Nat}{cs ds:List AD}(h:Fam lo hi cs ds)(h1:lo'<=lo)(h2:hi<=hi'):Fam lo' hi' cs ds:=
 ⟨h.1,λZ w us hl hr=>(h.2 Z w us hl hr).mono λb hb=>⟨by omega,by omega,hb.2.2⟩⟩
theorem Fam.app{lo m l2 h2:Nat}{c1 d1 c2 d2:List AD}(h:Fam lo m c1 d1)(h':Fam l2 h2 c2 d2)(e1:m<=l2)(e2:lo<=m)(e3:m<=h2):Fam lo h2 (c1++c2) (d1++d2):=by
 refine⟨by simp[h.1,h'.1],λZ w us hl hr=>?_⟩
 have hlen:us.length=c1.length+c2.length:=by simpa using hl
 have t1:=h.2 Z w (us.take c1.length) Mv λi c u hc hu=>by
  have hi:i<c1.length:=(List.getElem?_eq_some_iff.1 hc).1
  rw[List.getElem?_take,if_pos hi]at hu
  exact hr i c u (by rw[List.getElem?_append_left hi];exact hc) hu
 have t2:=h'.2 Z w (us.drop c1.length) Mv λi c u hc hu=>by
  rw[List.getElem?_drop]at hu
  exact hr _ c u (by rw[List.getElem?_append_right Mo];simpa using hc) hu
 have:=t1.append (P:=λb=>lo<=b/\b<h2/\Z b) t2 (λb p q=>by omega) (λb p=>⟨p.1,by omega,p.2.2⟩) λb p=>⟨by omega,p.2.1,p.2.2⟩
 rwa[List.take_append_drop]at this
theorem Fam.flat_set{lo m l2 h2:Nat}{cs ds:List (List AD)}{c d:List AD}(h:Fam lo m cs.flatten ds.flatten)(h':Fam l2 h2 c d)(e1:m<=l2)(e2:lo<=m)(e3:m<=h2):Fam lo h2 (cs++[c]).flatten (ds++[d]).flatten:=by
 rw[List.flatten_append,List.flatten_append]
 simpa using h.app h' e1 e2 e3
def Cm(lo hi:Nat)(w:World):AP1->Value->Prop
 | .one d,v=>dp w (λb=>lo<=b/\b<hi) [d] [v]
 | .agg ds,v=>∃us:List Value,v= .agg us.toArray/\dp w (λb=>lo<=b/\b<hi) ds us
structure bC (E:aO) (f:FuncId) (args:List AP1) (res:AP1):Prop where
 enter:∀(us:Array Value) w,(callFunc f us).run E.P w= .ok (.enter f us) w
 run:∀(Z:Nat->Prop) (w:World) (us:List Value),(∀b,Z b->b<w.heap.size)->GZ E.W Z w->us.length=args.length->(∀(i:Nat) p u,args[i]? =some p->us[i]? =some u->dM Z w p u)->
  Calls E.P f us.toArray w λe w'=>∃v,e= .returned v/\Below w.heap.size w w'/\Cm w.heap.size w'.heap.size w' res v
theorem Cm.relP{lo hi:Nat}{w:World}{p:AP1}{v:Value}{Z:Nat->Prop}(h:Cm lo hi w p v)(hz:∀b,lo<=b->b<hi->Z b):dM Z w p v:=by
 cases p with
 |one d=>exact(dp.relD h λb hb=>hz b hb.1 hb.2).2 0 d v rfl rfl
 |agg ds=>
  obtain⟨us,rfl,h⟩:=h
  have:=dp.relD h λb hb=>hz b hb.1 hb.2
  exact⟨us,rfl,this.1,this.2⟩
theorem bC.pcall{E:aO}{f:FuncId}{args:List AP1}{res:AP1}(h:bC E f args res):aj E f args (.val res):=by
 refine⟨h.enter,λZ w us hz hg hl hr=>(h.run Z w us hz hg hl hr).mono ?_⟩
 rintro e w' ⟨v,rfl,hb,hv⟩
 exact⟨v,λb=>Z b\/(w.heap.size<=b/\b<w'.heap.size),rfl,hb,λb hb=> .inl hb,λb hb=>hb,hv.relP λb h1 h2=> .inr ⟨h1,h2⟩⟩
def Rm(n m:Nat):(Nat->Prop)->World->Value->Prop:=λZ _ _=>m<=n\/∃k,m=k+1/\Z k
def dR(n m:Nat):AO:= .frame [.one (.d (.x (Rm n m)))] [.bool true]
theorem wh{Z:Nat->Prop}{w:World}{ρ:Nat->Value}{id n m:Nat}(hρ:ρ id=undef)(h:m<=n\/∃k,m=k+1/\Z k):bp Z w ρ id (dR n m):=by
 refine⟨hρ,rfl,λi x u hx hu=>?_⟩
 cases i with
 |zero=>
  simp at hx hu
  subst hx hu
  refine .one _ _ (show bl Z w (.x (Rm n m)) (.bool true)from .x _ _ rfl λZ' w' hz hb=>?_)
  rcases h with h|⟨k,e,h⟩
  ·exact .inl h
  ·exact .inr ⟨k,e,hz k h⟩
 |succ i=>simp at hx
theorem EP{Z:Nat->Prop}{w:World}{ρ:Nat->Value}{id n m:Nat}(h:bp Z w ρ id (dR n m)):m<=n\/∃k,m=k+1/\Z k:=by
 have:=h.2.2 0 _ _ rfl rfl
 cases this with
 |one _ _ h=>
  have h:bl Z w (.x (Rm n m)) (.bool true):=h
  cases h with
  |x R v h1 h=>exact h Z w (λ_ h=>h) λ_ _=>rfl
theorem WS.reframe{T:World->Prop}{S:ba}{Z:Nat->Prop}{w:World}{ρ:Nat->Value}{ob:List (Nat×AO)}(h:WS T S Z w ρ ob){id:Nat}{vs:List AV}{us:List Value}(hrel:bp Z w ρ id (.frame vs us)):WS T S Z w ρ (dG ob id (.frame vs us)):=by
 have nob:aZ (ρ id)=none:=by rw[hrel.1];rfl
 refine⟨h.os,h.tape,h.output,h.size,h.old,h.zlt,λj o b ho hb=>?_,λi j oi oj b hi hj hij hbi hbj=>?_,λj o ho=>?_,⟨λj P Q ho=>?_,λi j P Q P' Q' hi hj=>?_⟩,h.g,h.z0,h.znew⟩
 ·rw[bD]at ho
  split at ho
  ·rename_i e;subst e;rw[nob]at hb;cases hb
  ·exact h.mine j o b ho hb
 ·rw[bD]at hi hj
  split at hi
  ·rename_i e;subst e;rw[nob]at hbi;cases hbi
  ·split at hj
   ·rename_i e;subst e;rw[nob]at hbj;cases hbj
   ·exact h.sep i j oi oj b hi hj hij hbi hbj
 ·rw[bD]at ho
  split at ho
  ·rename_i e;subst e;injection ho with ho;subst ho;exact hrel.up
  ·exact h.obj j o ho
 ·rw[bD]at ho
  split at ho
  ·cases ho
  ·obtain⟨h1,h2⟩:=h.many.ok j P Q ho
   refine⟨λb hb=>⟨(h1 b hb).1,(h1 b hb).2.1,(h1 b hb).2.2.1,λi o hi hbi=>?_⟩,h2⟩
   rw[bD]at hi
   split at hi
   ·rename_i e;subst e;rw[nob]at hbi;cases hbi
   ·exact(h1 b hb).2.2.2 i o hi hbi
 ·rw[bD]at hi hj
  split at hi
  ·cases hi
  ·split at hj
   ·cases hj
   ·exact h.many.sep i j P Q P' Q' hi hj
def iy(R:Nat->(Nat->Prop)->World->Value->Prop):Nat->List AD->List AD
 |_,[]=>[]
 |i,.pv v::r=> .pv v::iy R (i+1) r
 |i,_::r=> .x (R i)::iy R (i+1) r
def Gd(R:Nat->(Nat->Prop)->World->Value->Prop):AP1->AV
 | .one (.pv v)=> .one (.d (.pv v))
 | .one _=> .one (.d (.x (R 0)))
 | .agg ds=> .agg ((iy R 0 ds).map .d)
def zD:AP1->List AD
 | .one d=>[d]
 | .agg ds=>ds
theorem gJ(R:Nat->(Nat->Prop)->World->Value->Prop):∀(ds:List AD) (i:Nat),(iy R i ds).length=ds.length
 |[],_=>rfl
 | .pv _::r,i=>by simp[iy,gJ R r]
 | .sl _::r,i=>by simp[iy,gJ R r]
 | .x _::r,i=>by simp[iy,gJ R r]
theorem tK(R:Nat->(Nat->Prop)->World->Value->Prop):∀{ds:List AD} {k i:Nat} {c:AD},(iy R k ds)[i]? =some c->∃d,ds[i]? =some d/\((∃v,d= .pv v/\c= .pv v)\/c= .x (R (k+i)))
 |[],_,_,_,h=>by simp[iy]at h
 |d::r,k,0,c,h=>by
  refine⟨d,rfl,?_⟩
  cases d with
  |pv v=>simp[iy]at h;exact .inl ⟨v,rfl,h.symm⟩
  |sl xs=>simp[iy]at h;exact .inr h.symm
  |x R'=>simp[iy]at h;exact .inr h.symm
 |d::r,k,i+1,c,h=>by
  have h':(iy R (k+1) r)[i]? =some c:=by cases d<;>simpa[iy]using h
  obtain⟨d',h1,h2⟩:=tK R h'
  refine⟨d',by simpa using h1,?_⟩
  rcases h2 with h2|h2
  ·exact .inl h2
  ·exact .inr (by rw[h2];congr 2;omega)
section
variable {E:aO} {S:ba}
theorem aa.fresh{f:FuncId}{args:List AV}{tm:List AV}{ob:List (Nat×AO)}{K:AV->ASt->Prop}{ps:List AP1}{res:AP1}{m:Nat}(hc:bC E f ps res)(hps:aRs ob args (· =ps))(hm:aOb ob 9997 λo=>o=dR S.w0.heap.size m)
  (hk:∀R lo hi,m<=lo->lo<=hi->Fam lo hi (iy R 0 (zD res)) (zD res)->dN 9997 (dR S.w0.heap.size hi) ob λob=>K (Gd R res) ⟨tm,ob⟩):aa E S f args ⟨tm,ob⟩ K:=by
 refine⟨hc.enter,λZ ρ a w us hs hl hr=>?_⟩
 obtain⟨ps',h1,h2,rfl⟩:=mT hs.ws hl hr hps
 obtain⟨o,ho,rfl⟩:=bY hm
 have hmark:=EP (hs.ws.obj 9997 _ ho)
 have hρ:ρ 9997=undef:=(hs.ws.obj 9997 _ ho).1
 have hmle:m<=w.heap.size:=by
  rcases hmark with h|⟨k,e,h⟩
  ·exact Nat.le_trans h hs.ws.size
  ·have:=hs.ws.zlt k h;omega
 refine(hc.run (iB Z ρ ob) w us (iB.lt hs.ws) ?_ h1 h2).mono ?_
 ·obtain⟨w1,g1,g2,g3⟩:=hs.ws.g
  exact⟨w1,g1,g2,λb hb=> .inl (g3 b hb)⟩
 ·rintro e w' ⟨v,rfl,hb,hv⟩
  have hsz:=hb.size
  obtain⟨us',hf,hvu⟩:∃us',dp w' (λb=>w.heap.size<=b/\b<w'.heap.size) (zD res) us'/\(match res with| .one _=>us'=[v]| .agg _=>v= .agg us'.toArray):=by
   cases res with
   |one d=>exact⟨[v],hv,rfl⟩
   |agg ds=>obtain⟨us',e,h⟩:=hv;exact⟨us',h,e⟩
  obtain⟨lF,Q,q,eQ,rQ⟩:=hf
  let R:Nat->(Nat->Prop)->World->Value->Prop:=λi Zx wx u=>(∀b,Q i b->Zx b)/\∃a,(zD res)[i]? =some a/\gq wx (Q i) a u
  let Z':Nat->Prop:=λb=>Z b\/(w.heap.size<=b/\b<w'.heap.size)
  have hg:=hs.grow (Z':=Z') (er hb) (λb h=> .inl h) λb h=>h
  have hcell:∀(i:Nat) c u,(iy R 0 (zD res))[i]? =some c->us'[i]? =some u->bl Z' w' c u:=by
   intro i c u hc hu
   obtain⟨d,hd,h⟩:=tK R hc
   have ht:=rQ i d u hd hu
   rcases h with⟨x,rfl,rfl⟩|h
   ·cases ht with|pv _ _ h1=>exact .pv _ h1
   ·rw[Nat.zero_add]at h
    subst h
    refine .x _ _ ht.one λZx wx hzx hbx=>⟨λb hb=>hzx b (.inr (q i b hb)),d,hd,ht.keep λb hb=>hbx b (.inr (q i b hb))⟩
  have hfam:∀lo hi:Nat,(∀b,w.heap.size<=b->b<w'.heap.size->lo<=b/\b<hi)->Fam lo hi (iy R 0 (zD res)) (zD res):=by
   intro lo hi hlh
   refine⟨gJ R _ _,λZx wx ux hl hr=>⟨by rw[hl,gJ],λi b=>Q i b/\Zx b,λi b h=>?_,λi j b h h'=>eQ i j b h.1 h'.1,λi a u ha hu=>?_⟩⟩
   ·have:=hlh b (q i b h.1).1 (q i b h.1).2
    exact⟨this.1,this.2,h.2⟩
   ·have hi:i<(iy R 0 (zD res)).length:=by rw[gJ];exact(List.getElem?_eq_some_iff.1 ha).1
    obtain⟨d,hd,h⟩:=tK R (List.getElem?_eq_getElem hi)
    have hrel:=hr i _ u (List.getElem?_eq_getElem hi) hu
    rw[ha]at hd
    injection hd with hd
    subst hd
    rcases h with⟨x,e1,e2⟩|h
    ·rw[e2]at hrel
     rw[e1]
     cases hrel with|pv _ h1=>exact .pv _ _ h1
    ·rw[h,Nat.zero_add]at hrel
     cases hrel with
     |x _ _ h1 hR=>
      obtain⟨hz,a',ha',ht⟩:=hR Zx wx (λ_ h=>h) λ_ _=>rfl
      rw[ha]at ha'
      injection ha' with ha'
      subst ha'
      exact ht.mono λb hb=>⟨hb,hz b hb⟩
  have hval:aT Z' w' ρ (Gd R res) v:=by
   cases res with
   |one d=>
    simp only at hvu
    subst hvu
    cases d with
    |pv x=>exact .one _ _ (hcell 0 (.pv x) v rfl rfl)
    |sl xs=>exact .one _ _ (hcell 0 (.x (R 0)) v rfl rfl)
    |x R'=>exact .one _ _ (hcell 0 (.x (R 0)) v rfl rfl)
   |agg ds=>
    simp only at hvu
    subst hvu
    refine .agg _ us' (by rw[List.length_map,gJ];exact lF) λi c u hc hu=>?_
    rw[List.getElem?_map]at hc
    obtain⟨d,hd,rfl⟩:=Option.map_eq_some_iff.1 hc
    exact hcell i d u hd hu
  have fin:∀hi:Nat,(hi<=S.w0.heap.size\/∃k,hi=k+1/\Z' k)->Sim E.W S Z' ρ ⟨tm,dG ob 9997 (dR S.w0.heap.size hi)⟩ a w':=λhi h=>
   ⟨hg.ws.reframe (wh hρ h),hg.len,hg.tm,hg.df⟩
  by_cases hlt:w.heap.size<w'.heap.size
  ·refine⟨v,_,_,Z',ρ,rfl,fin w'.heap.size (.inr ⟨w'.heap.size-1,by omega,.inr Mo⟩),hval,cG (K:=λob=>K (Gd R res) ⟨tm,ob⟩) (hk R w.heap.size w'.heap.size hmle hsz (hfam _ _ λb h1 h2=>⟨h1,h2⟩))⟩
  ·refine⟨v,_,_,Z',ρ,rfl,fin m ?_,hval,cG (K:=λob=>K (Gd R res) ⟨tm,ob⟩) (hk R m m (Nat.le_refl _) (Nat.le_refl _) (hfam _ _ λb h1 h2=>by omega))⟩
   rcases hmark with h|⟨k,e,h⟩
   ·exact .inl h
   ·exact .inr ⟨k,e,.inl h⟩
def BM(ob:List (Nat×AO))(n:Nat)(x:AV)(res:AP1):Prop:=
 match x with
 | .one .nil=>res= .one (.sl [])
 | .one (.own id)=>aOb ob id λo=>match o with
  | .row _ s xs=>∃(lo hi:Nat) (ys:List (List AD)),n<=lo/\Fam lo hi xs.flatten ys.flatten/\ys.length=xs.length/\(∀y∈ys,y.length=s)/\res= .one (.sl ys)
  |_=>False
 | .one (.d c)=>∃(lo hi:Nat) (d:AD),n<=lo/\Fam lo hi [c] [d]/\res= .one d
 | .agg cs=>yl cs λcs'=>∃(lo hi:Nat) (ds:List AD),n<=lo/\Fam lo hi cs' ds/\res= .agg ds
 |_=>False
def ye(E:aO)(st:ASt)(n:Nat)(rs:List ResultVar)(res:AP1):Prop:=
 match rs with
 |[.tmp t]=>aTm st.tm t λv=>BM st.ob n v res
 |[.cell t ty]=>aTm st.tm t λx=>oQ E st ty x λv=>BM st.ob n v res
 |_=>False
def K3(E:aO)(rs:List ResultVar)(n:Nat)(res:AP1):Exit->ASt->Prop
 | .ret,st=>ye E st n rs res
 | .normal,st=>ye E st n rs res
 |_,_=>False
theorem vg{st:ASt}{Z:Nat->Prop}{ρ:Nat->Value}{w:World}(h:WS E.W S Z w ρ st.ob)(hO:∀b,¬S.O b){x:AV}{v:Value}{res:AP1}(hv:aT Z w ρ x v)(hk:BM st.ob S.w0.heap.size x res):Cm S.w0.heap.size w.heap.size w res v:=by
 have up:∀{lo hi:Nat} {ds us},S.w0.heap.size<=lo->dp w (λb=>lo<=b/\b<hi/\Z b) ds us->dp w (λb=>S.w0.heap.size<=b/\b<w.heap.size) ds us:=λhn hf=>hf.mono λb hb=>⟨by omega,h.zlt b hb.2.2⟩
 unfold BM at hk
 split at hk
 ·subst hk
  cases hv with
  |one _ _ hv=>
   have hv:v= .slice none 0 0:=hv
   subst hv
   exact .one (.emp _ _ _ (Nat.zero_le _))
 ·rename_i id
  obtain⟨o,ho,hk⟩:=bY hk
  split at hk
  ·rename_i e s xs
   obtain⟨lo,hi,ys,hn,hf,hyl,hys,rfl⟩:=hk
   obtain⟨us,h0,hl,hxs,hus,hown,hd⟩:=h.obj id _ ho
   cases hv with
   |one _ _ hv=>
    have hv:v=ρ id:=hv.1
    subst hv
    have hlx:xs.flatten.length=xs.length*s:=vL hxs
    obtain⟨lF,Q,q,eQ,rQ⟩:=hf.2 Z w us.flatten (by rw[vL hus,hlx,hl]) λi c u hc hu=>by
     have hi:i<xs.length*s:=by rw[<-hlx];exact(List.getElem?_eq_some_iff.1 hc).1
     have hs:0<s:=h0
     have hdm:i=i/s*s+i % s:=(Nat.div_add_mod' i s).symm
     have hr:i % s<s:=Nat.mod_lt _ hs
     have hk:i/s<xs.length:=Nat.div_lt_of_lt_mul (by rw[Nat.mul_comm];exact hi)
     rw[hdm,pc hxs (List.getElem?_eq_getElem hk) hr]at hc
     rw[hdm,pc hus (List.getElem?_eq_getElem Mo) hr]at hu
     exact hd _ _ _ _ c u (List.getElem?_eq_getElem hk) (List.getElem?_eq_getElem Mo) hc hu
    refine .one (.sl _ ys e s us _ Q h0 (by rw[hl,hyl]) hys hus (by rw[hyl];exact hown) (λb hb=>?_) (λi b hb=>⟨by have:=(q i b hb).1;omega,h.zlt b (q i b hb).2.2⟩) eQ rQ)
    have hm:=h.mine id _ b ho hb
    exact⟨⟨hm.2.resolve_right (hO b),h.lt ho hb⟩,λi hq=>hm.1 (q i b hq).2.2⟩
  ·exact hk.elim
 ·obtain⟨lo,hi,d,hn,hf,rfl⟩:=hk
  cases hv with
  |one _ _ hv=>
   refine up hn (hf.2 Z w [v] rfl λi c' u hc hu=>?_)
   cases i with
   |zero=>simp at hc hu;subst hc hu;exact hv
   |succ i=>simp at hc
 ·rename_i cs
  obtain⟨cs',hk,hl',hr'⟩:=gx hk
  obtain⟨lo,hi,ds,hn,hf,rfl⟩:=hk
  cases hv with
  |agg _ us hl hr=>
   refine⟨us,rfl,up hn (hf.2 Z w us (by rw[hl,hl']) λi c u hc hu=>?_)⟩
   have hi:i<cs.length:=by rw[<-hl'];exact(List.getElem?_eq_some_iff.1 hc).1
   exact hr' i c cs[i] u hc (List.getElem?_eq_getElem hi) (hr i _ u (List.getElem?_eq_getElem hi) hu)
 ·exact hk.elim
theorem CA{st:ASt}(he:E.Ok){Z:Nat->Prop}{ρ:Nat->Value}{a:Act}{w:World}(h:Sim E.W S Z ρ st a w)(hO:∀b,¬S.O b){fn:Func}{res:AP1}(hk:ye E st S.w0.heap.size fn.results.toList res):
  ∃v,(results fn a.tmps).run E.P w= .ok v w/\Cm S.w0.heap.size w.heap.size w res v:=by
 have hres:∀vs:List Value,(fn.results.toList.mapM (cJ a.tmps)).run E.P w= .ok vs w->(results fn a.tmps).run E.P w= .ok (if h:vs.toArray.size=1 then vs.toArray[0]else .tuple vs.toArray) w:=by
  intro vs hvs
  have e:results fn a.tmps=(do let vs<-fn.results.mapM (cJ a.tmps);pure (if h:vs.size=1 then vs[0]else .tuple vs)):=rfl
  rw[e,Sem.run_bind,Array.mapM_eq_mapM_toList,Sem.run_map,hvs]
  rfl
 unfold ye at hk
 split at hk
 ·rename_i t hr
  obtain⟨x,hx,hk⟩:=fE hk
  have hlt:t<a.tmps.size:=by rw[h.len];exact(List.getElem?_eq_some_iff.1 hx).1
  have hp:=vg h.ws hO (h.tm t x _ hx (Array.getElem?_eq_getElem hlt)) hk
  have h1:(cJ a.tmps (.tmp t)).run E.P w= .ok a.tmps[t] w:=by simp[cJ,hlt]
  have:=hres [a.tmps[t]] (by rw[hr,List.mapM_cons,Sem.run_bind,h1];rfl)
  exact⟨a.tmps[t],this,hp⟩
 ·rename_i t ty hr
  obtain⟨x,hx,hk⟩:=fE hk
  have hlt:t<a.tmps.size:=by rw[h.len];exact(List.getElem?_eq_some_iff.1 hx).1
  obtain⟨b,off,v,y,e,hrl,hy,hk⟩:=pC he h (h.tm t x _ hx (Array.getElem?_eq_getElem hlt)) hk
  have hp:=vg h.ws hO hy hk
  have h1:(cJ a.tmps (.cell t ty)).run E.P w= .ok v w:=by simp[cJ,hlt,e,asAddr,hrl]
  have:=hres [v] (by rw[hr,List.mapM_cons,Sem.run_bind,h1];rfl)
  exact⟨v,this,hp⟩
 ·exact hk.elim
theorem aE(he:E.Ok){f:FuncId}{fn:Func}{c:Code}{n:Nat}{rs:List ResultVar}{args:List AP1}{res:AP1}(hf:E.P.funcs[f]? =some fn)(hb:fn.body=some c)
  (enter:∀(us:Array Value) w,(callFunc f us).run E.P w= .ok (.enter f us) w) (hn:fn.ntmps=n) (hrs:fn.results.toList=rs)
  (h:∀S:ba,x9 args n λtm=>AWP E S c (K3 E rs S.w0.heap.size res) ⟨tm,[(9997,dR S.w0.heap.size S.w0.heap.size)]⟩):bC E f args res:=by
 refine⟨enter,λZ w us hz hg hl hr=>?_⟩
 subst hn hrs
 obtain⟨hle,hk⟩:=mO (h ⟨w,λ_=>False,Z⟩)
 have hs:Sim E.W ⟨w,λ_=>False,Z⟩ Z (λ_=>undef) ⟨args.map AP1.v++List.replicate (fn.ntmps-args.length) (.one .und),[(9997,dR w.heap.size w.heap.size)]⟩ {tmps:=us.toArray++Array.replicate (fn.ntmps-us.toArray.size) undef,defers:=[]} w:=by
  have hw0:WS E.W ⟨w,λ_=>False,Z⟩ Z w (λ_=>undef) []:=⟨rfl,rfl,rfl,Nat.le_refl _,λ_ _ _=>rfl,hz,λid o b ho _=>(by cases ho),λi j oi oj b hi _ _ _ _=>(by cases hi),λid o ho=>(by cases ho),f0.nil,hg,λb hb=>hb,λb hb=> .inl hb⟩
  refine⟨hw0.reframe (id:=9997) (wh rfl (.inl (Nat.le_refl _))),by simp[hl],λi x v hx hv=>?_,rfl⟩
  simp only at hx hv
  have hv':(us++List.replicate (fn.ntmps-us.length) undef)[i]? =some v:=by
   have:=hv
   rw[<-Array.getElem?_toList]at this
   simpa using this
  by_cases hi:i<us.length
  ·rw[List.getElem?_append_left (by simpa[hl]using hi),List.getElem?_map]at hx
   obtain⟨p,hp,rfl⟩:=Option.map_eq_some_iff.1 hx
   rw[List.getElem?_append_left hi]at hv'
   exact(hr i p v hp hv').v
  ·rw[List.getElem?_append_right Mv]at hx
   rw[List.getElem?_append_right Mo]at hv'
   have e1:=List.eq_of_mem_replicate (List.mem_of_getElem? hx)
   have e2:=List.eq_of_mem_replicate (List.mem_of_getElem? hv')
   subst e1 e2
   exact .one _ _ (show cy Z w (λ_=>undef) .und undef from rfl)
 refine calls_of_wp hf hb (wp_mono (hk.run _ w ⟨Z,_,hs⟩) λe a' w' h'=>?_)
 obtain⟨st',⟨Z',ρ',hs'⟩,hk'⟩:=h'
 have fin:ye E st' w.heap.size fn.results.toList res->a'.defers=[]/\∃v,(results fn a'.tmps).run E.P w'= .ok v w'/\∃v0,Ending.returned v= .returned v0/\Below w.heap.size w w'/\Cm w.heap.size w'.heap.size w' res v0:=by
  intro hr
  obtain⟨v,h1,h2⟩:=CA he hs' (λb h=>h) hr
  exact⟨hs'.df,v,h1,v,rfl,⟨hs'.ws.os,hs'.ws.tape,hs'.ws.output,hs'.ws.size,λb hb=>hs'.ws.old b hb (λh=>h)⟩,h2⟩
 cases e with
 |normal=>exact fin hk'
 |ret=>exact fin hk'
 |_=>exact hk'.elim
end
end Go.Proofs.YtehobfglmeiglaaGreatDoor
