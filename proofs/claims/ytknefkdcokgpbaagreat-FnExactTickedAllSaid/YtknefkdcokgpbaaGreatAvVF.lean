/- AvVF -/
import Derived.Test.YtknefkdcokgpbaaGreatAvJ3
set_option maxHeartbeats 8000000
set_option linter.unusedVariables false
set_option linter.unusedSimpArgs false
set_option maxRecDepth 100000
namespace Go.Proofs.YtknefkdcokgpbaaGreat
section
open Go.RowKit
structure Cps {α:Type} (F:(α->Prop)->Prop):Prop where
 mono:∀{P Q:α->Prop},(∀x,P x->Q x)->F P->F Q
 dj:∀{K:α->Prop},F K->∃x,K x/\F (· =x)
section
variable {α β γ:Type}
theorem Cps.ret(x:α):Cps λK:α->Prop=>K x:=⟨λh hp=>h x hp,λh=>⟨x,h,rfl⟩⟩
theorem Yl:Cps λ_:α->Prop=>False:=⟨λ_ h=>h,λh=>h.elim⟩
theorem Cps.bind{G:(β->Prop)->Prop}{H:β->(α->Prop)->Prop}(hg:Cps G)(hh:∀y,Cps (H y)):Cps λK=>G λy=>H y K:=
 ⟨λh hp=>hg.mono (λy=>(hh y).mono h) hp,λhk=>by
  obtain⟨y,hy,g⟩:=hg.dj hk;obtain⟨x,hx,e⟩:=(hh y).dj hy;exact⟨x,hx,hg.mono (λy' e'=>by subst e';exact e) g⟩⟩
theorem Cps.map{G:(β->Prop)->Prop}(hg:Cps G)(f:β->α):Cps λK=>G λy=>K (f y):=hg.bind λy=>Cps.ret (f y)
theorem Cps.and{F:(α->Prop)->Prop}(p:Prop)(hf:Cps F):Cps λK=>p/\F K:=
 ⟨λh hp=>⟨hp.1,hf.mono h hp.2⟩,λhk=>by obtain⟨x,hx,e⟩:=hf.dj hk.2;exact⟨x,hx,hk.1,e⟩⟩
theorem Z7{F:β->(α->Prop)->Prop}(hf:∀y,Cps (F y)):Cps λK=>∃y,F y K:=
 ⟨λh ⟨y,hp⟩=>⟨y,(hf y).mono h hp⟩,fun⟨y,hk⟩=>by obtain⟨x,hx,e⟩:=(hf y).dj hk;exact⟨x,hx,y,e⟩⟩
theorem aay{F G:(α->Prop)->Prop}(p:Bool)(hf:Cps F)(hg:Cps G):Cps λK=>AB p (F K) (G K):=by
 cases p with
 |true=>exact⟨λh hp=>aav (hf.mono h (hp.t rfl)),λhk=>by obtain⟨x,hx,e⟩:=hf.dj (hk.t rfl);exact⟨x,hx,aav e⟩⟩
 |false=>exact⟨λh hp=>aau (hg.mono h (hp.f rfl)),λhk=>by obtain⟨x,hx,e⟩:=hg.dj (hk.f rfl);exact⟨x,hx,aau e⟩⟩
theorem Zc(k:IntKind)(n:Int){F:Int->(α->Prop)->Prop}(hf:∀c,Cps (F c)):Cps λK=>AW k n λc=>F c K:=
 ⟨λh ⟨⟨c,e,hp⟩⟩=>⟨⟨c,e,(hf c).mono h hp⟩⟩,fun⟨⟨c,e,hk⟩⟩=>by obtain⟨x,hx,g⟩:=(hf c).dj hk;exact⟨x,hx,⟨⟨c,e,g⟩⟩⟩⟩
theorem Z6(xs:List (List AD))(n:Int){F:Nat->List AD->(α->Prop)->Prop}(hf:∀k x,Cps (F k x)):Cps λK=>AIx xs n λk x=>F k x K:=
 ⟨λh ⟨⟨k,x,e1,e2,hp⟩⟩=>⟨⟨k,x,e1,e2,(hf k x).mono h hp⟩⟩,fun⟨⟨k,x,e1,e2,hk⟩⟩=>by obtain⟨y,hy,g⟩:=(hf k x).dj hk;exact⟨y,hy,⟨⟨k,x,e1,e2,g⟩⟩⟩⟩
theorem Y0{F G:(α->Prop)->Prop}(h:∀K,F K=G K)(hg:Cps G):Cps F:=by
 have:F=G:=funext h;rw[this];exact hg
end
section
variable {E:bB} {st:ASt}
theorem MI:∀(l:List AV) (n:Nat),Cps (aTm l n)
 |[],_=>Yl
 |x::_,0=>Cps.ret x
 |_::r,n+1=>MI r n
theorem zW:∀(l:List (Nat×AO)) (i:Nat),Cps (aOb l i)
 |[],_=>Yl
 |(k,o)::r,i=>by
  refine Y0 (G:=λK=>match Nat.beq k i with|true=>K o|false=>aOb r i K) (λK=>rfl) ?_;cases Nat.beq k i with
  |true=>exact Cps.ret o
  |false=>exact zW r i
theorem rT{α:Type}:∀(l:List α) (n:Nat),Cps (ov l n)
 |[],_=>Yl
 |x::_,0=>Cps.ret x
 |_::r,n+1=>rT r n
theorem oI{α:Type}:∀(l:List α) (n:Nat),Cps (wj l n)
 |l,0=>by refine Y0 (G:=λK=>K l) (λK=>by cases l<;>rfl) (Cps.ret l)
 |[],n+1=>Yl
 |_::r,n+1=>oI r n
theorem Ey{α:Type}:∀(n:Nat) (l:List α),Cps (MH l n)
 |0,l=>by refine Y0 (G:=λK=>K []) (λK=>by cases l<;>rfl) (Cps.ret [])
 |n+1,[]=>Yl
 |n+1,x::r=>(Ey n r).map λr'=>x::r'
theorem xN:∀(l:List AD),Cps (yv l)
 |[]=>Cps.ret []
 |x::r=>(xN r).map λr'=>AC.d x::r'
theorem dS(T:TT)(t:TypeId):Cps (aTI T t):=by
 unfold aTI;cases T.get t with
 |some i=>exact Cps.ret i
 |none=>exact Yl
theorem AN(v:Value):Cps (Gu v):=Y0 (G:=λK=>K (ofC v)) (λK=>by unfold Gu ofC;split<;>rfl) (Cps.ret _)
theorem AS:∀l:List Value,Cps (NE l)
 |[]=>Cps.ret []
 |v::r=>(AN v).bind λc=>(AS r).map λr'=>c::r'
theorem dK(x:Operand):Cps (aEv st x):=by
 cases x with
 |tmp t=>exact MI _ _
 |const v=>
  by_cases hv:∃cs,v= .agg cs
  ·obtain⟨cs,rfl⟩:=hv;exact(AS cs.toList).map AV.agg
  ·have key:∀K,aEv st (.const v) K=Gu v λc=>K (AV.one c):=λK=>by
    cases v<;>first|rfl|exact absurd ⟨_,rfl⟩ hv
   exact Y0 key ((AN v).map AV.one)
 |func f=>exact Cps.ret _
 |global g=>exact Yl
theorem wk:∀xs:List Operand,Cps (Aw st xs)
 |[]=>Cps.ret []
 |x::r=>(dK x).bind λv=>(wk r).map λr'=>v::r'
theorem wv(i:TI)(cs:List AC):Cps (rX i cs):=by
 unfold rX;cases i.agg with
 |true=>exact(Ey _ _).map AV.agg
 |false=>
  cases cs with
  |nil=>exact Yl
  |cons c r=>exact Cps.ret _
theorem Bj:∀l:List AC,Cps (Ii l)
 |[]=>Cps.ret []
 |c::r=>by
  cases c with
  |d x=>exact(Bj r).map λr'=>x::r'
  |nil=>exact(Bj r).map λr'=>AD.sl []::r'
  |_=>exact Yl
theorem NB(op:BinOp)(k:IntKind)(a b:Int):Cps (yr op k a b):=by
 cases op with
 |add=>exact Zc _ _ λc=>Cps.ret _
 |sub=>exact Zc _ _ λc=>Cps.ret _
 |mul=>exact Zc _ _ λc=>Cps.ret _
 |quo=>exact Cps.and _ (Zc _ _ λc=>Cps.ret _)
 |rem=>exact Cps.and _ (Cps.ret _)
 |shr=>
  refine Y0 (G:=λK=>match decide (0<=b)with|true=>K (vI k (SK k a b))|false=>False) (λK=>rfl) ?_;cases decide (0<=b)with
  |true=>exact Cps.ret _
  |false=>exact Yl
 |_=>first|exact Cps.ret _|exact Yl
theorem Ex(op:BinOp)(a b:ByteArray):Cps (MG op a b):=by
 cases op with
 |add=>exact Cps.and _ (Cps.ret _)
 |_=>first|exact Cps.ret _|exact Yl
theorem KL(op:BinOp)(a b:Bool):Cps (Gq op a b):=by
 cases op with
 |_=>first|exact Cps.ret _|exact Yl
theorem Ev(op:BinOp)(k k':IntKind)(a b:Int):Cps (λK=>match Bf k k' with|true=>yr op k a b K|false=>False):=by
 cases Bf k k' with
 |true=>exact NB ..
 |false=>exact Yl
theorem Ap(op:BinOp)(t:TypeId)(a b:Bool):Cps (λK=>aTI E.T t λi=>match i.kind with| .bool=>Gq op a b K|_=>False):=
 (dS _ _).bind λi=>by
  cases i.kind with
  |bool=>exact KL ..
  |_=>exact Yl
theorem Ph{α:Type}(f:AV->α)(op:BinOp)(t:TypeId)(x y:AV){F:(α->Prop)->Prop}(hF:Cps F):Cps λK=>Nu E op t x y (F K) λv=>K (f v):=by
 refine⟨fun{P Q} hpq h=>?_,fun{K} h=>?_⟩<;>unfold Nu at h⊢<;>split at h
 all_goals first
  |exact hF.mono hpq h
  |exact hF.dj h
  |exact((Ev ..).map f).mono hpq h
  |exact((Ev ..).map f).dj h
  |exact((Ex ..).map f).mono hpq h
  |exact((Ex ..).map f).dj h
  |exact((Ap ..).map f).mono hpq h
  |exact((Ap ..).map f).dj h
theorem Ae{α:Type}(f:AV->α)(o:Oper):Cps λK=>ou E o st λv=>K (f v):=
 ⟨λhpq h=>by obtain⟨v,hk,hr⟩:=h.h;exact⟨v,hpq _ hk,hr⟩,λh=>by obtain⟨v,hk,hr⟩:=h.h;exact⟨_,hk,⟨v,rfl,hr⟩⟩⟩
theorem RH(op:UnOp)(x:AV):Cps (aUn op x False):=by
 refine⟨fun{P Q} hpq h=>?_,fun{K} h=>?_⟩<;>unfold aUn at h⊢<;>split at h
 all_goals first
  |exact h.elim
  |exact(Cps.ret _).mono hpq h
  |exact(Cps.ret _).dj h
  |exact(Zc _ _ λc=>Cps.ret _).mono hpq h
  |exact(Zc _ _ λc=>Cps.ret _).dj h
theorem iX{α:Type}(b:Bool){F:(α->Prop)->Prop}(hf:Cps F):Cps λK=>match(generalizing:=false) b with|true=>F K|false=>False:=by
 cases b with
 |true=>exact hf
 |false=>exact Yl
theorem Ny(s d:TypeId)(x:AV):Cps (Ee E s d x False):=by
 refine⟨fun{P Q} hpq h=>?_,fun{K} h=>?_⟩<;>unfold Ee at h⊢<;>split at h
 all_goals first
  |exact h.elim
  |skip
 ·rename_i k n;exact((dS E.T s).bind λ_=>(dS E.T d).bind (H:=λi K=>match i.kind with| .int k=>AW k n λc=>K (vI k c)|_=>False) λi=>by
   cases i.kind with
   |int k=>exact Zc _ _ λc=>Cps.ret _
   |_=>exact Yl).mono hpq h
 ·rename_i k n;exact((dS E.T s).bind λ_=>(dS E.T d).bind (H:=λi K=>match i.kind with| .int k=>AW k n λc=>K (vI k c)|_=>False) λi=>by
   cases i.kind with
   |int k=>exact Zc _ _ λc=>Cps.ret _
   |_=>exact Yl).dj h
theorem Ax(t:TypeId)(x:AV)(f:Nat):Cps (kV E t x f):=by
 unfold kV;refine(dS _ _).bind λi=>?_;cases i.kind with
 |st fs=>
  refine(rT _ _).bind λp=>(dS _ _).bind λj=>?_;cases j.size with
  |zero=>exact Yl
  |succ n=>
   cases x with
   |one c=>
    cases c with
    |ref id k s off=>exact Cps.ret _
    |ptr cs=>exact(oI _ _).bind λr=>Cps.ret _
    |_=>exact Yl
   |_=>exact Yl
 |_=>exact Yl
theorem ND(t:TypeId)(x:AV):Cps (rS E st t x):=by
 unfold rS;refine(dS _ _).bind λi=>?_;cases x with
 |one c=>
  cases c with
  |ref id k s off=>
   refine(zW _ _).bind λo=>?_;cases o with
   |cells u cs=>
    cases k with
    |zero=>exact(oI _ _).bind λr=>wv _ _
    |succ k=>exact Yl
   |row e s' xs=>exact iX _ (Z6 _ _ λ_ x=>(oI _ _).bind λr=>(xN _).bind λr=>wv _ _)
   |frame vs us=>exact Yl
   |any Q=>exact Yl
   |many P Q=>exact Yl
  |ptr cs=>exact(xN _).bind λcs=>wv _ _
  |_=>exact Yl
 |_=>exact Yl
theorem vA(x:AV):Cps (mL x):=by
 cases x with
 |one c=>exact iX _ (Cps.ret _)
 |agg cs=>exact iX _ (Cps.ret _)
 |tup vs=>exact Yl
theorem EA(z:Value):Cps (ww z):=by
 by_cases hv:∃cs,z= .agg cs
 ·obtain⟨cs,rfl⟩:=hv;exact(AS cs.toList).bind λl=>iX _ (Cps.ret _)
 ·have key:∀K,ww z K=Gu z λc=>match jC [c]with|true=>K [c]|false=>False:=λK=>by
   cases z<;>first|rfl|exact absurd ⟨_,rfl⟩ hv
  exact Y0 key ((AN z).bind λc=>iX _ (Cps.ret _))
theorem rW:∀(l:List AC) (n:Nat) (xs:List AC),Cps (mo l n xs)
 |l,0,[]=>by refine Y0 (G:=λK=>K l) (λK=>by cases l<;>rfl) (Cps.ret l)
 |_::r,0,x::xs=>(rW r 0 xs).map λr'=>x::r'
 |c::r,n+1,xs=>by
  refine Y0 (G:=λK=>mo r n xs λr'=>K (c::r')) (λK=>by cases xs<;>rfl) ((rW r n xs).map λr'=>c::r')
 |[],0,_::_=>Yl
 |[],_+1,[]=>Yl
 |[],_+1,_::_=>Yl
theorem xH{place:Nat->(Nat×Nat->Prop)->Prop}(hp:∀n,Cps (place n)):∀(ps:List (Nat×Operand)) (l:List AC),Cps (H5 st place ps l)
 |[],l=>Cps.ret l
 |(i,x)::r,l=>(hp i).bind λp=>(dK x).bind λv=>(vA v).bind λvs=>iX _ ((rW _ _ _).bind λl'=>xH hp r l')
theorem yw:∀fs:List (Nat×TypeId),Cps (zX E fs)
 |[]=>Cps.ret []
 |p::r=>(dS _ _).bind λj=>(yw r).map λq=>(p.1,j.size)::q
theorem KM(t:TypeId)(ps:List (Nat×Operand)):Cps (As E st t ps):=by
 unfold As;refine(dS _ _).bind λi=>(EA _).bind λz=>?_;cases i.kind with
 |st fs=>exact(yw _).bind λplaces=>(xH (λn=>rT _ _) _ _).bind λl=>Cps.ret _
 |arr n e=>exact(dS _ _).bind λj=>(xH (λn=>Cps.ret _) _ _).bind λl=>Cps.ret _
 |_=>exact Yl
theorem Au(s:Nat):∀(ps:List (Nat×Operand)) (a n:Nat),Cps (lV st s ps a n)
 |[],a,n=>iX _ (Cps.ret [])
 |(i,x)::r,a,n=>iX _ ((dK x).bind λv=>(vA v).bind λvs=>iX _ ((Bj _).bind λds=>(Au s r (a+1) n).map λr'=>ds::r'))
theorem KZ(x:AV):Cps (rU st x):=by
 cases x with
 |one c=>
  cases c with
  |nil=>exact Cps.ret _
  |d x=>
   cases x with
   |sl xs=>exact Cps.ret _
   |pv v=>exact Yl
   |x R=>exact Yl
  |own id=>
   refine(zW _ _).bind λo=>?_;cases o with
   |row _ _ xs=>exact Cps.ret _
   |_=>exact Yl
  |_=>exact Yl
 |_=>exact Yl
theorem Pk(t:TypeId)(x:AV):Cps (KS E st t x False):=by
 have rest:Cps λK:AV->Prop=>aTI E.T t λi=>match i.kind with| .sl _=>rU st x λxs=>K (vI .i64 xs.length)|_=>False:=
  (dS _ _).bind λi=>by
   cases i.kind with
   |sl e=>exact(KZ _).bind λxs=>Cps.ret _
   |_=>exact Yl
 by_cases hs:∃s,x= .one (.d (.pv (.string s)))
 ·obtain⟨s,rfl⟩:=hs;exact(dS E.T t).bind (H:=λi K=>match i.kind with| .str=>K (vI .i64 s.size)|_=>False) λi=>by
   cases i.kind with
   |str=>exact Cps.ret _
   |_=>exact Yl
 ·refine Y0 (λK=>?_) rest;unfold KS;split
  ·exact absurd ⟨_,rfl⟩ hs
  ·rfl
theorem AF(t:TypeId)(x i:AV):Cps (kW E st t x i):=by
 refine⟨fun{P Q} hpq h=>?_,fun{K} h=>?_⟩<;>unfold kW at h⊢<;>split at h
 all_goals first
  |exact h.elim
  |skip
 all_goals
  rename_i k n;have key:Cps λK:AV->Prop=>aTI E.T t λti=>match ti.kind with
   | .sl e=>aTI E.T e λj=>match j.size with
    |0=>False
    |s+1=>match(generalizing:=false) x with
     | .one (.d (.sl xs))=>AIx xs n λ_ x=>match H9 x (s+1)with
      |true=>K (.one (.ptr x))
      |false=>False
     | .one (.own id)=>aOb st.ob id λo=>match o with
      | .row _ s' xs=>match Nat.beq (s+1) s' with
       |true=>AIx xs n λk _=>K (.one (.ref id k (s+1) 0))
       |false=>False
      |_=>False
     | .one (.d (.x R))=>AXi E.W st.ob R n (s+1) K
     |_=>False
   | .arr len e=>aTI E.T e λj=>match(generalizing:=false) x with
    | .one (.ref id k s off)=>uE n len λi=>K (.one (.ref id k s (off+i*j.size)))
    |_=>False
   |_=>False:=(dS _ _).bind λti=>by
    cases ti.kind with
    |arr len e=>
     refine(dS _ _).bind λj=>?_;cases x with
     |one c=>
      cases c with
      |ref id k s off=>exact⟨fun{P Q} hp ⟨⟨i,h1,h2,h3⟩⟩=>⟨⟨i,h1,h2,hp _ h3⟩⟩,fun⟨⟨i,h1,h2,h3⟩⟩=>⟨_,h3,⟨⟨i,h1,h2,rfl⟩⟩⟩⟩
      |_=>exact Yl
     |_=>exact Yl
    |sl e=>
     refine(dS _ _).bind λj=>?_;cases j.size with
     |zero=>exact Yl
     |succ s=>
      cases x with
      |one c=>
       cases c with
       |d x=>
        cases x with
        |sl xs=>exact Z6 _ _ λ_ x=>iX _ (Cps.ret _)
        |pv v=>exact Yl
        |x R=>exact⟨fun{P Q} hp ⟨⟨y,h1,h2⟩⟩=>⟨⟨y,hp _ h1,h2⟩⟩,fun⟨⟨y,h1,h2⟩⟩=>⟨y,h1,⟨⟨y,rfl,h2⟩⟩⟩⟩
       |own id=>
        refine(zW _ _).bind λo=>?_;cases o with
        |row e' s' xs=>exact iX _ (Z6 _ _ λk _=>Cps.ret _)
        |_=>exact Yl
       |_=>exact Yl
      |_=>exact Yl
    |_=>exact Yl
  first
   |exact key.mono hpq h
   |exact key.dj h
theorem KO(t:TypeId)(x i:AV):Cps (xM E t x i False):=by
 refine⟨fun{P Q} hpq h=>?_,fun{K} h=>?_⟩<;>unfold xM at h⊢<;>split at h
 all_goals first
  |exact h.elim
  |skip
 all_goals
  rename_i s k n;have key:Cps λK:AV->Prop=>aTI E.T t λti=>match ti.kind with
   | .str=>∃(k:Nat) (b:UInt8),n=(k:Int)/\s[k]? =some b/\K (vI .u8 b.toNat)
   |_=>False:=(dS _ _).bind λti=>by
    cases ti.kind with
    |str=>exact Z7 λk=>Z7 λb=>Cps.and _ (Cps.and _ (Cps.ret _))
    |_=>exact Yl
  first
   |exact key.mono hpq h
   |exact key.dj h
theorem Ar(x:Option Operand):Cps (Aq st x):=by
 cases x with
 |none=>exact Cps.ret none
 |some x=>
  refine(dK x).bind λv=>?_;refine⟨fun{P Q} hpq h=>?_,fun{K} h=>?_⟩<;>split at h
  all_goals first
   |exact h.elim
   |exact hpq _ h
   |exact⟨_,h,rfl⟩
theorem wi{α:Type}(len:Nat)(lo hi:Option Int){F:Nat->Nat->(α->Prop)->Prop}(hf:∀l h,Cps (F l h)):Cps λK=>TV len lo hi λl h=>F l h K:=
 Z7 λl=>Z7 λh=>Cps.and _ (Cps.and _ (Cps.and _ (Cps.and _ (hf l h))))
theorem Ig(x:AV)(lo hi:Option Int)(i:TI):Cps λK=>wt E x lo hi False K i:=by
 refine⟨fun{P Q} hpq h=>?_,fun{K} h=>?_⟩<;>unfold wt at h⊢<;>split at h
 all_goals first
  |exact h.elim
  |skip
 ·rename_i s;revert h;cases i.kind with
  |str=>exact(wi s.size lo hi λl h=>Cps.ret (vS (s.extract l h))).mono hpq
  |_=>exact λh=>h.elim
 ·rename_i xs;revert h;cases i.kind with
  |sl e=>exact((dS E.T e).bind λj=>wi xs.length lo hi λl h=>Cps.and _ (Cps.ret (AV.one (.d (.sl ((xs.take h).drop l)))))).mono hpq
  |_=>exact λh=>h.elim
 ·rename_i s;revert h;cases i.kind with
  |str=>exact(wi s.size lo hi λl h=>Cps.ret (vS (s.extract l h))).dj
  |_=>exact λh=>h.elim
 ·rename_i xs;revert h;cases i.kind with
  |sl e=>exact((dS E.T e).bind λj=>wi xs.length lo hi λl h=>Cps.and _ (Cps.ret (AV.one (.d (.sl ((xs.take h).drop l)))))).dj
  |_=>exact λh=>h.elim
theorem K0(t:TypeId)(x:AV)(lo hi:Option Operand):Cps (Bi E st t x lo hi False):=
 (Ar lo).bind λlo=>(Ar hi).bind λhi=>(dS _ _).bind λi=>Ig x lo hi i
theorem KN(t:TypeId)(x:AV)(f:Nat):Cps (vC E t x f):=by
 cases x with
 |agg cs=>
  refine(dS E.T t).bind (H:=λi K=>match i.kind with| .st fs=>ov fs f λp=>aTI E.T p.2 λj=>wj cs p.1 λr=>rX j r K|_=>False) λi=>?_;cases i.kind with
  |st fs=>exact(rT _ _).bind λp=>(dS _ _).bind λj=>(oI _ _).bind λr=>wv _ _
  |_=>exact Yl
 |_=>exact Yl
theorem Ad(ob:List (Nat×AO))(f:FuncId)(args:List AV):Cps (aH E ob f args):=
 ⟨λhpq h=>by obtain⟨ps,res,h1,h2,h3⟩:=h.h;exact⟨⟨ps,res,h1,h2,hpq _ h3⟩⟩,λh=>by obtain⟨ps,res,h1,h2,h3⟩:=h.h;exact⟨_,h3,⟨⟨ps,res,h1,h2,rfl⟩⟩⟩⟩
theorem Ef(d:Option Tmp)(t:TypeId)(cs:List AC):Cps λK:AV×Option AO->Prop=>H4 d t cs λv oo=>K (v,oo):=by
 cases d with
 |none=>exact Yl
 |some d=>exact iX _ (Cps.ret ((.one (.ref d 0 0 0),some (.cells t cs)):AV×Option AO))
theorem Nv{α:Type}(v:AV){F G:(α->Prop)->Prop}(hf:Cps F)(hg:Cps G):Cps λK=>wh v (F K) (G K):=by
 refine⟨fun{P Q} hpq h=>?_,fun{K} h=>?_⟩<;>unfold wh at h⊢<;>split at h
 all_goals first
  |exact h.elim
  |exact(aay _ hf hg).mono hpq h
  |exact(aay _ hf hg).dj h
theorem Cps.v{G:(AV->Prop)->Prop}(h:Cps G):Cps λK:AV×Option AO->Prop=>G λv=>K (v,none):=h.map λv=>(v,none)
theorem EC(o:Oper):Cps λK:AV×Option AO->Prop=>r6 E o st λv oo=>K (v,oo):=by
 obtain⟨dst,op,ty,pos,g,af⟩:=o;cases op with
 |move x=>exact(dK x).v
 |assign x=>exact(dK x).v
 |pick c a b=>exact(dK c).bind λc=>Nv c (dK a).v (dK b).v
 |binOp op t x y z=>exact(dK x).bind λx=>(dK y).bind λy=>Ph (λv=>((v,none):AV×Option AO)) op t x y (Ae (λv=>((v,none):AV×Option AO)) _)
 |unOp op t x=>exact(dK x).bind λx=>(RH op x).v
 |convert s d x=>exact(dK x).bind λx=>(Ny s d x).v
 |fieldAddr t x f=>exact(dK x).bind λx=>(Ax t x f).v
 |load t x=>exact(dK x).bind λx=>(ND t x).v
 |build t ps=>exact(KM t ps.toList).v
 |buildSlice t n ps=>
  refine (dS E.T t).bind (H := fun i K => match i.kind with
   | .sl e=>aTI E.T e λj=>match j.size with
    |0=>False
    |s+1=>match Nat.ble (n*(s+1)) 16777216 with
     |true=>lV st (s+1) ps.toList 0 n λxs=>K ((.one (.d (.sl xs)),none):AV×Option AO)
     |false=>False
   |_=>False) λi=>?_
  cases i.kind with
  |sl e=>
   refine(dS _ _).bind λj=>?_;cases j.size with
   |zero=>exact Yl
   |succ s=>exact iX _ ((Au _ _ _ _).bind λxs=>Cps.ret _)
  |_=>exact Yl
 |box t x=>exact(dK x).bind λx=>(vA x).bind λcs=>Ef dst t cs
 |alloc t=>exact(dS E.T t).bind λi=>(EA _).bind λcs=>Ef dst t cs
 |slice t x lo hi m=>
  cases m with
  |none=>exact(dK x).bind λx=>(K0 t x lo hi).v
  |some m=>exact Ae (λv=>((v,none):AV×Option AO)) _
 |indexAddr t x i=>exact(dK x).bind λx=>(dK i).bind λi=>(AF t x i).v
 |index t x i=>exact(dK x).bind λx=>(dK i).bind λi=>(KO t x i).v
 |field t x f=>exact(dK x).bind λx=>(KN t x f).v
 |extract x i=>
  refine(dK x).bind (H:=λx K=>match x with| .tup vs=>ov vs i λv=>K ((v,none):AV×Option AO)|_=>False) λx=>?_;cases x with
  |tup vs=>exact(rT vs i).v
  |_=>exact Yl
 |nilCheck x=>
  refine (dK x).bind (H := fun x K => match x with
   | .one (.ref i k s off)=>K ((.one (.ref i k s off),none):AV×Option AO)
   | .one (.ptr cs)=>K (.one (.ptr cs),none)
   |_=>False) λx=>?_
  cases x with
  |one c=>
   cases c with
   |ref i k s off=>exact Cps.ret _
   |ptr cs=>exact Cps.ret _
   |_=>exact Yl
  |_=>exact Yl
 |call c=>
  obtain⟨cl,args,ts⟩:=c;cases cl with
  |builtin b=>
   cases b with
   |len=>
    refine(wk args.toList).bind (H:=λvs K=>match ts.toList,vs with|t::_,[x]=>KS E st t x False λv=>K ((v,none):AV×Option AO)|_,_=>False) λvs=>?_;cases ts.toList with
    |nil=>exact Yl
    |cons t r=>
     match vs with
     |[]=>exact Yl
     |[x]=>exact(Pk t x).v
     |_::_::_=>exact Yl
   |_=>exact Yl
  |value f=>
   refine (dK f).bind (H := fun f K => match f with
    | .one (.d (.pv (.func (.func f) first caps)))=>match first.toList,caps.toList with
     |[],[]=>Aw st args.toList λargs=>aH E st.ob f args λr=>K ((r,none):AV×Option AO)
     |_,_=>False
    |_=>False) λf=>?_
   refine⟨fun{P Q} hpq h=>?_,fun{K} h=>?_⟩<;>split at h
   all_goals first
    |exact h.elim
    |skip
   all_goals
    revert h;rename_i f first caps
    cases first.toList with
    |cons _ _=>exact λh=>h.elim
    |nil=>
     cases caps.toList with
     |cons _ _=>exact λh=>h.elim
     |nil=>
      first
       |exact((wk args.toList).bind λvs=>(Ad st.ob f vs).v).mono hpq
       |exact((wk args.toList).bind λvs=>(Ad st.ob f vs).v).dj
  |_=>exact Yl
 |_=>exact Ae (λv=>((v,none):AV×Option AO)) _
end
theorem NM{E:bB}(he:E.Ok){S:bV}{o:Oper}{P:ASt}{K:AV->Option AO->Prop}(h:r6 E o P K):∃v oo,tL E S o P v oo/\K v oo:=by
 obtain⟨⟨v,oo⟩,hk,e⟩:=(EC (E:=E) (st:=P) o).dj (K:=λp=>K p.1 p.2) h;have e2:r6 E o P λv' oo'=>v'=v/\oo'=oo:=(EC (E:=E) (st:=P) o).mono (P:=λp=>p=(v,oo)) (Q:=λp=>p.1=v/\p.2=oo) (λp hp=>by subst hp;exact⟨rfl,rfl⟩) e;exact⟨v,oo,Lt he e2,hk⟩
end
section
open Go.RowKit
def rV{α:Type}:List α->Nat->α->(List α->Prop)->Prop
 |[],_,_,K=>K []
 |_::r,0,x,K=>K (x::r)
 |y::r,i+1,x,K=>rV r i x λr'=>K (y::r')
theorem tR{α:Type}:∀{l:List α} {i:Nat} {x:α} {K:List α->Prop},rV l i x K->K (l.set i x)
 |[],_,_,_,h=>h
 |_::_,0,_,_,h=>h
 |y::r,i+1,x,K,h=>tR (l:=r) (K:=λr'=>K (y::r')) h
theorem A3{v:AV}{P Q:List AV->Prop}(h:∀l,P l->Q l):∀{l:List AV} {n:Nat},nI l n v P->nI l n v Q
 |[],_,hp=>hp.elim
 |_::r,0,hp=>h _ hp
 |x::r,n+1,hp=>A3 (P:=λr'=>P (x::r')) (Q:=λr'=>Q (x::r')) (λl=>h _) (l:=r) (n:=n) hp
def KU:List Nat->List Oper->List (AV×Option AO)->List AV->(List AV->List (Nat×AO)->Prop)->Prop
 |_,[],_,tm,K=>K tm []
 |[],_::_,_,_,_=>False
 |_::_,_::_,[],_,_=>False
 |f::fs,o::ops,r::R,tm,K=>match f with
  |0=>KU fs ops R tm K
  |1=>match o.dst with
   |none=>False
   |some d=>match r with
    |(v,oo)=>nI tm d v λtm=>match oo with
     |none=>KU fs ops R tm K
     |some x=>KU fs ops R tm λtm obs=>K tm ((d,x)::obs)
  |_+2=>match o.dst with
   |none=>False
   |some d=>nI tm d (.one .dead) λtm=>KU fs ops R tm K
theorem wn{fl:Nat->Nat}:∀(ops:List Oper) (R:List (AV×Option AO)) (j:Nat) (tm:List AV) (K:List AV->List (Nat×AO)->Prop),KU ((List.range' j ops.length).map fl) ops R tm K->aMk fl ops R j tm K
 |[],R,j,tm,K,h=>by cases R<;>exact h
 |_::_,[],j,tm,K,h=>by rw[List.length_cons,List.range'_succ]at h;exact h.elim
 |o::ops,r::R,j,tm,K,h=>by
  rw[List.length_cons,List.range'_succ,List.map_cons]at h;unfold KU at h;unfold aMk;cases hf:fl j with
  |zero=>rw[hf]at h;exact wn ops R (j+1) tm K h
  |succ n=>
   rw[hf]at h;cases hd:o.dst with
   |none=>rw[hd]at h;cases n<;>exact h.elim
   |some d=>
    rw[hd]at h;cases n with
    |zero=>
     obtain⟨v,oo⟩:=r;refine A3 ?_ h;intro tm' h2;cases oo with
     |none=>exact wn ops R (j+1) tm' K h2
     |some x=>exact wn ops R (j+1) tm' _ h2
    |succ n=>exact A3 (λtm' h2=>wn ops R (j+1) tm' K h2) h
def xJ(fs:List Nat)(pre:List Oper)(R:List (AV×Option AO))(st:ASt)(K:ASt->Prop):Prop:=
 match st with
 |⟨tm,ob⟩=>KU fs pre R tm λtm obs=>Pf obs ob λob=>K ⟨tm,ob⟩
theorem H6{D:List (List Nat)}{pre:List Oper}{R:List (AV×Option AO)}{i:Nat}{st:ASt}{K:ASt->Prop}(h:xJ ((List.range pre.length).map (flP D i)) pre R st K):Tw D pre R i st K:=by
 obtain⟨tm,ob⟩:=st;rw[List.range_eq_range']at h;exact wn pre R 0 tm _ h
def j7(E:bB)(pre:List Oper)(st:ASt):List Oper->List (List Nat)->Nat->List (AV×Option AO)->(List (AV×Option AO)->Prop)->Prop
 |[],_,_,R,K=>K R
 |_::_,[],_,_,_=>False
 |o::ops,fs::FL,i,R,K=>match o.guard with
  |none=>xJ fs pre R st λP=>r6 E o P λv oo=>rV R i (v,oo) λR=>j7 E pre st ops FL (i+1) R K
  |some (g,want)=>ov fs g λf=>match f with
   |1=>ov R g λrg=>match rg.1 with
    | .one (.d (.pv (.bool p)))=>AB p
     (match want with
      |true=>xJ fs pre R st λP=>r6 E o P λv oo=>rV R i (v,oo) λR=>j7 E pre st ops FL (i+1) R K
      |false=>rV R i (.one .und,none) λR=>j7 E pre st ops FL (i+1) R K)
     (match want with
      |true=>rV R i (.one .und,none) λR=>j7 E pre st ops FL (i+1) R K
      |false=>xJ fs pre R st λP=>r6 E o P λv oo=>rV R i (v,oo) λR=>j7 E pre st ops FL (i+1) R K)
    | .one .und=>rV R i (.one .und,none) λR=>j7 E pre st ops FL (i+1) R K
    |_=>False
   |_=>False
section
variable {E:bB} {S:bV} {ops:List Oper} {D:List (List Nat)} {n0:Nat} {st:ASt}
theorem xD{R:List (AV×Option AO)}{i j:Nat}{x:AV×Option AO}(h:j≠i):vAt (R.set i x) j=vAt R j:=by
 unfold vAt;rw[List.getD_eq_getElem?_getD,List.getD_eq_getElem?_getD,List.getElem?_set_ne (λe=>h e.symm)]
theorem Hs{R:List (AV×Option AO)}{i j:Nat}{x:AV×Option AO}(h:j≠i):oAt (R.set i x) j=oAt R j:=by
 unfold oAt;rw[List.getD_eq_getElem?_getD,List.getD_eq_getElem?_getD,List.getElem?_set_ne (λe=>h e.symm)]
theorem HZ{R:List (AV×Option AO)}{i:Nat}{x:AV×Option AO}(h:i<R.length):vAt (R.set i x) i=x.1:=by
 unfold vAt;rw[List.getD_eq_getElem?_getD,List.getElem?_set_self h];rfl
theorem Hr{R:List (AV×Option AO)}{i:Nat}{x:AV×Option AO}(h:i<R.length):oAt (R.set i x) i=x.2:=by
 unfold oAt;rw[List.getD_eq_getElem?_getD,List.getElem?_set_self h];rfl
theorem Ki{R R':List (AV×Option AO)}{i:Nat}(h:∀j,inD D j i=true->vAt R j=vAt R' j/\oAt R j=oAt R' j):stP ops D R n0 st i=stP ops D R' n0 st i:=by
 have e1:(List.range n0).filterMap (upP ops D R i)=(List.range n0).filterMap (upP ops D R' i):=wQ λj _=>by
  unfold upP;cases hj:inD D j i with
  |true=>simp[(h j hj).1]
  |false=>simp
 have e2:(List.range n0).filterMap (obF ops R λj=>inD D j i)=(List.range n0).filterMap (obF ops R' λj=>inD D j i):=wQ λj _=>by
  unfold obF;cases hj:inD D j i with
  |true=>simp[(h j hj).2]
  |false=>simp[hj]
 simp only[stP,e1,e2]
theorem LN(T:uP ops D n0){i j:Nat}(hi:i<ops.length)(h:inD D j i=true):j<i:=by
 have:=lA T (lf:=λj=>decide (j<i)) (λk hk e he=>?_) (i:=i) (λe he=>?_) h
 ·simpa using this
 ·have hki:k<i:=by simpa using hk
  rw[dQ (List.getElem?_eq_getElem (by omega:k<ops.length))]at he;have:=T.edge k _ (List.getElem?_eq_getElem ac) _ he;simp;omega
 ·rw[dQ (List.getElem?_eq_getElem hi)]at he;have:=T.edge i _ (List.getElem?_eq_getElem hi) _ he;simpa using this
theorem rL.keep(T:uP ops D n0){R:List (AV×Option AO)}{i k:Nat}{o:Oper}{x:AV×Option AO}(hi:i<k)(hil:i<ops.length)(h:rL E S D R n0 (stP ops D R n0 st i) i o):rL E S D (R.set k x) n0 (stP ops D (R.set k x) n0 st i) i o:=by
 have hlt:∀j,inD D j i=true->j≠k:=λj hj e=>by have:=LN T hil hj;omega
 have e:stP ops D (R.set k x) n0 st i=stP ops D R n0 st i:=Ki λj hj=>⟨xD (hlt j hj),Hs (hlt j hj)⟩;have e1:vAt (R.set k x) i=vAt R i:=xD ac;have e2:oAt (R.set k x) i=oAt R i:=Hs ac;unfold rL at h⊢;rw[e,e1,e2];cases hg:o.guard with
 |none=>rw[hg]at h;exact h
 |some gw=>
  obtain⟨g,want⟩:=gw;rw[hg]at h;obtain⟨h1,h2,h3⟩:=h;refine⟨h1,h2,?_⟩;rw[xD (hlt g h2)];exact h3
theorem IG{D:List (List Nat)}{i j:Nat}(h:flP D i j=1):inD D j i=true:=by
 unfold flP at h;split at h
 ·assumption
 ·split at h
  ·cases h
  ·split at h<;>cases h
theorem EJ(he:E.Ok)(T:uP ops D n0){K:List (AV×Option AO)->Prop}:∀(rest:List Oper) (i:Nat) (R:List (AV×Option AO)),(∀k,(ops.take n0)[i+k]? =rest[k]?)->R.length=n0->
  (∀j o,j<i->ops[j]? =some o->rL E S D R n0 (stP ops D R n0 st j) j o)->j7 E (ops.take n0) st rest ((List.range' i rest.length).map λi=>(List.range n0).map (flP D i)) i R K->∃RA,K RA/\∀j o,j<n0->ops[j]? =some o->rL E S D RA n0 (stP ops D RA n0 st j) j o
 |[],i,R,hr,hl,hf,h=>by
  refine⟨R,h,λj o hj ho=>hf j o ?_ ho⟩;have:=hr 0;simp only[Nat.add_zero,List.getElem?_nil]at this;have h2:=List.getElem?_eq_none_iff.1 this;have:=T.le;simp at h2;omega
 |o::rest,i,R,hr,hl,hf,h=>by
  have h0:=hr 0;simp only[Nat.add_zero,List.getElem?_cons_zero]at h0;have hi:i<n0:=by
   have:=(List.getElem?_eq_some_iff.1 h0).1;simp at this;omega
  have hio:ops[i]? =some o:=by
   rw[List.getElem?_take,if_pos hi]at h0;exact h0
  have hil:i<ops.length:=(List.getElem?_eq_some_iff.1 hio).1;have hr':∀k,(ops.take n0)[i+1+k]? =rest[k]? :=λk=>by
   have:=hr (k+1);rw[show i+1+k=i+(k+1)by omega];simpa using this
  have next:∀x:AV×Option AO,j7 E (ops.take n0) st rest ((List.range' (i+1) rest.length).map λi=>(List.range n0).map (flP D i)) (i+1) (R.set i x) K->rL E S D (R.set i x) n0 (stP ops D (R.set i x) n0 st i) i o->∃RA,K RA/\∀j o,j<n0->ops[j]? =some o->rL E S D RA n0 (stP ops D RA n0 st j) j o:=λx hk hd=>
   EJ he T rest (i+1) (R.set i x) hr' (by simpa using hl) (λj o' hj ho'=>by
    rcases Nat.lt_succ_iff_lt_or_eq.1 hj with hj|hj
    ·exact(hf j o' hj ho').keep T hj ac
    ·subst hj;rw[hio]at ho';injection ho' with ho'
     subst ho';exact hd) hk
  have eP:∀x:AV×Option AO,stP ops D (R.set i x) n0 st i=stP ops D R n0 st i:=λx=>Ki λj hj=>by
   have:=LN T hil hj;exact⟨xD ac,Hs ac⟩
  have free:(xJ ((List.range n0).map (flP D i)) (ops.take n0) R st λP=>r6 E o P λv oo=>rV R i (v,oo) λR=>j7 E (ops.take n0) st rest ((List.range' (i+1) rest.length).map λi=>(List.range n0).map (flP D i)) (i+1) R K)->∃x:AV×Option AO,tL E S o (stP ops D R n0 st i) x.1 x.2/\j7 E (ops.take n0) st rest ((List.range' (i+1) rest.length).map λi=>(List.range n0).map (flP D i)) (i+1) (R.set i x) K:=λh=>by
   have hlen:(ops.take n0).length=n0:=by have:=T.le;simp;omega
   have h1:=Nz T.le (H6 (by rw[hlen];exact h));obtain⟨v,oo,h2,h3⟩:=NM he h1;exact⟨(v,oo),h2,tR h3⟩
  rw[List.length_cons,List.range'_succ,List.map_cons]at h;unfold j7 at h;cases hg:o.guard with
  |none=>
   rw[hg]at h;obtain⟨x,hx,hk⟩:=free h;refine next x hk ?_;unfold rL;rw[hg,eP,HZ ac,Hr ac];exact hx
  |some gw=>
   obtain⟨g,want⟩:=gw;rw[hg]at h;obtain⟨f,hf1,h3⟩:=fD h;have hf0:f=flP D i g:=by
    rw[List.getElem?_map]at hf1;obtain⟨g',hg',rfl⟩:=Option.map_eq_some_iff.1 hf1;have:=List.getElem?_eq_some_iff.1 hg';obtain⟨_,e⟩:=this;simp at e;rw[e]
   split at h3
   case h_2=>exact h3.elim
   have h1:inD D g i=true:=IG hf0.symm;obtain⟨rg,hrg,h3⟩:=fD h3;have hgi:=LN T hil h1;have hvg:∀x:AV×Option AO,vAt (R.set i x) g=rg.1:=λx=>by
    rw[xD ac];unfold vAt;rw[List.getD_eq_getElem?_getD,hrg];rfl
   split at h3
   ·rename_i p hp;have run:(p=want)->(xJ ((List.range n0).map (flP D i)) (ops.take n0) R st λP=>r6 E o P λv oo=>rV R i (v,oo) λR=>j7 E (ops.take n0) st rest ((List.range' (i+1) rest.length).map λi=>(List.range n0).map (flP D i)) (i+1) R K)->∃RA,K RA/\∀j o,j<n0->ops[j]? =some o->rL E S D RA n0 (stP ops D RA n0 st j) j o:=λe h=>by
     obtain⟨x,hx,hk⟩:=free h;refine next x hk ?_;unfold rL;rw[hg,eP,HZ ac,Hr ac];exact⟨ac,h1,.inl ⟨p,by rw[hvg,hp],.inl ⟨e,hx⟩⟩⟩
    have skip:(p≠want)->(rV R i (.one .und,none) λR=>j7 E (ops.take n0) st rest ((List.range' (i+1) rest.length).map λi=>(List.range n0).map (flP D i)) (i+1) R K)->∃RA,K RA/\∀j o,j<n0->ops[j]? =some o->rL E S D RA n0 (stP ops D RA n0 st j) j o:=λe h=>by
     refine next (.one .und,none) (tR h) ?_;unfold rL;rw[hg,eP,HZ ac,Hr ac];exact⟨ac,h1,.inl ⟨p,by rw[hvg,hp],.inr ⟨e,rfl,rfl⟩⟩⟩
    cases p with
    |true=>
     have h:=h3.t rfl;cases want with
     |true=>exact run rfl h
     |false=>exact skip aj h
    |false=>
     have h:=h3.f rfl;cases want with
     |true=>exact skip aj h
     |false=>exact run rfl h
   ·rename_i hp;refine next (.one .und,none) (tR h3) ?_;unfold rL;rw[hg,eP,HZ ac,Hr ac];exact⟨ac,h1,.inr ⟨by rw[hvg,hp],rfl,rfl⟩⟩
   ·exact h3.elim
end
theorem aan{E:bB}(he:E.Ok){S:bV}{ops:Array Oper}{K:Exit->ASt->Prop}{id:Nat}{st:ASt}(n0:Nat)(D:List (List Nat))(R:List (AV×Option AO))(T:uP ops.toList D n0)(F:KK E S ops.toList D R n0 st)
  (ht:Gm (ops.toList.take n0) R st λst=>DA E S ops.toList (ops.toList.drop n0) st (K .normal)):AWP E S (.region id ops true) K st:=by
 refine⟨λa w hs=>wp_region_any he.mixed ?_⟩;have hg:w.grownBy {w with drawn:=w.drawn+1} none:=⟨rfl,rfl,rfl,Nat.le_refl _,λb hb _=>rfl⟩;refine NX (Q:=λe a' w'=>∃st',hG E.W S st' a' w'/\K e st') he T F (λa w h=>h) ht ops.size (Array.replicate ops.size false) a _ aj (λj _=>?_) (λj hj=>?_) ?_ ?_
 ·simp[fw,Array.getD_eq_getD_getElem?,Array.getElem?_replicate];split<;>rfl
 ·exfalso;simp[fw,Array.getD_eq_getD_getElem?,Array.getElem?_replicate]at hj;split at hj<;>simp at hj
 ·have:∀(lf:Nat->Bool) n,oS lf n<=n:=λlf n=>by
   induction n with
   |zero=>exact Nat.le_refl _
   |succ n ih=>simp only[oS];split<;>omega
  exact this _ _
 ·obtain⟨Z,ρ,hs⟩:=hs;have e:stS ops.toList R n0 st (fw (Array.replicate ops.size false))=st:=by
   have e1:∀j,fw (Array.replicate ops.size false) j=false:=λj=>by
    simp[fw,Array.getD_eq_getD_getElem?,Array.getElem?_replicate];split<;>rfl
   have e2:(List.range n0).filterMap (upS ops.toList R (fw (Array.replicate ops.size false)))=[]:=by
    rw[List.filterMap_eq_nil_iff];intro j _;simp[upS,e1]
   have e3:(List.range n0).filterMap (obF ops.toList R (fw (Array.replicate ops.size false)))=[]:=by
    rw[List.filterMap_eq_nil_iff];intro j _;simp[obF,e1]
   simp[stS,e2,e3,lR]
  rw[e];exact⟨Z,ρ,hs.grow hg (λ_ h=>h) λ_ h=> .inl h⟩
def unq:Nat->Nat->List Nat
 |0,_=>[]
 |n+1,x=>match Nat.beq x 0 with
  |true=>[]
  |false=>(x % 64-1)::unq n (x/64)
def bZ:List Nat->List (List Nat)
 |[]=>[]
 |x::r=>unq 64 x::bZ r
def unp:Nat->Nat->List Nat
 |0,_=>[]
 |n+1,x=>(x % 3)::unp n (x/3)
def fB(n:Nat):List Nat->List (List Nat)
 |[]=>[]
 |x::r=>unp n x::fB n r
theorem X9{E:bB}(he:E.Ok){S:bV}{ops:Array Oper}{K:Exit->ASt->Prop}(id:Nat){st:ASt}(n0:Nat)(D FL:List (List Nat))(hD:xV [] ops.toList=D)(hok:Lm ops.toList D n0=true)(hfl:((List.range n0).map λi=>(List.range n0).map (flP D i))=FL)(hl:T3 ops.toList n0 st.tm.length=true)
  (h:j7 E (ops.toList.take n0) st (ops.toList.take n0) FL 0 (List.replicate n0 (.one .dead,none)) λR=>noB ops.toList D R n0 st=true/\Gm (ops.toList.take n0) R st λst=>DA E S ops.toList (ops.toList.drop n0) st (K .normal)):AWP E S (.region id ops true) K st:=by
 have T:=Iw hD hok;have hlen:(ops.toList.take n0).length=n0:=by have:=T.le;simp at*;omega
 subst hfl;have e:((List.range n0).map λi=>(List.range n0).map (flP D i))=((List.range' 0 (ops.toList.take n0).length).map λi=>(List.range n0).map (flP D i)):=by rw[hlen,<-List.range_eq_range']
 rw[e]at h;obtain⟨R,⟨hno,ht⟩,hf⟩:=EJ (S:=S) he T (ops.toList.take n0) 0 (List.replicate n0 (.one .dead,none)) (λk=>by simp) aj (λj o hj=>absurd hj (Nat.not_lt_zero _)) h;exact aan he n0 D R T ⟨RM T hl hno,hf⟩ ht
end
end Go.Proofs.YtknefkdcokgpbaaGreat
