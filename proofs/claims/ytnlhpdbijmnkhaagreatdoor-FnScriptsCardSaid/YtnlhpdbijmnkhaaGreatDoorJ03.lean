/- J03 -/
import Derived.Test.YtnlhpdbijmnkhaaGreatDoorJ01
import Derived.Test.YtnlhpdbijmnkhaaGreatDoorAvJ3
import Derived.Laws.BytesArg
import Derived.Laws.BytesString
import Derived.Maps.OwnSet
import Derived.Test.YtnlhpdbijmnkhaaGreatDoorJ02
set_option linter.unusedVariables false
set_option linter.unusedSimpArgs false
set_option maxRecDepth 100000
namespace Go.Proofs.YtnlhpdbijmnkhaaGreatDoor
open Go.ChangeShapes Go.WideShapes Go.RowKit
def Rep.via{α β:Type}(f:β->α)(R:Rep α):Rep β where
 size:=R.size
 rd:=λw cs b F=>R.rd w cs (f b) F
 len:=λh=>R.len h
 one:=λh=>R.one h
 lt:=λh=>R.lt h
 keep:=λh k=>R.keep h k
structure DStep where
 kind:Int
 a:Int
 b:Int
 c:Int
 fates:(List Int)
 deriving DecidableEq
def Rep.DStep:Rep DStep:=Rep.via (λx=>(x.kind,x.a,x.b,x.c,x.fates)) (Rep.pair (Rep.int .i64) (Rep.pair (Rep.int .i64) (Rep.pair (Rep.int .i64) (Rep.pair (Rep.int .i64) (Rep.sl (Rep.int .i64))))))
theorem pR{w:World}{x:DStep}{A0:Option Addr}{cap0:Nat}{F0:List Nat}(w0:(Lit.int .i64 x.kind).wf=true)(w1:(Lit.int .i64 x.a).wf=true)(w2:(Lit.int .i64 x.b).wf=true)(w3:(Lit.int .i64 x.c).wf=true)(h0:(Rep.sl (Rep.int .i64)).rd w [.slice A0 x.fates.length cap0] x.fates F0):Rep.DStep.rd w [.int .i64 x.kind,.int .i64 x.a,.int .i64 x.b,.int .i64 x.c,.slice A0 x.fates.length cap0] x (F0):=by
 simp only[Rep.DStep,Rep.via,Rep.pair]
 exact⟨_,_,[],(F0),rfl,Iy,⟨rfl,w0,rfl⟩,⟨_,_,[],(F0),rfl,Iy,⟨rfl,w1,rfl⟩,⟨_,_,[],(F0),rfl,Iy,⟨rfl,w2,rfl⟩,⟨_,_,[],(F0),rfl,Iy,⟨rfl,w3,rfl⟩,h0⟩⟩⟩⟩
structure DOp where
 kind:Int
 a:Int
 b:Int
 c:Int
 d:Int
 deriving DecidableEq
def Rep.DOp:Rep DOp:=Rep.via (λx=>(x.kind,x.a,x.b,x.c,x.d)) (Rep.pair (Rep.int .i64) (Rep.pair (Rep.int .i64) (Rep.pair (Rep.int .i64) (Rep.pair (Rep.int .i64) (Rep.int .i64)))))
structure DEntry where
 index:Int
 time:Int
 client:Int
 seq:Int
 op:DOp
 deriving DecidableEq
def Rep.DEntry:Rep DEntry:=Rep.via (λx=>(x.index,x.time,x.client,x.seq,x.op)) (Rep.pair (Rep.int .i64) (Rep.pair (Rep.int .i64) (Rep.pair (Rep.int .i64) (Rep.pair (Rep.int .i64) Rep.DOp))))
structure DMsg where
 frm:Int
 to_:Int
 row:(List Int)
 deriving DecidableEq
def Rep.DMsg:Rep DMsg:=Rep.via (λx=>(x.frm,x.to_,x.row)) (Rep.pair (Rep.int .i64) (Rep.pair (Rep.int .i64) (Rep.sl (Rep.int .i64))))
structure DLink where
 a:Int
 b:Int
 deriving DecidableEq
def Rep.DLink:Rep DLink:=Rep.via (λx=>(x.a,x.b)) (Rep.pair (Rep.int .i64) (Rep.int .i64))
structure DNet where
 flight:(List DMsg)
 cuts:(List DLink)
 deriving DecidableEq
def Rep.DNet:Rep DNet:=Rep.via (λx=>(x.flight,x.cuts)) (Rep.pair (Rep.sl Rep.DMsg) (Rep.sl Rep.DLink))
structure DWant where
 kind:Int
 op:DOp
 key:Int
 deriving DecidableEq
def Rep.DWant:Rep DWant:=Rep.via (λx=>(x.kind,x.op,x.key)) (Rep.pair (Rep.int .i64) (Rep.pair Rep.DOp (Rep.int .i64)))
end Go.Proofs.YtnlhpdbijmnkhaaGreatDoor
namespace Go.Proofs.YtnlhpdbijmnkhaaGreatDoor
open Go.RowKit
def mf(Z:Nat->Prop)(w:World)(ds:List AD)(cs:List Value):Prop:=cs.length=ds.length/\∀(i:Nat) d u,ds[i]? =some d->cs[i]? =some u->bj Z w d u
theorem mf.append{Z:Nat->Prop}{w:World}{ds es:List AD}{cs bs:List Value}(h:mf Z w ds cs)(h':mf Z w es bs):mf Z w (ds++es) (cs++bs):=by
 refine⟨by simp[h.1,h'.1],λi d u hd hu=>?_⟩
 by_cases hi:i<ds.length
 ·rw[List.getElem?_append_left hi]at hd
  rw[List.getElem?_append_left (by rw[h.1];exact hi)]at hu
  exact h.2 i d u hd hu
 ·rw[List.getElem?_append_right Iv]at hd
  rw[List.getElem?_append_right (by rw[h.1];omega),h.1]at hu
  exact h'.2 _ d u hd hu
theorem mf.one{Z:Nat->Prop}{w:World}{d:AD}{u:Value}(h:bj Z w d u):mf Z w [d] [u]:=⟨rfl,λi x y hx hy=>by
 cases i with
 |zero=>simp at hx hy;subst hx hy;exact h
 |succ i=>simp at hx⟩
def Enc{α:Type}(R:Rep α)(enc:α->List AD):Prop:=∀{w cs a F},R.rd w cs a F->mf (λb=>b<w.heap.size) w (enc a) cs
theorem Enc.int{k:IntKind}:Enc (Rep.int k) λn=>[.pv (.int k n)]:=by
 rintro w cs a F ⟨rfl,_,_⟩
 exact .one (.pv _ rfl)
theorem Enc.bool:Enc Rep.bool λb=>[.pv (.bool b)]:=by
 rintro w cs a F ⟨rfl,_⟩
 exact .one (.pv _ rfl)
theorem Enc.str:Enc Rep.str λb=>[.pv (.string b)]:=by
 rintro w cs a F ⟨rfl,_⟩
 exact .one (.pv _ rfl)
theorem Enc.pair{α β:Type}{R:Rep α}{S:Rep β}{f:α->List AD}{g:β->List AD}(h:Enc R f)(h':Enc S g):Enc (Rep.pair R S) λx=>f x.1++g x.2:=by
 rintro w cs a F ⟨c1,c2,F1,F2,rfl,rfl,h1,h2⟩
 exact(h h1).append (h' h2)
theorem Enc.via{α β:Type}{R:Rep α}{f:β->α}{g:α->List AD}(h:Enc R g):Enc (Rep.via f R) λx=>g (f x):=λhr=>h hr
theorem Enc.all{α:Type}{R:Rep α}{f:α->List AD}(h:Enc R f){w:World}:∀{l:List α} {xs:List Value} {F:List Nat},R.all w xs l F->∃us:List (List Value),us.flatten=xs/\us.length=l.length/\(∀u∈us,u.length=R.size)/\
  ∀(i:Nat) a u,l[i]? =some a->us[i]? =some u->mf (λb=>b<w.heap.size) w (f a) u
 |[],_,_,⟨rfl,_⟩=>⟨[],rfl,rfl,by simp,by simp⟩
 |a::l,_,_,⟨c1,c2,F1,F2,rfl,rfl,h1,h2⟩=>by
  obtain⟨us,e1,e2,e3,e4⟩:=Enc.all h h2
  refine⟨c1::us,by simp[e1],by simp[e2],λu hu=>?_,λi b u hb hu=>?_⟩
  ·rcases List.mem_cons.1 hu with rfl|hu
   ·exact R.len h1
   ·exact e3 u hu
  ·cases i with
   |zero=>simp at hb hu;subst hb hu;exact h h1
   |succ i=>exact e4 i b u (by simpa using hb) (by simpa using hu)
theorem Enc.len{α:Type}{R:Rep α}{f:α->List AD}(h:Enc R f){w cs a F}(hr:R.rd w cs a F):(f a).length=R.size:=by rw[<-(h hr).1,R.len hr]
theorem Enc.sl{α:Type}{R:Rep α}{f:α->List AD}(h:Enc R f):Enc (Rep.sl R) λl=>[.sl (l.map f)]:=by
 rintro w cs l F ⟨A,cap,xs,F1,rfl,hc,hm,hrow,hall,rfl⟩
 obtain⟨us,rfl,e2,e3,e4⟩:=Enc.all h hall
 refine .one ?_
 have:=bj.sl (Z:=λb=>b<w.heap.size) (w:=w) (l.map f) A cap R.size us (by simpa using hc) hm (by simpa using e2) (λx hx=>?_) e3 ?_ λi j x u a b hx hu ha hb=>?_
 ·simpa using this
 ·obtain⟨a,ha,rfl⟩:=List.mem_map.1 hx
  obtain⟨i,hi,rfl⟩:=List.getElem_of_mem ha
  have hlt:i<us.length:=by omega
  have h1:=(e4 i l[i] us[i] (List.getElem?_eq_getElem hi) (List.getElem?_eq_getElem hlt)).1
  rw[<-h1]
  exact e3 _ (List.getElem_mem hlt)
 ·by_cases h0:us.flatten=[]
  ·exact .inl h0
  ·obtain⟨b,off,hA,hlt,hcell⟩:=hrow 0 (List.length_pos_iff.2 h0)
   exact .inr ⟨b,off,hA,hlt,hcell⟩
 ·rw[List.getElem?_map]at hx
  obtain⟨y,hy,rfl⟩:=Option.map_eq_some_iff.1 hx
  exact(e4 i y u hy hu).2 j a b ha hb
theorem Enc.agg{α:Type}{R:Rep α}{f:α->List AD}(h:Enc R f){w:World}{cs:Array Value}{a:α}{F:List Nat}(hr:R.rd w cs.toList a F):cK (λb=>b<w.heap.size) w (.agg (f a)) (.agg cs):=
 ⟨cs.toList,by simp,(h hr).1,(h hr).2⟩
theorem Enc.cell{α:Type}{R:Rep α}{f:α->AD}(h:Enc R λa=>[f a]){w:World}{v:Value}{a:α}{F:List Nat}(hr:R.rd w [v] a F):cK (λb=>b<w.heap.size) w (.one (f a)) v:=
 (h hr).2 0 _ _ rfl rfl
theorem an.walk{E:aE}{f:FuncId}{args:List AP1}{p:Bool}(h:an E f args (.val (.one (.pv (.bool p))))){W:World}(hT:E.W W){us:Array Value}(hl:us.size=args.length)(hr:∀(i:Nat) p u,args[i]? =some p->us.toList[i]? =some u->cK (λb=>b<W.heap.size) W p u):
  Calls E.P f us W λe W'=>e= .returned (.bool p)/\Below W.heap.size W W':=by
 have:=h.run (λb=>b<W.heap.size) W us.toList (λ_ hb=>hb) ⟨W,hT,Below.refl _ _,λ_ hb=>hb⟩ (by simpa using hl) hr
 rw[Array.toArray_toList]at this
 refine this.mono ?_
 rintro e w' ⟨v,Z',rfl,hb,_,_,hv⟩
 have hv':bj Z' w' (.pv (.bool p)) v:=hv
 cases hv' with
 |pv=>exact⟨rfl,hb⟩
end Go.Proofs.YtnlhpdbijmnkhaaGreatDoor
namespace Go.Proofs.YtnlhpdbijmnkhaaGreatDoor
open Go.RowKit
def am{α:Type}(R:Rep α)(enc:α->List AD):Prop:=∀{w cs a F} {Z:Nat->Prop},(∀b∈F,Z b)->R.rd w cs a F->mf Z w (enc a) cs
theorem am.int{k:IntKind}:am (Rep.int k) λn=>[.pv (.int k n)]:=by
 rintro w cs a F Z _ ⟨rfl,_,_⟩
 exact .one (.pv _ rfl)
theorem am.pair{α β:Type}{R:Rep α}{S:Rep β}{f:α->List AD}{g:β->List AD}(h:am R f)(h':am S g):am (Rep.pair R S) λx=>f x.1++g x.2:=by
 rintro w cs a F Z hz ⟨c1,c2,F1,F2,rfl,rfl,h1,h2⟩
 exact(h (λb hb=>hz b (List.mem_append_left _ hb)) h1).append (h' (λb hb=>hz b (List.mem_append_right _ hb)) h2)
theorem am.via{α β:Type}{R:Rep α}{f:β->α}{g:α->List AD}(h:am R g):am (Rep.via f R) λx=>g (f x):=λhz hr=>h hz hr
theorem am.all{α:Type}{R:Rep α}{f:α->List AD}(h:am R f){w:World}{Z:Nat->Prop}:∀{l:List α} {xs:List Value} {F:List Nat},(∀b∈F,Z b)->R.all w xs l F->∃us:List (List Value),us.flatten=xs/\us.length=l.length/\(∀u∈us,u.length=R.size)/\
  ∀(i:Nat) a u,l[i]? =some a->us[i]? =some u->mf Z w (f a) u
 |[],_,_,_,⟨rfl,_⟩=>⟨[],rfl,rfl,by simp,by simp⟩
 |a::l,xs,F,hz,h0=>by
  obtain⟨c1,c2,F1,F2,e1,e2,h1,h2⟩:=h0
  subst e1 e2
  obtain⟨us,e1,e2,e3,e4⟩:=am.all h (λb hb=>hz b (List.mem_append_right _ hb)) h2
  refine⟨c1::us,by simp[e1],by simp[e2],λu hu=>?_,λi b u hb hu=>?_⟩
  ·rcases List.mem_cons.1 hu with rfl|hu
   ·exact R.len h1
   ·exact e3 u hu
  ·cases i with
   |zero=>simp at hb hu;subst hb hu;exact h (λb hb=>hz b (List.mem_append_left _ hb)) h1
   |succ i=>exact e4 i b u (by simpa using hb) (by simpa using hu)
theorem am.sl{α:Type}{R:Rep α}{f:α->List AD}(h:am R f):am (Rep.sl R) λl=>[.sl (l.map f)]:=by
 rintro w cs l F Z hz ⟨A,cap,xs,F1,rfl,hc,hm,hrow,hall,rfl⟩
 obtain⟨us,rfl,e2,e3,e4⟩:=am.all h (λb hb=>hz b (List.mem_append_right _ hb)) hall
 refine .one ?_
 have:=bj.sl (Z:=Z) (w:=w) (l.map f) A cap R.size us (by simpa using hc) hm (by simpa using e2) (λx hx=>?_) e3 ?_ λi j x u a b hx hu ha hb=>?_
 ·simpa using this
 ·obtain⟨a,ha,rfl⟩:=List.mem_map.1 hx
  obtain⟨i,hi,rfl⟩:=List.getElem_of_mem ha
  have hlt:i<us.length:=by omega
  have h1:=(e4 i l[i] us[i] (List.getElem?_eq_getElem hi) (List.getElem?_eq_getElem hlt)).1
  rw[<-h1]
  exact e3 _ (List.getElem_mem hlt)
 ·by_cases h0:us.flatten=[]
  ·exact .inl h0
  ·obtain⟨b,off,hA,hlt,hcell⟩:=hrow 0 (List.length_pos_iff.2 h0)
   refine .inr ⟨b,off,hA,hz b (List.mem_append_left _ ?_),hcell⟩
   rw[hA]
   simp[dW,h0]
 ·rw[List.getElem?_map]at hx
  obtain⟨y,hy,rfl⟩:=Option.map_eq_some_iff.1 hx
  exact(e4 i y u hy hu).2 j a b ha hb
theorem am.bool:am Rep.bool λb=>[.pv (.bool b)]:=by
 rintro w cs a F Z _ ⟨rfl,_⟩
 exact .one (.pv _ rfl)
end Go.Proofs.YtnlhpdbijmnkhaaGreatDoor
namespace Go.Proofs.YtnlhpdbijmnkhaaGreatDoor
open Go.RowKit
theorem AB.ofT{p:Bool}{X Y:Prop}(h:p=true)(hx:X):AB p X Y:=⟨λ_=>hx,λe=>(by rw[h]at e;cases e)⟩
theorem AB.ofF{p:Bool}{X Y:Prop}(h:p=false)(hy:Y):AB p X Y:=⟨λe=>(by rw[h]at e;cases e),λ_=>hy⟩
theorem bT{p:Bool}{X Y:Prop}(hx:X)(h:p=true:=by assumption):AB p X Y:=AB.ofT h hx
theorem bF{p:Bool}{X Y:Prop}(hy:Y)(h:p=false:=by assumption):AB p X Y:=AB.ofF h hy
theorem AOp.reads{E:aE}{S:aZ}{o:Oper}{st:ASt}{K:ASt->Prop}(h:∀Z ρ a w,Sim E.W S Z ρ st a w->dE E Z ρ o a w λv=>cF st o.dst v K):AOp E S o st K:=by
 refine⟨λa w Q hs=>?_⟩
 obtain⟨Z,ρ,hs⟩:=hs
 exact eq hs (h Z ρ a w hs) Q
theorem AIx.mapF{α:Type}{enc:α->List AD}{l:List α}{k:Nat}{K:Nat->List AD->Prop}(hk:k<l.length)(h:∀_:k<l.length,K k (enc l[k])):AIx (l.map enc) (k:Int) K:=AIx.map hk (h hk)
def eU(n:Int):List AD:=[.pv (.int .u8 n)]
theorem mU{Z:Nat->Prop}{w:World}{v u:Value}(h:bj Z w (.pv v) u):u=v:=by cases h;rfl
theorem qW{α β:Type}(f:α->β):∀l:List α,(l.map λx=>[f x]).flatten=l.map f
 |[]=>rfl
 |x::r=>by rw[List.map_cons,List.flatten_cons,qW f r];rfl
theorem AOp.bytes{E:aE}{S:aZ}{o:Oper}{st:ASt}{K:ASt->Prop}{src dst e:TypeId}{x:Operand}(l:List Int)(ho:o.op= .convert src dst x)(hs:E.P.underlying src=some (.slice e))(he:E.P.underlying e=some (.int .u8))(hd:E.P.underlying dst=some .string)
  (hx:aEv st x λv=>kw st v λxs=>xs=l.map eU) (hk:cF st o.dst (vS (strOfNums l)) K):AOp E S o st K:=by
 refine .reads λZ ρ a w hsim=>?_
 obtain⟨v,hv,hx⟩:=aG hsim hx
 obtain⟨xs,A,cap,hval,hcap,rfl,s,us,h1,h2,h3,h4,h5⟩:=mB hsim hv hx
 have hlen:(l.map eU).length=l.length:=by simp
 have hus:us=l.map λn=>[Value.int .u8 n]:=by
  apply List.ext_getElem?
  intro i
  rw[List.getElem?_map]
  cases hl:l[i]? with
  |none=>rw[List.getElem?_eq_none];rfl;rw[h1,hlen];exact List.getElem?_eq_none_iff.1 hl
  |some n=>
   have hlt:i<us.length:=by rw[h1,hlen];exact(List.getElem?_eq_some_iff.1 hl).1
   rw[List.getElem?_eq_getElem hlt]
   have hx:(l.map eU)[i]? =some (eU n):=by simp[hl]
   have hs1:s=1:=(h2 _ (List.mem_of_getElem? hx)).symm
   have hu:=h3 us[i] (List.getElem_mem hlt)
   rw[hs1]at hu
   obtain⟨y,hy⟩:=List.length_eq_one_iff.1 hu
   have:=mU (h5 i 0 _ _ _ y hx (List.getElem?_eq_getElem hlt) rfl (by rw[hy];rfl))
   simp[hy,this]
 have hfl:us.flatten=l.map (Value.int .u8):=by rw[hus];exact qW (λn=>Value.int .u8 n) l
 rw[hfl]at h4
 rw[hlen]at hval
 refine⟨_,_,bt rfl,?_,hk⟩
 have key:(convert src dst (.slice A l.length cap)).run E.P w= .ok (.string (strOfNums l)) w:=by
  rcases h4 with h4|⟨b,off,rfl,hc⟩
  ·have:l=[]:=by simpa using h4
   subst this
   cases A with
   |none=>exact run_convert_bytes_nil w src e hs he 0 cap dst hd
   |some ad=>
    have hl:(loadCells ad 0).run E.P w= .ok (([]:List Int).map (Value.int .u8)).toArray w:=by
     have:=run_loadCells_list (P:=E.P) w ad [] (λj v hj=>by simp at hj)
     simpa using this
    rw[show([]:List Int).length=0 from rfl,run_convert_bytes_string w src dst e _ 0 cap hs he hd,run_bytesToString w _ 0 cap [] hl,foldl_push_bytes]
    simp[strOfNums,ByteArray.empty,ByteArray.emptyWithCapacity]
    rfl
  ·refine run_convert_bytes_arg w src e hs he b off l.length cap l rfl (λi hi=>?_) dst hd
   refine(hc i _ ?_)
   simp[List.getD,hi]
 simp[execOp,ho,hval,key]
end Go.Proofs.YtnlhpdbijmnkhaaGreatDoor
namespace Go.Proofs.YtnlhpdbijmnkhaaGreatDoor
open Go.RowKit
def zx(v:Value):Option (DataW Value×List MemPlace):=some (.held v,[])
def atF(f:Int->Option Value)(x:Int)(z:DataW Value):DataW Value:=match f x with|some v=> .held v|none=>z
def Hi(P:Program)(k:TypeId)(N:Nat)(f:Int->Option Value)(w:World)(v:Value):Prop:=
 ∃b n D,v= .map (some b)/\n<=N/\w.ownsMap P k zx b n D/\∀x:Int,(Lit.int .i64 x).wf=true->Maps.has D (.int .i64 x)=(f x).isSome/\∀z,D.atKey (.int .i64 x) z=atF f x z
def Dp(P:Program)(k:TypeId)(N:Nat)(f:Int->Option Value):AO:= .any (Hi P k N f)
section
variable {P:Program} {k:TypeId} {N:Nat} {f:Int->Option Value} {Z:Nat->Prop} {w:World} {ρ:Nat->Value} {id:Nat}
theorem Ch(h:bB Z w ρ id (Dp P k N f)):∃b n D,ρ id= .map (some b)/\n<=N/\w.ownsMap P k zx b n D/\∀x:Int,(Lit.int .i64 x).wf=true->Maps.has D (.int .i64 x)=(f x).isSome/\∀z,D.atKey (.int .i64 x) z=atF f x z:=by
 obtain⟨b,_,_,hq⟩:=h
 exact hq w rfl
end
section
variable {E:aE} {S:aZ} {o:Oper} {st:ASt} {K:ASt->Prop} {k e:TypeId} {N:Nat} {f:Int->Option Value}
theorem rk{Z:Nat->Prop}{ρ:Nat->Value}{a:Act}{w:World}{t:TypeId}{x i:Operand}{ok:Bool}{id:Nat}{n:Int}{z:Value}(hs:Sim E.W S Z ρ st a w)(ho:o.op= .lookup t x i ok)(ht:E.P.underlying t=some (.map k e))(hk:E.P.underlying k=some (.int .i64))(hz:∀w,(zeroValue e).run E.P w= .ok z w)
  (hx:aEv st x λv=>v= .one (.own id)) (hi:aEv st i λv=>v=vI .i64 n) (hob:aOb st.ob id λo=>o=Dp E.P k N f) (hn:(Lit.int .i64 n).wf=true) (r:AV) (hr:∀Z w ρ,aV Z w ρ r ((f n).getD z)):
  ∃u,aV Z w ρ (match(generalizing:=false) ok with|true=> .tup [r,vB (f n).isSome]|false=>r) u/\(execOp a.eval o).run E.P w= .ok (.value u) w:=by
 obtain⟨vx,hvx,rfl⟩:=aG hs hx
 obtain⟨vi,hvi,rfl⟩:=aG hs hi
 obtain⟨ob,hob,rfl⟩:=bw hob
 obtain⟨b,m,D,hρ,hm,hown,hf⟩:=Ch (Z:=Z) (w:=w) (hs.ws.obj id _ hob)
 have e1:a.eval x= .map (some b):=by
  cases hvx with
  |one _ _ h=>exact h.1.trans hρ
 have e2:a.eval i= .int .i64 n:=be hvi
 have hl:=Maps.int_keyed hk
 have hkey:=Maps.keyOf_int_mk hk hn
 have at_:D.atKey (.int .i64 n) (.held z)= .held ((f n).getD z):=by
  rw[(hf n hn).2];unfold atF;cases f n<;>rfl
 cases ok with
 |false=>
  obtain⟨v,ps,hrun,hv⟩:=hown.lookup hl ht (hz w) (zd:= .held z) (zp:=[]) rfl hkey
  have hv':v=(f n).getD z:=by
   simp only[zx,Option.some.injEq,Prod.mk.injEq]at hv
   rw[at_]at hv
   injection hv.1
  exact⟨v,by rw[hv'];exact hr Z w ρ,by simp[execOp,ho,e1,e2,hrun]⟩
 |true=>
  obtain⟨v,ps,hrun,hv⟩:=hown.look_ok hl ht (hz w) (zd:= .held z) (zp:=[]) rfl hkey
  have hv':v=(f n).getD z:=by
   simp only[zx,Option.some.injEq,Prod.mk.injEq]at hv
   rw[at_]at hv
   injection hv.1
  refine⟨.tuple #[v,.bool (Maps.has D (.int .i64 n))],?_,by simp[execOp,ho,e1,e2,hrun]⟩
  have:(Value.tuple #[v,.bool (Maps.has D (.int .i64 n))])= .tuple [v,.bool (Maps.has D (.int .i64 n))].toArray:=rfl
  rw[this]
  refine .tup _ _ rfl λj c u hc hu=>?_
  match j,hc,hu with
  |0,hc,hu=>simp at hc hu;subst hc hu;rw[hv'];exact hr Z w ρ
  |1,hc,hu=>simp at hc hu;subst hc hu;rw[(hf n hn).1];exact bt rfl
  |j+2,hc,_=>simp at hc
theorem AOp.look{t:TypeId}{x i:Operand}{ok:Bool}{id:Nat}{n:Int}{z:Value}(ho:o.op= .lookup t x i ok)(ht:E.P.underlying t=some (.map k e))(hk:E.P.underlying k=some (.int .i64))(hz:∀w,(zeroValue e).run E.P w= .ok z w)
  (hx:aEv st x λv=>v= .one (.own id)) (hi:aEv st i λv=>v=vI .i64 n) (hob:aOb st.ob id λo=>o=Dp E.P k N f) (hn:(Lit.int .i64 n).wf=true) (r:AV) (hr:∀Z w ρ,aV Z w ρ r ((f n).getD z))
  (hK:cF st o.dst (match(generalizing:=false) ok with|true=> .tup [r,vB (f n).isSome]|false=>r) K):AOp E S o st K:=by
 refine .reads λZ ρ a w hs=>?_
 obtain⟨u,hu,hrun⟩:=rk hs ho ht hk hz hx hi hob hn r hr
 exact⟨_,u,hu,hrun,hK⟩
theorem sG.look{K:AV->Prop}{t:TypeId}{x i:Operand}{ok:Bool}{id:Nat}{n:Int}{z:Value}(ho:o.op= .lookup t x i ok)(ht:E.P.underlying t=some (.map k e))(hk:E.P.underlying k=some (.int .i64))(hz:∀w,(zeroValue e).run E.P w= .ok z w)
  (hx:aEv st x λv=>v= .one (.own id)) (hi:aEv st i λv=>v=vI .i64 n) (hob:aOb st.ob id λo=>o=Dp E.P k N f) (hn:(Lit.int .i64 n).wf=true) (r:AV) (hr:∀Z w ρ,aV Z w ρ r ((f n).getD z))
  (hK:K (match(generalizing:=false) ok with|true=> .tup [r,vB (f n).isSome]|false=>r)):sG E o st K:=
 ⟨_,hK,λS Z ρ a w hs=>rk hs ho ht hk hz hx hi hob hn r hr⟩
end
end Go.Proofs.YtnlhpdbijmnkhaaGreatDoor
namespace Go.Proofs.YtnlhpdbijmnkhaaGreatDoor
open Go.RowKit
theorem xj{Z:Nat->Prop}{w:World}{ρ:Nat->Value}{v:Value}:∀{ds:List AD},ds.all AD.isPv=true->aV Z w ρ (.agg (ds.map .d)) v->v= .agg (ds.map rH).toArray:=by
 intro ds hp h
 cases h with
 |agg _ us hl h=>
  have:us=ds.map rH:=by
   apply List.ext_getElem
   ·simpa using hl
   ·intro i h1 h2
    have hi:i<ds.length:=by simpa using h2
    have hr:=h i (.d ds[i]) us[i] (by simp[hi]) (by simp[h1])
    have:=lW (List.all_eq_true.1 hp ds[i] (List.getElem_mem hi)) (show bj Z w ds[i] us[i]from hr)
    simpa using this
  rw[this]
end Go.Proofs.YtnlhpdbijmnkhaaGreatDoor
