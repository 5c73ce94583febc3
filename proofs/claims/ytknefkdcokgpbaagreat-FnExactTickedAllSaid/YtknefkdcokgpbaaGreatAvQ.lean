/- AvQ -/
import Derived.Test.YtknefkdcokgpbaaGreatAvJ3
import Derived.Test.YtknefkdcokgpbaaGreatTypes
import Derived.Laws.BytesArg
import Derived.Laws.BytesString
import Derived.Maps.OwnSet
set_option maxHeartbeats 8000000
set_option linter.unusedVariables false
set_option linter.unusedSimpArgs false
set_option maxRecDepth 100000
namespace Go.Proofs.YtknefkdcokgpbaaGreat
section
open Go.RowKit
variable {F:List Nat}{Z:Nat->Prop}{α β:Type}{w:World}
def uQ(Z:Nat->Prop)(w:World)(ds:List AD)(cs:List Value):Prop:=cs.length=ds.length/\∀(i:Nat) d u,ds[i]? =some d->cs[i]? =some u->bR Z w d u
theorem uQ.append{ds es:List AD}{cs bs:List Value}(h:uQ Z w ds cs)(h':uQ Z w es bs):uQ Z w (ds++es) (cs++bs):=by
 refine⟨by simp[h.1,h'.1],λi d u hd hu=>?_⟩;by_cases hi:i<ds.length
 ·rw[List.getElem?_append_left hi]at hd;rw[List.getElem?_append_left (by rw[h.1];exact hi)]at hu;exact h.2 i d u hd hu
 ·rw[List.getElem?_append_right ac]at hd;rw[List.getElem?_append_right (by rw[h.1];omega),h.1]at hu;exact h'.2 _ d u hd hu
theorem uQ.one{d:AD}{u:Value}(h:bR Z w d u):uQ Z w [d] [u]:=⟨rfl,λi x y hx hy=>by
 cases i with
 |zero=>simp at hx hy;subst hx hy;exact h
 |succ i=>simp at hx⟩
def Enc{α:Type}(R:Rep α)(enc:α->List AD):Prop:=∀{w cs a F},R.rd w cs a F->uQ (λb=>b<w.heap.size) w (enc a) cs
theorem Enc.int{k:IntKind}:Enc (Rep.int k) λn=>[.pv (.int k n)]:=by
 rintro w cs a F ⟨rfl,_,_⟩;exact .one (.pv _ rfl)
theorem Enc.bool:Enc Rep.bool λb=>[.pv (.bool b)]:=by
 rintro w cs a F ⟨rfl,_⟩;exact .one (.pv _ rfl)
theorem Enc.str:Enc Rep.str λb=>[.pv (.string b)]:=by
 rintro w cs a F ⟨rfl,_⟩;exact .one (.pv _ rfl)
theorem Ye{R:Rep α}{S:Rep β}{f:α->List AD}{g:β->List AD}(h:Enc R f)(h':Enc S g):Enc (Yd R S) λx=>f x.1++g x.2:=by
 rintro w cs a F ⟨c1,c2,F1,F2,rfl,rfl,h1,h2⟩;exact(h h1).append (h' h2)
theorem YB{R:Rep α}{f:β->α}{g:α->List AD}(h:Enc R g):Enc (Yw f R) λx=>g (f x):=λhr=>h hr
theorem Enc.all{R:Rep α}{f:α->List AD}(h:Enc R f):∀{l:List α} {xs:List Value} {F:List Nat},R.all w xs l F->∃us:List (List Value),us.flatten=xs/\us.length=l.length/\(∀u∈us,u.length=R.size)/\
  ∀(i:Nat) a u,l[i]? =some a->us[i]? =some u->uQ (λb=>b<w.heap.size) w (f a) u
 |[],_,_,⟨rfl,_⟩=>⟨[],rfl,rfl,by simp,by simp⟩
 |a::l,_,_,⟨c1,c2,F1,F2,rfl,rfl,h1,h2⟩=>by
  obtain⟨us,e1,e2,e3,e4⟩:=Enc.all h h2;refine⟨c1::us,by simp[e1],by simp[e2],λu hu=>?_,λi b u hb hu=>?_⟩
  ·rcases List.mem_cons.1 hu with rfl|hu
   ·exact R.len h1
   ·exact e3 u hu
  ·cases i with
   |zero=>simp at hb hu;subst hb hu;exact h h1
   |succ i=>exact e4 i b u (by simpa using hb) (by simpa using hu)
theorem Enc.len{R:Rep α}{f:α->List AD}(h:Enc R f){w cs a F}(hr:R.rd w cs a F):(f a).length=R.size:=by rw[<-(h hr).1,R.len hr]
theorem Enc.sl{R:Rep α}{f:α->List AD}(h:Enc R f):Enc (Rep.sl R) λl=>[.sl (l.map f)]:=by
 rintro w cs l F ⟨A,cap,xs,F1,rfl,hc,hm,hrow,hall,rfl⟩;obtain⟨us,rfl,e2,e3,e4⟩:=Enc.all h hall;refine .one ?_;have:=bR.sl (Z:=λb=>b<w.heap.size) (w:=w) (l.map f) A cap R.size us (by simpa using hc) hm (by simpa using e2) (λx hx=>?_) e3 ?_ λi j x u a b hx hu ha hb=>?_
 ·simpa using this
 ·obtain⟨a,ha,rfl⟩:=List.mem_map.1 hx;obtain⟨i,hi,rfl⟩:=List.getElem_of_mem ha;have hlt:i<us.length:=ac;have h1:=(e4 i l[i] us[i] (List.getElem?_eq_getElem hi) (List.getElem?_eq_getElem hlt)).1;rw[<-h1];exact e3 _ (List.getElem_mem hlt)
 ·by_cases h0:us.flatten=[]
  ·exact .inl h0
  ·obtain⟨b,off,hA,hlt,hcell⟩:=hrow 0 (List.length_pos_iff.2 h0);exact .inr ⟨b,off,hA,hlt,hcell⟩
 ·rw[List.getElem?_map]at hx;obtain⟨y,hy,rfl⟩:=Option.map_eq_some_iff.1 hx;exact(e4 i y u hy hu).2 j a b ha hb
theorem Enc.agg{R:Rep α}{f:α->List AD}(h:Enc R f){cs:Array Value}{a:α}(hr:R.rd w cs.toList a F):dE (λb=>b<w.heap.size) w (.agg (f a)) (.agg cs):=
 ⟨cs.toList,by simp,(h hr).1,(h hr).2⟩
theorem Enc.cell{R:Rep α}{f:α->AD}(h:Enc R λa=>[f a]){v:Value}{a:α}(hr:R.rd w [v] a F):dE (λb=>b<w.heap.size) w (.one (f a)) v:=
 (h hr).2 0 _ _ rfl rfl
theorem aM.walk{E:bB}{f:FuncId}{args:List AP1}{p:Bool}(h:aM E f args (.val (.one (.pv (.bool p))))){W:World}(hT:E.W W){us:Array Value}(hl:us.size=args.length)(hr:∀(i:Nat) p u,args[i]? =some p->us.toList[i]? =some u->dE (λb=>b<W.heap.size) W p u):
  Calls E.P f us W λe W'=>e= .returned (.bool p)/\Below W.heap.size W W':=by
 have:=h.run (λb=>b<W.heap.size) W us.toList (λ_ hb=>hb) ⟨W,hT,Below.refl _ _,λ_ hb=>hb⟩ (by simpa using hl) hr;rw[Array.toArray_toList]at this;refine this.mono ?_;rintro e w' ⟨v,Z',rfl,hb,_,_,hv⟩;have hv':bR Z' w' (.pv (.bool p)) v:=hv;cases hv' with
 |pv=>exact⟨rfl,hb⟩
end
section
open Go.RowKit
variable {st:ASt}{K:ASt->Prop}{p:Bool}{o:Oper}{X Y:Prop}{α:Type}{E:bB}{S:bV}
theorem X2(h:p=true)(hx:X):AB p X Y:=⟨λ_=>hx,λe=>(by rw[h]at e;cases e)⟩
theorem X1(h:p=false)(hy:Y):AB p X Y:=⟨λe=>(by rw[h]at e;cases e),λ_=>hy⟩
theorem bT(hx:X)(h:p=true:=by assumption):AB p X Y:=X2 h hx
theorem bF(hy:Y)(h:p=false:=by assumption):AB p X Y:=X1 h hy
theorem AOp.reads(h:∀Z ρ a w,Sim E.W S Z ρ st a w->jm E Z ρ o a w λv=>dR st o.dst v K):AOp E S o st K:=by
 refine⟨λa w Q hs=>?_⟩;obtain⟨Z,ρ,hs⟩:=hs;exact ie hs (h Z ρ a w hs) Q
theorem Yc{enc:α->List AD}{l:List α}{k:Nat}{K:Nat->List AD->Prop}(hk:k<l.length)(h:∀_:k<l.length,K k (enc l[k])):AIx (l.map enc) (k:Int) K:=Yg hk (h hk)
def eU(n:Int):List AD:=[.pv (.int .u8 n)]
theorem Ud{Z:Nat->Prop}{w:World}{v u:Value}(h:bR Z w (.pv v) u):u=v:=by cases h;rfl
theorem wP{β:Type}(f:α->β):∀l:List α,(l.map λx=>[f x]).flatten=l.map f
 |[]=>rfl
 |x::r=>by rw[List.map_cons,List.flatten_cons,wP f r];rfl
theorem AOp.bytes{S:bV}{st:ASt}{K:ASt->Prop}{src dst e:TypeId}{x:Operand}(l:List Int)(ho:o.op= .convert src dst x)(hs:E.P.underlying src=some (.slice e))(he:E.P.underlying e=some (.int .u8))(hd:E.P.underlying dst=some .string)
  (hx:aEv st x λv=>rU st v λxs=>xs=l.map eU) (hk:dR st o.dst (vS (strOfNums l)) K):AOp E S o st K:=by
 refine .reads λZ ρ a w hsim=>?_;obtain⟨v,hv,hx⟩:=bn hsim hx;obtain⟨xs,A,cap,hval,hcap,rfl,s,us,h1,h2,h3,h4,h5⟩:=vG hsim hv hx;have hlen:(l.map eU).length=l.length:=aj;have hus:us=l.map λn=>[Value.int .u8 n]:=by
  apply List.ext_getElem?;intro i;rw[List.getElem?_map];cases hl:l[i]? with
  |none=>rw[List.getElem?_eq_none];rfl;rw[h1,hlen];exact List.getElem?_eq_none_iff.1 hl
  |some n=>
   have hlt:i<us.length:=by rw[h1,hlen];exact(List.getElem?_eq_some_iff.1 hl).1
   rw[List.getElem?_eq_getElem hlt];have hx:(l.map eU)[i]? =some (eU n):=by simp[hl]
   have hs1:s=1:=(h2 _ (List.mem_of_getElem? hx)).symm;have hu:=h3 us[i] (List.getElem_mem hlt);rw[hs1]at hu;obtain⟨y,hy⟩:=List.length_eq_one_iff.1 hu;have:=Ud (h5 i 0 _ _ _ y hx (List.getElem?_eq_getElem hlt) rfl (by rw[hy];rfl));simp[hy,this]
 have hfl:us.flatten=l.map (Value.int .u8):=by rw[hus];exact wP (λn=>Value.int .u8 n) l
 rw[hfl]at h4;rw[hlen]at hval;refine⟨_,_,cK rfl,?_,hk⟩;have key:(convert src dst (.slice A l.length cap)).run E.P w= .ok (.string (strOfNums l)) w:=by
  rcases h4 with h4|⟨b,off,rfl,hc⟩
  ·have:l=[]:=by simpa using h4
   subst this;cases A with
   |none=>exact run_convert_bytes_nil w src e hs he 0 cap dst hd
   |some ad=>
    have hl:(loadCells ad 0).run E.P w= .ok (([]:List Int).map (Value.int .u8)).toArray w:=by
     have:=run_loadCells_list (P:=E.P) w ad [] (λj v hj=>by simp at hj);simpa using this
    rw[show([]:List Int).length=0 from rfl,run_convert_bytes_string w src dst e _ 0 cap hs he hd,run_bytesToString w _ 0 cap [] hl,foldl_push_bytes];simp[strOfNums,ByteArray.empty,ByteArray.emptyWithCapacity];rfl
  ·refine run_convert_bytes_arg w src e hs he b off l.length cap l rfl (λi hi=>?_) dst hd;refine(hc i _ ?_);simp[List.getD,hi]
 simp[execOp,ho,hval,key]
end
section
open Go.RowKit
def Ff(v:Value):Option (DataW Value×List MemPlace):=some (.held v,[])
def atF(f:Int->Option Value)(x:Int)(z:DataW Value):DataW Value:=match f x with|some v=> .held v|none=>z
def Wk(P:Program)(k:TypeId)(N:Nat)(f:Int->Option Value)(w:World)(v:Value):Prop:=
 ∃b n D,v= .map (some b)/\n<=N/\w.ownsMap P k Ff b n D/\∀x:Int,(Lit.int .i64 x).wf=true->Maps.has D (.int .i64 x)=(f x).isSome/\∀z,D.atKey (.int .i64 x) z=atF f x z
def jc(P:Program)(k:TypeId)(N:Nat)(f:Int->Option Value):AO:= .any (Wk P k N f)
def rJ(f:Int->Option Value)(x:Int)(v:Option Value):Int->Option Value:=λy=>if y=x then v else f y
theorem Ab(f:Int->Option Value)(x:Int)(v:Option Value):rJ f x v x=v:=if_pos rfl
theorem Ac{f:Int->Option Value}{x y:Int}{v:Option Value}(h:y≠x):rJ f x v y=f y:=if_neg h
section
variable {P:Program} {k:TypeId} {N:Nat} {f:Int->Option Value} {Z:Nat->Prop} {w:World} {ρ:Nat->Value} {id:Nat}
theorem Hl{b n:Nat}{D:DataW Value}(hρ:ρ id= .map (some b))(hn:n<=N)(h:w.ownsMap P k Ff b n D)
  (hf:∀x:Int,(Lit.int .i64 x).wf=true->Maps.has D (.int .i64 x)=(f x).isSome/\∀z,D.atKey (.int .i64 x) z=atF f x z):cQ Z w ρ id (jc P k N f):=by
 refine⟨b,by rw[hρ];rfl,h.lt,λw' hw=>⟨b,n,D,hρ,hn,?_,hf⟩⟩;obtain⟨es,clock,hb,r⟩:=h;exact⟨es,clock,hw.trans hb,r⟩
theorem Cn(h:cQ Z w ρ id (jc P k N f)):∃b n D,ρ id= .map (some b)/\n<=N/\w.ownsMap P k Ff b n D/\∀x:Int,(Lit.int .i64 x).wf=true->Maps.has D (.int .i64 x)=(f x).isSome/\∀z,D.atKey (.int .i64 x) z=atF f x z:=by
 obtain⟨b,_,_,hq⟩:=h;exact hq w rfl
end
section
variable {E:bB} {S:bV} {o:Oper} {st:ASt} {K:ASt->Prop} {k e:TypeId} {N:Nat} {f:Int->Option Value}
theorem AOp.makeMap{t:TypeId}{d:Tmp}(k:TypeId)(ho:o.op= .makeMap t none)(hd:o.dst=some d)(hk:wq st d (jc E.P k 0 λ_=>none) λst=>dR st (some d) (.one (.own d)) K):AOp E S o st K:=by
 refine⟨λa w Q hs=>?_⟩;obtain⟨Z,ρ,hs⟩:=hs;have hrun:(execOp a.eval o).run E.P w= .ok (.value (.map (some w.heap.size))) (w.alloc (.map #[] 0)):=by
  have:= @run_makeMap E.P t w;simp[execOp,ho,this]
 unfold Oper.wp;rw[hrun];have hg:=grownBy_alloc w (.map #[] 0) none;have hrel:cQ Z (w.alloc (.map #[] 0)) (λi=>if i=d then .map (some w.heap.size)else ρ i) d (jc E.P k 0 λ_=>none):=
  Hl aj (Nat.le_refl _) (World.ownsMap_made w E.P k Ff) λx hx=>⟨rfl,λz=>rfl⟩
 have h1:=hs.renew d (.map (some w.heap.size)) (jc E.P k 0 λ_=>none) hg aj (λb hb=>by simp[bQ]at hb;right;omega) hrel;have h2:=io hk;have h3:=h1.put o.dst (x:= .one (.own d)) (v:= .map (some w.heap.size)) (xl aj rfl);rw[hd]at h3;refine⟨_,?_,fW h2⟩;rw[hd];exact⟨Z,_,h3⟩
theorem Cm{Z:Nat->Prop}{ρ:Nat->Value}{a:Act}{w:World}{t:TypeId}{x i:Operand}{ok:Bool}{id:Nat}{n:Int}{z:Value}(hs:Sim E.W S Z ρ st a w)(ho:o.op= .lookup t x i ok)(ht:E.P.underlying t=some (.map k e))(hk:E.P.underlying k=some (.int .i64))(hz:∀w,(zeroValue e).run E.P w= .ok z w)
  (hx:aEv st x λv=>v= .one (.own id)) (hi:aEv st i λv=>v=vI .i64 n) (hob:aOb st.ob id λo=>o=jc E.P k N f) (hn:(Lit.int .i64 n).wf=true) (r:AV) (hr:∀Z w ρ,bX Z w ρ r ((f n).getD z)):
  ∃u,bX Z w ρ (match(generalizing:=false) ok with|true=> .tup [r,vB (f n).isSome]|false=>r) u/\(execOp a.eval o).run E.P w= .ok (.value u) w:=by
 obtain⟨vx,hvx,rfl⟩:=bn hs hx;obtain⟨vi,hvi,rfl⟩:=bn hs hi;obtain⟨ob,hob,rfl⟩:=co hob;obtain⟨b,m,D,hρ,hm,hown,hf⟩:=Cn (Z:=Z) (w:=w) (hs.ws.obj id _ hob);have e1:a.eval x= .map (some b):=by
  cases hvx with
  |one _ _ h=>exact h.1.trans hρ
 have e2:a.eval i= .int .i64 n:=cy hvi;have hl:=Maps.int_keyed hk;have hkey:=Maps.keyOf_int_mk hk hn;have at_:D.atKey (.int .i64 n) (.held z)= .held ((f n).getD z):=by
  rw[(hf n hn).2];unfold atF;cases f n<;>rfl
 cases ok with
 |false=>
  obtain⟨v,ps,hrun,hv⟩:=hown.lookup hl ht (hz w) (zd:= .held z) (zp:=[]) rfl hkey;have hv':v=(f n).getD z:=by
   simp only[Ff,Option.some.injEq,Prod.mk.injEq]at hv;rw[at_]at hv;injection hv.1
  exact⟨v,by rw[hv'];exact hr Z w ρ,by simp[execOp,ho,e1,e2,hrun]⟩
 |true=>
  obtain⟨v,ps,hrun,hv⟩:=hown.look_ok hl ht (hz w) (zd:= .held z) (zp:=[]) rfl hkey;have hv':v=(f n).getD z:=by
   simp only[Ff,Option.some.injEq,Prod.mk.injEq]at hv;rw[at_]at hv;injection hv.1
  refine⟨.tuple #[v,.bool (Maps.has D (.int .i64 n))],?_,by simp[execOp,ho,e1,e2,hrun]⟩;have:(Value.tuple #[v,.bool (Maps.has D (.int .i64 n))])= .tuple [v,.bool (Maps.has D (.int .i64 n))].toArray:=rfl;rw[this];refine .tup _ _ rfl λj c u hc hu=>?_;match j,hc,hu with
  |0,hc,hu=>simp at hc hu;subst hc hu;rw[hv'];exact hr Z w ρ
  |1,hc,hu=>simp at hc hu;subst hc hu;rw[(hf n hn).1];exact cK rfl
  |j+2,hc,_=>simp at hc
theorem ZO{t:TypeId}{x i:Operand}{ok:Bool}{id:Nat}{n:Int}{z:Value}(ho:o.op= .lookup t x i ok)(ht:E.P.underlying t=some (.map k e))(hk:E.P.underlying k=some (.int .i64))(hz:∀w,(zeroValue e).run E.P w= .ok z w)
  (hx:aEv st x λv=>v= .one (.own id)) (hi:aEv st i λv=>v=vI .i64 n) (hob:aOb st.ob id λo=>o=jc E.P k N f) (hn:(Lit.int .i64 n).wf=true) (r:AV) (hr:∀Z w ρ,bX Z w ρ r ((f n).getD z))
  (hK:dR st o.dst (match(generalizing:=false) ok with|true=> .tup [r,vB (f n).isSome]|false=>r) K):AOp E S o st K:=by
 refine .reads λZ ρ a w hs=>?_;obtain⟨u,hu,hrun⟩:=Cm hs ho ht hk hz hx hi hob hn r hr;exact⟨_,u,hu,hrun,hK⟩
theorem aam{K:AV->Prop}{t:TypeId}{x i:Operand}{ok:Bool}{id:Nat}{n:Int}{z:Value}(ho:o.op= .lookup t x i ok)(ht:E.P.underlying t=some (.map k e))(hk:E.P.underlying k=some (.int .i64))(hz:∀w,(zeroValue e).run E.P w= .ok z w)
  (hx:aEv st x λv=>v= .one (.own id)) (hi:aEv st i λv=>v=vI .i64 n) (hob:aOb st.ob id λo=>o=jc E.P k N f) (hn:(Lit.int .i64 n).wf=true) (r:AV) (hr:∀Z w ρ,bX Z w ρ r ((f n).getD z))
  (hK:K (match(generalizing:=false) ok with|true=> .tup [r,vB (f n).isSome]|false=>r)):ou E o st K:=
 ⟨_,hK,λS Z ρ a w hs=>Cm hs ho ht hk hz hx hi hob hn r hr⟩
theorem ZP{t:TypeId}{x i v:Operand}{id:Nat}{n:Int}{u:Value}(ho:o.op= .mapUpdate t x i v)(ht:E.P.underlying t=some (.map k e))(hk:E.P.underlying k=some (.int .i64))(hN:N<9223372036854775807)
  (hx:aEv st x λv=>v= .one (.own id)) (hi:aEv st i λv=>v=vI .i64 n) (hob:aOb st.ob id λo=>o=jc E.P k N f) (hn:(Lit.int .i64 n).wf=true) (hv:aEv st v λv=>∀Z w ρ y,bX Z w ρ v y->y=u)
  (hK:gH id (jc E.P k (N+1) (rJ f n (some u))) st.ob λob=>dR ⟨st.tm,ob⟩ o.dst (.one .und) K):AOp E S o st K:=by
 refine⟨λa w Q hs=>?_⟩;obtain⟨Z,ρ,hs⟩:=hs;obtain⟨vx,hvx,rfl⟩:=bn hs hx;obtain⟨vi,hvi,rfl⟩:=bn hs hi;obtain⟨vv,hvv,huu⟩:=bn hs hv;obtain⟨ob,hob,rfl⟩:=co hob;obtain⟨b,m,D,hρ,hm,hown,hf⟩:=Cn (Z:=Z) (w:=w) (hs.ws.obj id _ hob);have e1:a.eval x= .map (some b):=by
  cases hvx with
  |one _ _ h=>exact h.1.trans hρ
 have e2:a.eval i= .int .i64 n:=cy hvi;have e3:a.eval v=u:=huu Z w ρ _ hvv;have hl:=Maps.int_keyed hk;have hkey:=Maps.keyOf_int_mk hk hn;obtain⟨w',hrun,hown',hturn⟩:=hown.store hl ht (by unfold maxLen;omega) hkey (val:=u) (d:= .held u) (ps:=[]) rfl;unfold Oper.wp;simp only[execOp,ho,e1,e2,e3,Sem.run_bind,hrun,Result.andThen_ok,Sem.run_pure];have hrel:cQ Z w' ρ id (jc E.P k (N+1) (rJ f n (some u))):=by
  refine Hl hρ ac hown' λy hy=>?_;by_cases hyn:y=n
  ·subst hyn;refine⟨by rw[Maps.has_put_same hown.isMap (hl.key hkey),Ab];rfl,λz=>?_⟩;rw[Maps.atKey_put_same hown.isMap (hl.key hkey)];unfold atF;rw[Ab]
  ·have hne:(Lit.int .i64 y)≠ .int .i64 n:=λe=>hyn (by injection e);refine⟨by rw[Maps.has_put_other hne,Ac hyn];exact(hf y hy).1,λz=>?_⟩;rw[Maps.atKey_put_other hne,(hf y hy).2];unfold atF;rw[Ac hyn]
 have h1:=hs.upd id _ (jc E.P k (N+1) (rJ f n (some u))) hob (g:=b) (by rw[hρ];rfl) hturn.grown hrel;exact⟨_,⟨Z,ρ,h1.put o.dst (x:= .one .und) (v:=undef) (.one _ _ (show dW Z w' ρ .und undef from rfl))⟩,fW (dl (K:=λob=>dR ⟨st.tm,ob⟩ o.dst (.one .und) K) hK)⟩
theorem aae{t:TypeId}{x i:Operand}{id:Nat}{n:Int}{c:Go.Call}(ho:o.op= .call c)(hc:c={callee:= .builtin .delete,args:= #[x,i],argTypes:= #[t,k]})(ht:E.P.underlying t=some (.map k e))(hk:E.P.underlying k=some (.int .i64))
  (hx:aEv st x λv=>v= .one (.own id)) (hi:aEv st i λv=>v=vI .i64 n) (hob:aOb st.ob id λo=>o=jc E.P k N f) (hn:(Lit.int .i64 n).wf=true)
  (hK:gH id (jc E.P k N (rJ f n none)) st.ob λob=>dR ⟨st.tm,ob⟩ o.dst (.one .dead) K):AOp E S o st K:=by
 subst hc;refine⟨λa w Q hs=>?_⟩;obtain⟨Z,ρ,hs⟩:=hs;obtain⟨vx,hvx,rfl⟩:=bn hs hx;obtain⟨vi,hvi,rfl⟩:=bn hs hi;obtain⟨ob,hob,rfl⟩:=co hob;obtain⟨b,m,D,hρ,hm,hown,hf⟩:=Cn (Z:=Z) (w:=w) (hs.ws.obj id _ hob);have e1:a.eval x= .map (some b):=by
  cases hvx with
  |one _ _ h=>exact h.1.trans hρ
 have e2:a.eval i= .int .i64 n:=cy hvi;have hl:=Maps.int_keyed hk;have hkey:=Maps.keyOf_int_mk hk hn;obtain⟨w',hrun,hown',hturn⟩:=hown.drop hl ht hkey o.type;have hrel:cQ Z w' ρ id (jc E.P k N (rJ f n none)):=by
  refine Hl hρ hm hown' λy hy=>?_;by_cases hyn:y=n
  ·subst hyn;refine⟨by rw[Maps.has_del_same,Ab];rfl,λz=>?_⟩;rw[Maps.atKey_del_same];unfold atF;rw[Ab]
  ·have hne:(Lit.int .i64 y)≠ .int .i64 n:=λe=>hyn (by injection e);refine⟨by rw[Maps.has_del_other hne,Ac hyn];exact(hf y hy).1,λz=>?_⟩;rw[Maps.atKey_del_other hne,(hf y hy).2];unfold atF;rw[Ac hyn]
 have h1:=hs.upd id _ (jc E.P k N (rJ f n none)) hob (g:=b) (by rw[hρ];rfl) hturn.grown hrel;unfold Oper.wp;simp[execOp,ho,resolve,invoke,builtin,e1,e2,hrun,Result.andThen];exact⟨_,⟨Z,ρ,h1.put o.dst (x:= .one .dead) (v:= .tuple #[]) (.one _ _ trivial)⟩,fW (dl (K:=λob=>dR ⟨st.tm,ob⟩ o.dst (.one .dead) K) hK)⟩
end
end
end Go.Proofs.YtknefkdcokgpbaaGreat
