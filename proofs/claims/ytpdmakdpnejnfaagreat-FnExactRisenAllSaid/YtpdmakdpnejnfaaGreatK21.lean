/- K21 -/
import Derived.Test.YtpdmakdpnejnfaaGreatAvJ3
import Derived.Test.YtpdmakdpnejnfaaGreatAvJ1
import Derived.Laws.BytesArg
import Derived.Laws.BytesString
import Derived.Maps.OwnSet
import Derived.Laws.Cover3
import Derived.OrdersHeld
import Derived.Test.YtpdmakdpnejnfaaGreatRows
set_option maxHeartbeats 8000000
set_option linter.unusedVariables false
set_option linter.unusedSimpArgs false
set_option maxRecDepth 100000
open List (all_eq_true getElem?_append_left getElem?_append_right getElem?_drop getElem?_eq_getElem getElem?_map getElem?_take getElem_mem mapM_cons mem_cons mem_filter mem_map mem_of_getElem? mem_range)
open Nat (eq_of_beq_eq_true zero_add zero_le)
open Bool (and_eq_true not_eq_true' or_eq_true)
open Option (getD_some map_eq_some_iff)
open Array (getD_eq_getD_getElem? toArray_toList)
namespace Go.Proofs.YtpdmakdpnejnfaaGreat
section
section
open Go.RowKit
def wi(Z:Nat->Prop)(w:World)(ds:List AD)(cs:List Value):Prop:=cs.length=ds.length/\∀(i:Nat) d u,ds[i]? =some d->cs[i]? =some u->ca Z w d u
theorem wi.append{Z:Nat->Prop}{w:World}{ds es:List AD}{cs bs:List Value}(h:wi Z w ds cs)(h':wi Z w es bs):wi Z w (ds++es) (cs++bs):=by
 refine⟨by simp[h.1,h'.1],λi d u hd hu=>?_⟩;by_cases hi:i<ds.length
 ·rw[List.getElem?_append_left hi]at hd;rw[List.getElem?_append_left (by rw[h.1];exact hi)]at hu;exact h.2 i d u hd hu
 ·rw[List.getElem?_append_right aa]at hd;rw[List.getElem?_append_right (by rw[h.1];omega),h.1]at hu;exact h'.2 _ d u hd hu
theorem wi.one{Z:Nat->Prop}{w:World}{d:AD}{u:Value}(h:ca Z w d u):wi Z w [d] [u]:=⟨rfl,λi x y hx hy=>by
 cases i with
 |zero=>simp at hx hy;subst hx hy;exact h
 |succ i=>simp at hx⟩
def Enc{α:Type}(R:Rep α)(enc:α->List AD):Prop:=∀{w cs a F},R.rd w cs a F->wi (λb=>b<w.heap.size) w (enc a) cs
theorem Enc.int{k:IntKind}:Enc (Rep.int k) λn=>[.pv (.int k n)]:=by
 rintro w cs a F ⟨rfl,_,_⟩;exact .one (.pv _ rfl)
theorem Enc.bool:Enc Rep.bool λb=>[.pv (.bool b)]:=by
 rintro w cs a F ⟨rfl,_⟩;exact .one (.pv _ rfl)
theorem Enc.str:Enc Rep.str λb=>[.pv (.string b)]:=by
 rintro w cs a F ⟨rfl,_⟩;exact .one (.pv _ rfl)
theorem XJ{α β:Type}{R:Rep α}{S:Rep β}{f:α->List AD}{g:β->List AD}(h:Enc R f)(h':Enc S g):Enc (XH R S) λx=>f x.1++g x.2:=by
 rintro w cs a F ⟨c1,c2,F1,F2,rfl,rfl,h1,h2⟩;exact(h h1).append (h' h2)
theorem X2{α β:Type}{R:Rep α}{f:β->α}{g:α->List AD}(h:Enc R g):Enc (XY f R) λx=>g (f x):=λhr=>h hr
theorem Enc.all{α:Type}{R:Rep α}{f:α->List AD}(h:Enc R f){w:World}:∀{l:List α} {xs:List Value} {F:List Nat},R.all w xs l F->∃us:List (List Value),us.flatten=xs/\us.length=l.length/\(∀u∈us,u.length=R.size)/\
  ∀(i:Nat) a u,l[i]? =some a->us[i]? =some u->wi (λb=>b<w.heap.size) w (f a) u
 |[],_,_,⟨rfl,_⟩=>⟨[],rfl,rfl,by simp,by simp⟩
 |a::l,_,_,⟨c1,c2,F1,F2,rfl,rfl,h1,h2⟩=>by
  obtain⟨us,e1,e2,e3,e4⟩:=Enc.all h h2;refine⟨c1::us,by simp[e1],by simp[e2],λu hu=>?_,λi b u hb hu=>?_⟩
  ·rcases List.mem_cons.1 hu with rfl|hu
   ·exact R.len h1
   ·exact e3 u hu
  ·cases i with
   |zero=>simp at hb hu;subst hb hu;exact h h1
   |succ i=>exact e4 i b u (by simpa using hb) (by simpa using hu)
theorem Enc.len{α:Type}{R:Rep α}{f:α->List AD}(h:Enc R f){w cs a F}(hr:R.rd w cs a F):(f a).length=R.size:=by rw[<-(h hr).1,R.len hr]
theorem Enc.sl{α:Type}{R:Rep α}{f:α->List AD}(h:Enc R f):Enc (Rep.sl R) λl=>[.sl (l.map f)]:=by
 rintro w cs l F ⟨A,cap,xs,F1,rfl,hc,hm,hrow,hall,rfl⟩;obtain⟨us,rfl,e2,e3,e4⟩:=Enc.all h hall;refine .one ?_;have:=ca.sl (Z:=λb=>b<w.heap.size) (w:=w) (l.map f) A cap R.size us (by simpa using hc) hm (by simpa using e2) (λx hx=>?_) e3 ?_ λi j x u a b hx hu ha hb=>?_
 ·simpa using this
 ·obtain⟨a,ha,rfl⟩:=List.mem_map.1 hx;obtain⟨i,hi,rfl⟩:=List.getElem_of_mem ha;have hlt:i<us.length:=aa;have h1:=(e4 i l[i] us[i] (getElem?_eq_getElem hi) (getElem?_eq_getElem hlt)).1;rw[<-h1];exact e3 _ (getElem_mem hlt)
 ·by_cases h0:us.flatten=[]
  ·exact .inl h0
  ·obtain⟨b,off,hA,hlt,hcell⟩:=hrow 0 (List.length_pos_iff.2 h0);exact .inr ⟨b,off,hA,hlt,hcell⟩
 ·rw[getElem?_map]at hx;obtain⟨y,hy,rfl⟩:=Option.map_eq_some_iff.1 hx;exact(e4 i y u hy hu).2 j a b ha hb
theorem Enc.agg{α:Type}{R:Rep α}{f:α->List AD}(h:Enc R f){w:World}{cs:Array Value}{a:α}{F:List Nat}(hr:R.rd w cs.toList a F):fw (λb=>b<w.heap.size) w (.agg (f a)) (.agg cs):=
 ⟨cs.toList,by simp,(h hr).1,(h hr).2⟩
theorem Enc.cell{α:Type}{R:Rep α}{f:α->AD}(h:Enc R λa=>[f a]){w:World}{v:Value}{a:α}{F:List Nat}(hr:R.rd w [v] a F):fw (λb=>b<w.heap.size) w (.one (f a)) v:=
 (h hr).2 0 _ _ rfl rfl
theorem aL.walk{E:bz}{f:FuncId}{args:List AP1}{p:Bool}(h:aL E f args (.val (.one (.pv (.bool p))))){W:World}(hT:E.W W){us:Array Value}(hl:us.size=args.length)(hr:∀(i:Nat) p u,args[i]? =some p->us.toList[i]? =some u->fw (λb=>b<W.heap.size) W p u):
  Calls E.P f us W λe W'=>e= .returned (.bool p)/\Below W.heap.size W W':=by
 have:=h.run (λb=>b<W.heap.size) W us.toList (λ_ hb=>hb) ⟨W,hT,Below.refl _ _,λ_ hb=>hb⟩ (by simpa using hl) hr;rw[Array.toArray_toList]at this;refine this.mono ?_;rintro e w' ⟨v,Z',rfl,hb,_,_,hv⟩;have hv':ca Z' w' (.pv (.bool p)) v:=hv;cases hv' with
 |pv=>exact⟨rfl,hb⟩
theorem Xy{p:Bool}{X Y:Prop}(h:p=true)(hx:X):AB p X Y:=⟨λ_=>hx,λe=>(by rw[h]at e;cases e)⟩
theorem Xx{p:Bool}{X Y:Prop}(h:p=false)(hy:Y):AB p X Y:=⟨λe=>(by rw[h]at e;cases e),λ_=>hy⟩
theorem bT{p:Bool}{X Y:Prop}(hx:X)(h:p=true:=by assumption):AB p X Y:=Xy h hx
theorem bF{p:Bool}{X Y:Prop}(hy:Y)(h:p=false:=by assumption):AB p X Y:=Xx h hy
theorem AOp.reads{E:bz}{S:bR}{o:Oper}{st:ASt}{K:ASt->Prop}(h:∀Z ρ a w,Sim E.W S Z ρ st a w->jM E Z ρ o a w λv=>eA st o.dst v K):AOp E S o st K:=by
 refine⟨λa w Q hs=>?_⟩;obtain⟨Z,ρ,hs⟩:=hs;exact jX hs (h Z ρ a w hs) Q
theorem XI{α:Type}{enc:α->List AD}{l:List α}{k:Nat}{K:Nat->List AD->Prop}(hk:k<l.length)(h:∀_:k<l.length,K k (enc l[k])):AIx (l.map enc) (k:Int) K:=XK hk (h hk)
def eU(n:Int):List AD:=[.pv (.int .u8 n)]
theorem Ra{Z:Nat->Prop}{w:World}{v u:Value}(h:ca Z w (.pv v) u):u=v:=by cases h;rfl
theorem xX{α β:Type}(f:α->β):∀l:List α,(l.map λx=>[f x]).flatten=l.map f
 |[]=>rfl
 |x::r=>by rw[List.map_cons,List.flatten_cons,xX f r];rfl
theorem AOp.bytes{E:bz}{S:bR}{o:Oper}{st:ASt}{K:ASt->Prop}{src dst e:TypeId}{x:Operand}(l:List Int)(ho:o.op= .convert src dst x)(hs:E.P.underlying src=some (.slice e))(he:E.P.underlying e=some (.int .u8))(hd:E.P.underlying dst=some .string)
  (hx:aEv st x λv=>tK st v λxs=>xs=l.map eU) (hk:eA st o.dst (vS (strOfNums l)) K):AOp E S o st K:=by
 refine .reads λZ ρ a w hsim=>?_;obtain⟨v,hv,hx⟩:=bq hsim hx;obtain⟨xs,A,cap,hval,hcap,rfl,s,us,h1,h2,h3,h4,h5⟩:=wZ hsim hv hx;have hlen:(l.map eU).length=l.length:=ah;have hus:us=l.map λn=>[Value.int .u8 n]:=by
  apply List.ext_getElem?;intro i;rw[getElem?_map];cases hl:l[i]? with
  |none=>rw[List.getElem?_eq_none];rfl;rw[h1,hlen];exact List.getElem?_eq_none_iff.1 hl
  |some n=>
   have hlt:i<us.length:=by rw[h1,hlen];exact(List.getElem?_eq_some_iff.1 hl).1
   rw[getElem?_eq_getElem hlt];have hx:(l.map eU)[i]? =some (eU n):=by simp[hl]
   have hs1:s=1:=(h2 _ (List.mem_of_getElem? hx)).symm;have hu:=h3 us[i] (getElem_mem hlt);rw[hs1]at hu;obtain⟨y,hy⟩:=List.length_eq_one_iff.1 hu;have:=Ra (h5 i 0 _ _ _ y hx (getElem?_eq_getElem hlt) rfl (by rw[hy];rfl));simp[hy,this]
 have hfl:us.flatten=l.map (Value.int .u8):=by rw[hus];exact xX (λn=>Value.int .u8 n) l
 rw[hfl]at h4;rw[hlen]at hval;refine⟨_,_,cU rfl,?_,hk⟩;have key:(convert src dst (.slice A l.length cap)).run E.P w= .ok (.string (strOfNums l)) w:=by
  rcases h4 with h4|⟨b,off,rfl,hc⟩
  ·have:l=[]:=by simpa using h4
   subst this;cases A with
   |none=>exact run_convert_bytes_nil w src e hs he 0 cap dst hd
   |some ad=>
    have hl:(loadCells ad 0).run E.P w= .ok (([]:List Int).map (Value.int .u8)).toArray w:=by
     have:=run_loadCells_list (P:=E.P) w ad [] (λj v hj=>by simp at hj);simpa using this
    rw[show([]:List Int).length=0 from rfl,run_convert_bytes_string w src dst e _ 0 cap hs he hd,run_bytesToString w _ 0 cap [] hl,foldl_push_bytes];simp[strOfNums,ByteArray.empty,ByteArray.emptyWithCapacity];rfl
  ·refine run_convert_bytes_arg w src e hs he b off l.length cap l rfl (λi hi=>?_) dst hd;refine(hc i _ ?_);simp[List.getD,hi]
 simp[execOp,ho,hval,key]
def Gq(v:Value):Option (DataW Value×List MemPlace):=some (.held v,[])
def atF(f:Int->Option Value)(x:Int)(z:DataW Value):DataW Value:=match f x with|some v=> .held v|none=>z
def VR(P:Program)(k:TypeId)(N:Nat)(f:Int->Option Value)(w:World)(v:Value):Prop:=
 ∃b n D,v= .map (some b)/\n<=N/\w.ownsMap P k Gq b n D/\∀x:Int,(Lit.int .i64 x).wf=true->Maps.has D (.int .i64 x)=(f x).isSome/\∀z,D.atKey (.int .i64 x) z=atF f x z
def iV(P:Program)(k:TypeId)(N:Nat)(f:Int->Option Value):AO:= .any (VR P k N f)
def tC(f:Int->Option Value)(x:Int)(v:Option Value):Int->Option Value:=λy=>if y=x then v else f y
theorem BE(f:Int->Option Value)(x:Int)(v:Option Value):tC f x v x=v:=if_pos rfl
theorem BF{f:Int->Option Value}{x y:Int}{v:Option Value}(h:y≠x):tC f x v y=f y:=if_neg h
section
variable {P:Program} {k:TypeId} {N:Nat} {f:Int->Option Value} {Z:Nat->Prop} {w:World} {ρ:Nat->Value} {id:Nat}
theorem Ii{b n:Nat}{D:DataW Value}(hρ:ρ id= .map (some b))(hn:n<=N)(h:w.ownsMap P k Gq b n D)
  (hf:∀x:Int,(Lit.int .i64 x).wf=true->Maps.has D (.int .i64 x)=(f x).isSome/\∀z,D.atKey (.int .i64 x) z=atF f x z):cX Z w ρ id (iV P k N f):=by
 refine⟨b,by rw[hρ];rfl,h.lt,λw' hw=>⟨b,n,D,hρ,hn,?_,hf⟩⟩;obtain⟨es,clock,hb,r⟩:=h;exact⟨es,clock,hw.trans hb,r⟩
theorem Dp(h:cX Z w ρ id (iV P k N f)):∃b n D,ρ id= .map (some b)/\n<=N/\w.ownsMap P k Gq b n D/\∀x:Int,(Lit.int .i64 x).wf=true->Maps.has D (.int .i64 x)=(f x).isSome/\∀z,D.atKey (.int .i64 x) z=atF f x z:=by
 obtain⟨b,_,_,hq⟩:=h;exact hq w rfl
end
section
variable {E:bz} {S:bR} {o:Oper} {st:ASt} {K:ASt->Prop} {k e:TypeId} {N:Nat} {f:Int->Option Value}
theorem AOp.makeMap{t:TypeId}{d:Tmp}(k:TypeId)(ho:o.op= .makeMap t none)(hd:o.dst=some d)(hk:v8 st d (iV E.P k 0 λ_=>none) λst=>eA st (some d) (.one (.own d)) K):AOp E S o st K:=by
 refine⟨λa w Q hs=>?_⟩;obtain⟨Z,ρ,hs⟩:=hs;have hrun:(execOp a.eval o).run E.P w= .ok (.value (.map (some w.heap.size))) (w.alloc (.map #[] 0)):=by
  have:= @run_makeMap E.P t w;simp[execOp,ho,this]
 unfold Oper.wp;rw[hrun];have hg:=grownBy_alloc w (.map #[] 0) none;have hrel:cX Z (w.alloc (.map #[] 0)) (λi=>if i=d then .map (some w.heap.size)else ρ i) d (iV E.P k 0 λ_=>none):=
  Ii ah (Nat.le_refl _) (World.ownsMap_made w E.P k Gq) λx hx=>⟨rfl,λz=>rfl⟩
 have h1:=hs.renew d (.map (some w.heap.size)) (iV E.P k 0 λ_=>none) hg ah (λb hb=>by simp[bZ]at hb;right;omega) hrel;have h2:=gD hk;have h3:=h1.put o.dst (x:= .one (.own d)) (v:= .map (some w.heap.size)) (yB ah rfl);rw[hd]at h3;refine⟨_,?_,eT h2⟩;rw[hd];exact⟨Z,_,h3⟩
theorem Do{Z:Nat->Prop}{ρ:Nat->Value}{a:Act}{w:World}{t:TypeId}{x i:Operand}{ok:Bool}{id:Nat}{n:Int}{z:Value}(hs:Sim E.W S Z ρ st a w)(ho:o.op= .lookup t x i ok)(ht:E.P.underlying t=some (.map k e))(hk:E.P.underlying k=some (.int .i64))(hz:∀w,(zeroValue e).run E.P w= .ok z w)
  (hx:aEv st x λv=>v= .one (.own id)) (hi:aEv st i λv=>v=vI .i64 n) (hob:aOb st.ob id λo=>o=iV E.P k N f) (hn:(Lit.int .i64 n).wf=true) (r:AV) (hr:∀Z w ρ,cn Z w ρ r ((f n).getD z)):
  ∃u,cn Z w ρ (match(generalizing:=false) ok with|true=> .tup [r,vB (f n).isSome]|false=>r) u/\(execOp a.eval o).run E.P w= .ok (.value u) w:=by
 obtain⟨vx,hvx,rfl⟩:=bq hs hx;obtain⟨vi,hvi,rfl⟩:=bq hs hi;obtain⟨ob,hob,rfl⟩:=cm hob;obtain⟨b,m,D,hρ,hm,hown,hf⟩:=Dp (Z:=Z) (w:=w) (hs.ws.obj id _ hob);have e1:a.eval x= .map (some b):=by
  cases hvx with
  |one _ _ h=>exact h.1.trans hρ
 have e2:a.eval i= .int .i64 n:=cM hvi;have hl:=Maps.int_keyed hk;have hkey:=Maps.keyOf_int_mk hk hn;have at_:D.atKey (.int .i64 n) (.held z)= .held ((f n).getD z):=by
  rw[(hf n hn).2];unfold atF;cases f n<;>rfl
 cases ok with
 |false=>
  obtain⟨v,ps,hrun,hv⟩:=hown.lookup hl ht (hz w) (zd:= .held z) (zp:=[]) rfl hkey;have hv':v=(f n).getD z:=by
   simp only[Gq,Option.some.injEq,Prod.mk.injEq]at hv;rw[at_]at hv;injection hv.1
  exact⟨v,by rw[hv'];exact hr Z w ρ,by simp[execOp,ho,e1,e2,hrun]⟩
 |true=>
  obtain⟨v,ps,hrun,hv⟩:=hown.look_ok hl ht (hz w) (zd:= .held z) (zp:=[]) rfl hkey;have hv':v=(f n).getD z:=by
   simp only[Gq,Option.some.injEq,Prod.mk.injEq]at hv;rw[at_]at hv;injection hv.1
  refine⟨.tuple #[v,.bool (Maps.has D (.int .i64 n))],?_,by simp[execOp,ho,e1,e2,hrun]⟩;have:(Value.tuple #[v,.bool (Maps.has D (.int .i64 n))])= .tuple [v,.bool (Maps.has D (.int .i64 n))].toArray:=rfl;rw[this];refine .tup _ _ rfl λj c u hc hu=>?_;match j,hc,hu with
  |0,hc,hu=>simp at hc hu;subst hc hu;rw[hv'];exact hr Z w ρ
  |1,hc,hu=>simp at hc hu;subst hc hu;rw[(hf n hn).1];exact cU rfl
  |j+2,hc,_=>simp at hc
theorem Zr{t:TypeId}{x i:Operand}{ok:Bool}{id:Nat}{n:Int}{z:Value}(ho:o.op= .lookup t x i ok)(ht:E.P.underlying t=some (.map k e))(hk:E.P.underlying k=some (.int .i64))(hz:∀w,(zeroValue e).run E.P w= .ok z w)
  (hx:aEv st x λv=>v= .one (.own id)) (hi:aEv st i λv=>v=vI .i64 n) (hob:aOb st.ob id λo=>o=iV E.P k N f) (hn:(Lit.int .i64 n).wf=true) (r:AV) (hr:∀Z w ρ,cn Z w ρ r ((f n).getD z))
  (hK:eA st o.dst (match(generalizing:=false) ok with|true=> .tup [r,vB (f n).isSome]|false=>r) K):AOp E S o st K:=by
 refine .reads λZ ρ a w hs=>?_;obtain⟨u,hu,hrun⟩:=Do hs ho ht hk hz hx hi hob hn r hr;exact⟨_,u,hu,hrun,hK⟩
theorem aak{K:AV->Prop}{t:TypeId}{x i:Operand}{ok:Bool}{id:Nat}{n:Int}{z:Value}(ho:o.op= .lookup t x i ok)(ht:E.P.underlying t=some (.map k e))(hk:E.P.underlying k=some (.int .i64))(hz:∀w,(zeroValue e).run E.P w= .ok z w)
  (hx:aEv st x λv=>v= .one (.own id)) (hi:aEv st i λv=>v=vI .i64 n) (hob:aOb st.ob id λo=>o=iV E.P k N f) (hn:(Lit.int .i64 n).wf=true) (r:AV) (hr:∀Z w ρ,cn Z w ρ r ((f n).getD z))
  (hK:K (match(generalizing:=false) ok with|true=> .tup [r,vB (f n).isSome]|false=>r)):o7 E o st K:=
 ⟨_,hK,λS Z ρ a w hs=>Do hs ho ht hk hz hx hi hob hn r hr⟩
theorem Zt{t:TypeId}{x i v:Operand}{id:Nat}{n:Int}{u:Value}(ho:o.op= .mapUpdate t x i v)(ht:E.P.underlying t=some (.map k e))(hk:E.P.underlying k=some (.int .i64))(hN:N<9223372036854775807)
  (hx:aEv st x λv=>v= .one (.own id)) (hi:aEv st i λv=>v=vI .i64 n) (hob:aOb st.ob id λo=>o=iV E.P k N f) (hn:(Lit.int .i64 n).wf=true) (hv:aEv st v λv=>∀Z w ρ y,cn Z w ρ v y->y=u)
  (hK:fW id (iV E.P k (N+1) (tC f n (some u))) st.ob λob=>eA ⟨st.tm,ob⟩ o.dst (.one .und) K):AOp E S o st K:=by
 refine⟨λa w Q hs=>?_⟩;obtain⟨Z,ρ,hs⟩:=hs;obtain⟨vx,hvx,rfl⟩:=bq hs hx;obtain⟨vi,hvi,rfl⟩:=bq hs hi;obtain⟨vv,hvv,huu⟩:=bq hs hv;obtain⟨ob,hob,rfl⟩:=cm hob;obtain⟨b,m,D,hρ,hm,hown,hf⟩:=Dp (Z:=Z) (w:=w) (hs.ws.obj id _ hob);have e1:a.eval x= .map (some b):=by
  cases hvx with
  |one _ _ h=>exact h.1.trans hρ
 have e2:a.eval i= .int .i64 n:=cM hvi;have e3:a.eval v=u:=huu Z w ρ _ hvv;have hl:=Maps.int_keyed hk;have hkey:=Maps.keyOf_int_mk hk hn;obtain⟨w',hrun,hown',hturn⟩:=hown.store hl ht (by unfold maxLen;omega) hkey (val:=u) (d:= .held u) (ps:=[]) rfl;unfold Oper.wp;simp only[execOp,ho,e1,e2,e3,Sem.run_bind,hrun,Result.andThen_ok,Sem.run_pure];have hrel:cX Z w' ρ id (iV E.P k (N+1) (tC f n (some u))):=by
  refine Ii hρ aa hown' λy hy=>?_;by_cases hyn:y=n
  ·subst hyn;refine⟨by rw[Maps.has_put_same hown.isMap (hl.key hkey),BE];rfl,λz=>?_⟩;rw[Maps.atKey_put_same hown.isMap (hl.key hkey)];unfold atF;rw[BE]
  ·have hne:(Lit.int .i64 y)≠ .int .i64 n:=λe=>hyn (by injection e);refine⟨by rw[Maps.has_put_other hne,BF hyn];exact(hf y hy).1,λz=>?_⟩;rw[Maps.atKey_put_other hne,(hf y hy).2];unfold atF;rw[BF hyn]
 have h1:=hs.upd id _ (iV E.P k (N+1) (tC f n (some u))) hob (g:=b) (by rw[hρ];rfl) hturn.grown hrel;exact⟨_,⟨Z,ρ,h1.put o.dst (x:= .one .und) (v:=undef) (.one _ _ (show dN Z w' ρ .und undef from rfl))⟩,eT (dh (K:=λob=>eA ⟨st.tm,ob⟩ o.dst (.one .und) K) hK)⟩
theorem Zs{t:TypeId}{x i:Operand}{id:Nat}{n:Int}{c:Go.Call}(ho:o.op= .call c)(hc:c={callee:= .builtin .delete,args:= #[x,i],argTypes:= #[t,k]})(ht:E.P.underlying t=some (.map k e))(hk:E.P.underlying k=some (.int .i64))
  (hx:aEv st x λv=>v= .one (.own id)) (hi:aEv st i λv=>v=vI .i64 n) (hob:aOb st.ob id λo=>o=iV E.P k N f) (hn:(Lit.int .i64 n).wf=true)
  (hK:fW id (iV E.P k N (tC f n none)) st.ob λob=>eA ⟨st.tm,ob⟩ o.dst (.one .dead) K):AOp E S o st K:=by
 subst hc;refine⟨λa w Q hs=>?_⟩;obtain⟨Z,ρ,hs⟩:=hs;obtain⟨vx,hvx,rfl⟩:=bq hs hx;obtain⟨vi,hvi,rfl⟩:=bq hs hi;obtain⟨ob,hob,rfl⟩:=cm hob;obtain⟨b,m,D,hρ,hm,hown,hf⟩:=Dp (Z:=Z) (w:=w) (hs.ws.obj id _ hob);have e1:a.eval x= .map (some b):=by
  cases hvx with
  |one _ _ h=>exact h.1.trans hρ
 have e2:a.eval i= .int .i64 n:=cM hvi;have hl:=Maps.int_keyed hk;have hkey:=Maps.keyOf_int_mk hk hn;obtain⟨w',hrun,hown',hturn⟩:=hown.drop hl ht hkey o.type;have hrel:cX Z w' ρ id (iV E.P k N (tC f n none)):=by
  refine Ii hρ hm hown' λy hy=>?_;by_cases hyn:y=n
  ·subst hyn;refine⟨by rw[Maps.has_del_same,BE];rfl,λz=>?_⟩;rw[Maps.atKey_del_same];unfold atF;rw[BE]
  ·have hne:(Lit.int .i64 y)≠ .int .i64 n:=λe=>hyn (by injection e);refine⟨by rw[Maps.has_del_other hne,BF hyn];exact(hf y hy).1,λz=>?_⟩;rw[Maps.atKey_del_other hne,(hf y hy).2];unfold atF;rw[BF hyn]
 have h1:=hs.upd id _ (iV E.P k N (tC f n none)) hob (g:=b) (by rw[hρ];rfl) hturn.grown hrel;unfold Oper.wp;simp[execOp,ho,resolve,invoke,builtin,e1,e2,hrun,Result.andThen];exact⟨_,⟨Z,ρ,h1.put o.dst (x:= .one .dead) (v:= .tuple #[]) (.one _ _ trivial)⟩,eT (dh (K:=λob=>eA ⟨st.tm,ob⟩ o.dst (.one .dead) K) hK)⟩
end
end
section
open Go.RowKit
def Bh:AD->Value
 | .pv v=>v
 |_=>undef
def AD.isPv:AD->Bool
 | .pv _=>true
 |_=>false
def AP1.pl:AP1->Value
 | .one d=>Bh d
 | .agg ds=> .agg (ds.map Bh).toArray
def AP1.isPl:AP1->Bool
 | .one d=>d.isPv
 | .agg ds=>ds.all AD.isPv
theorem vO{Z:Nat->Prop}{w:World}{d:AD}{u:Value}(h:d.isPv=true)(hr:ca Z w d u):u=Bh d:=by
 cases hr with
 |pv=>rfl
 |sl=>cases h
 |x=>cases h
theorem SC{Z:Nat->Prop}{w:World}{p:AP1}{u:Value}(h:p.isPl=true)(hr:fw Z w p u):u=p.pl:=by
 cases p with
 |one d=>exact vO h hr
 |agg ds=>
  obtain⟨us,rfl,hl,hh⟩:=hr;have:us=ds.map Bh:=by
   apply List.ext_getElem?;intro i;rw[getElem?_map];cases hd:ds[i]? with
   |none=>rw[List.getElem?_eq_none];rfl;rw[hl];exact List.getElem?_eq_none_iff.1 hd
   |some d=>
    have hlt:i<us.length:=by rw[hl];exact(List.getElem?_eq_some_iff.1 hd).1
    rw[getElem?_eq_getElem hlt];have hp:d.isPv=true:=List.all_eq_true.1 h d (List.mem_of_getElem? hd);simp[vO hp (hh i d us[i] hd (getElem?_eq_getElem hlt))]
  rw[this];rfl
end
section
open Go.RowKit
def be{α:Type}(R:Rep α)(enc:α->List AD):Prop:=∀{w cs a F} {Z:Nat->Prop},(∀b∈F,Z b)->R.rd w cs a F->wi Z w (enc a) cs
theorem be.int{k:IntKind}:be (Rep.int k) λn=>[.pv (.int k n)]:=by
 rintro w cs a F Z _ ⟨rfl,_,_⟩;exact .one (.pv _ rfl)
theorem XG{α β:Type}{R:Rep α}{S:Rep β}{f:α->List AD}{g:β->List AD}(h:be R f)(h':be S g):be (XH R S) λx=>f x.1++g x.2:=by
 rintro w cs a F Z hz ⟨c1,c2,F1,F2,rfl,rfl,h1,h2⟩;exact(h (λb hb=>hz b (List.mem_append_left _ hb)) h1).append (h' (λb hb=>hz b (List.mem_append_right _ hb)) h2)
theorem XX{α β:Type}{R:Rep α}{f:β->α}{g:α->List AD}(h:be R g):be (XY f R) λx=>g (f x):=λhz hr=>h hz hr
theorem be.all{α:Type}{R:Rep α}{f:α->List AD}(h:be R f){w:World}{Z:Nat->Prop}:∀{l:List α} {xs:List Value} {F:List Nat},(∀b∈F,Z b)->R.all w xs l F->∃us:List (List Value),us.flatten=xs/\us.length=l.length/\(∀u∈us,u.length=R.size)/\
  ∀(i:Nat) a u,l[i]? =some a->us[i]? =some u->wi Z w (f a) u
 |[],_,_,_,⟨rfl,_⟩=>⟨[],rfl,rfl,by simp,by simp⟩
 |a::l,xs,F,hz,h0=>by
  obtain⟨c1,c2,F1,F2,e1,e2,h1,h2⟩:=h0;subst e1 e2;obtain⟨us,e1,e2,e3,e4⟩:=be.all h (λb hb=>hz b (List.mem_append_right _ hb)) h2;refine⟨c1::us,by simp[e1],by simp[e2],λu hu=>?_,λi b u hb hu=>?_⟩
  ·rcases List.mem_cons.1 hu with rfl|hu
   ·exact R.len h1
   ·exact e3 u hu
  ·cases i with
   |zero=>simp at hb hu;subst hb hu;exact h (λb hb=>hz b (List.mem_append_left _ hb)) h1
   |succ i=>exact e4 i b u (by simpa using hb) (by simpa using hu)
theorem be.sl{α:Type}{R:Rep α}{f:α->List AD}(h:be R f):be (Rep.sl R) λl=>[.sl (l.map f)]:=by
 rintro w cs l F Z hz ⟨A,cap,xs,F1,rfl,hc,hm,hrow,hall,rfl⟩;obtain⟨us,rfl,e2,e3,e4⟩:=be.all h (λb hb=>hz b (List.mem_append_right _ hb)) hall;refine .one ?_;have:=ca.sl (Z:=Z) (w:=w) (l.map f) A cap R.size us (by simpa using hc) hm (by simpa using e2) (λx hx=>?_) e3 ?_ λi j x u a b hx hu ha hb=>?_
 ·simpa using this
 ·obtain⟨a,ha,rfl⟩:=List.mem_map.1 hx;obtain⟨i,hi,rfl⟩:=List.getElem_of_mem ha;have hlt:i<us.length:=aa;have h1:=(e4 i l[i] us[i] (getElem?_eq_getElem hi) (getElem?_eq_getElem hlt)).1;rw[<-h1];exact e3 _ (getElem_mem hlt)
 ·by_cases h0:us.flatten=[]
  ·exact .inl h0
  ·obtain⟨b,off,hA,hlt,hcell⟩:=hrow 0 (List.length_pos_iff.2 h0);refine .inr ⟨b,off,hA,hz b (List.mem_append_left _ ?_),hcell⟩;rw[hA];simp[xe,h0]
 ·rw[getElem?_map]at hx;obtain⟨y,hy,rfl⟩:=Option.map_eq_some_iff.1 hx;exact(e4 i y u hy hu).2 j a b ha hb
theorem be.bool:be Rep.bool λb=>[.pv (.bool b)]:=by
 rintro w cs a F Z _ ⟨rfl,_⟩;exact .one (.pv _ rfl)
end
section
open Go.RowKit
theorem yD{Z:Nat->Prop}{w:World}{ρ:Nat->Value}{v:Value}:∀{ds:List AD},ds.all AD.isPv=true->cn Z w ρ (.agg (ds.map .d)) v->v= .agg (ds.map Bh).toArray:=by
 intro ds hp h;cases h with
 |agg _ us hl h=>
  have:us=ds.map Bh:=by
   apply List.ext_getElem
   ·simpa using hl
   ·intro i h1 h2;have hi:i<ds.length:=by simpa using h2
    have hr:=h i (.d ds[i]) us[i] (by simp[hi]) (by simp[h1]);have:=vO (List.all_eq_true.1 hp ds[i] (getElem_mem hi)) (show ca Z w ds[i] us[i]from hr);simpa using this
  rw[this]
end
section
open Go.RowKit
section
variable {E:bz}
abbrev VZ:AD:= .pv (.slice none 0 0)
def Ts(v:AV)(b:Bool):Prop:=(v= .one (.d VZ)/\b=true)\/(v= .one .nil/\b=true)\/(∃x y xs,v= .one (.d (.sl ((x::y)::xs)))/\b=false)
theorem aal{S:bR}{o:Oper}{st:ASt}{K:ASt->Prop}{t e:TypeId}{x:Operand}{p:TypeId}(b:Bool)(ho:o.op= .binOp .eql t x (.const (.slice none 0 0)) p)(ht:E.P.underlying t=some (.slice e))
  (hx:aEv st x λv=>Ts v b) (hk:eA st o.dst (vB b) K):AOp E S o st K:=by
 refine .reads λZ ρ a w hsim=>?_;obtain⟨v,hv,hx⟩:=bq hsim hx;have key:∃A l c,a.eval x= .slice A l c/\A.isNone=b:=by
  rcases hx with⟨rfl,rfl⟩|⟨rfl,rfl⟩|⟨y,ys,xs,rfl,rfl⟩
  ·cases hv with|one _ _ hv=>
    have:a.eval x= .slice none 0 0:=Ra hv;exact⟨_,_,_,this,rfl⟩
  ·cases hv with|one _ _ hv=>exact⟨_,_,_,hv,rfl⟩
  ·cases hv with|one _ _ hv=>
    have hv:ca Z w (.sl ((y::ys)::xs)) (a.eval x):=hv;generalize a.eval x=u at hv;cases hv with
    |sl _ A cap s us h1 h2 h3 h4 h5 h6 h7=>
     refine⟨_,_,_,rfl,?_⟩;rcases h6 with h6|⟨b,off,rfl,_⟩
     ·exfalso;have hs:s=ys.length+1:=(h4 (y::ys) ah).symm;match us,h3 with
      |u::r,_=>
       have:=h5 u ah;rw[List.flatten_cons,List.append_eq_nil_iff]at h6;rw[h6.1,hs]at this;simp at this
     ·rfl
 obtain⟨A,l,c,e1,e2⟩:=key;refine⟨_,.bool b,cU rfl,?_,hk⟩;have hb:(binOp .eql t (.slice A l c) (.slice none 0 0)).run E.P w= .ok (.bool b) w:=by
  simp only[binOp];simp[run_equal_slice_nil w t e A l c ht,e2]
 have hc:a.eval (.const (.slice none 0 0))= .slice none 0 0:=rfl;simp[execOp,ho,e1,hc,eqGuard_at_slice,hb]
end
end
end
section
section
open Go.RowKit
section
variable {E:bz} {S:bR} {Z:Nat->Prop} {ρ:Nat->Value} {st:ASt} {a:Act} {w:World} {K:ASt->Prop} {o:Oper}
structure px where
 id:Nat
 fid:Nat
 b:Nat
 us:List Value
 t:TypeId
def KK(b:Nat)(us:List Value)(t:TypeId):World->Value->Prop:=λw v=>v= .pointer (some ⟨b,0,none⟩)/\w.heap[b]? =some (.cells us.toArray t (0,0))
def zO(R:(Nat->Prop)->World->Value->Prop):AO:= .frame [.one (.d (.x R))] [.bool true]
def Hj(ps:List px)(w:World):Prop:=∀p∈ps,w.heap[p.b]? =some (.cells p.us.toArray p.t (0,0))
def Ud(E:bz)(Z:Nat->Prop)(ρ:Nat->Value)(o:Oper)(a:Act)(w:World)(C:World->Prop)(K:AV->Prop):Prop:=∃x v,cn Z w ρ x v/\(∀w',C w'->(execOp a.eval o).run E.P w'= .ok (.value v) w')/\K x
theorem oz{t:TypeId}{i:TI}(hi:aS E.P t i){b off:Nat}{us:List Value}{cs:List AC}(hl:us.length=cs.length)(hr:∀(j:Nat) c u,cs[j]? =some c->us[j]? =some u->dN Z w ρ c u){K:AV->Prop}(hk:tL i cs K):
  ∃x v,(∀w':World,(∀j u,us[j]? =some u->w'.cell? ⟨b,off+j,none⟩=some u)->(loadVar t ⟨b,off,none⟩).run E.P w'= .ok v w')/\cn Z w ρ x v/\K x:=by
 unfold tL at hk;unfold loadVar;split at hk
 ·rename_i hg;obtain⟨hle,hk⟩:=pD hk;refine⟨_,.agg (us.take i.size).toArray,λw' hc=>?_,.agg _ (us.take i.size) (by simp[hl]) λj c u h1 h2=>?_,hk⟩
  ·have hlen:(us.take i.size).length=i.size:=al;have:=run_loadCells_list (P:=E.P) w' ⟨b,off,none⟩ (us.take i.size) (λj u hu=>by
    have hadd:(⟨b,off,none⟩:Addr).add j=⟨b,off+j,none⟩:=by unfold Addr.add;split<;>simp_all
    rw[hadd];rw[getElem?_take]at hu;split at hu
    ·exact hc j u hu
    ·cases hu)
   rw[hlen]at this;simp only[Sem.run_bind,hi.ag,hg,Result.andThen_ok,if_true,hi.sz,this,Sem.run_pure]
  ·rw[getElem?_take]at h1 h2;split at h1
   ·rename_i hlt;rw[if_pos hlt]at h2;exact hr j c u h1 h2
   ·cases h1
 ·rename_i hg;split at hk
  ·rename_i c r;cases us with
   |nil=>simp at hl
   |cons u us=>
    refine⟨_,u,λw' hc=>?_,.one _ _ (hr 0 c u rfl rfl),hk⟩;have:=hc 0 u rfl;simp only[Nat.add_zero]at this;simp[hi.ag,hg,this]
  ·exact hk.elim
theorem LW(he:E.Ok){t:TypeId}{i:TI}(hi:aS E.P t i){us:List Value}{cs:List AC}(hl:us.length=cs.length)(hr:∀(j:Nat) c u,cs[j]? =some c->us[j]? =some u->dN Z w ρ c u){off:Nat}(hoff:off<=cs.length){K:AV->Prop}(hk:tL i (cs.drop off) K):
  ∃x v,(∀w',(part t us.toArray off).run E.P w'= .ok v w')/\cn Z w ρ x v/\K x:=by
 unfold tL at hk;unfold part;split at hk
 ·rename_i hg;obtain⟨hle,hk⟩:=pD hk;refine⟨_,.agg ((us.drop off).take i.size).toArray,λw'=>?_,.agg _ ((us.drop off).take i.size) (by simp[hl]) λj c u h1 h2=>?_,hk⟩
  ·simp only[Sem.run_bind,hi.ag,hg,Result.andThen_ok,if_true,hi.sz,Sem.run_pure];congr 2;simp[List.extract]
  ·rw[getElem?_take]at h1 h2;split at h1
   ·rename_i hlt;rw[if_pos hlt]at h2;rw[getElem?_drop]at h1 h2;exact hr _ c u h1 h2
   ·cases h1
 ·rename_i hg;split at hk
  ·rename_i c r hcs;have h1:cs[off]? =some c:=by
    have:=congrArg (·[0]?) hcs;simpa using this
   have hlt:off<us.length:=by rw[hl];exact(List.getElem?_eq_some_iff.1 h1).1
   refine⟨_,us[off],λw'=>?_,.one _ _ (hr off c us[off] h1 (getElem?_eq_getElem hlt)),hk⟩;simp[hi.ag,hg,hlt]
  ·exact hk.elim
def Hs:List px->Nat->(px->Prop)->Prop
 |[],_,_=>False
 |p::r,i,K=>match Nat.beq p.id i with
  |true=>K p
  |false=>Hs r i K
theorem Ce{K:px->Prop}{i:Nat}:∀{ps:List px},Hs ps i K->∃p∈ps,p.id=i/\K p
 |[],h=>h.elim
 |p::r,h=>by
  unfold Hs at h;split at h
  ·rename_i e;exact⟨p,by simp,eq_of_beq_eq_true e,h⟩
  ·obtain⟨q,h1,h2⟩:=Ce h;exact⟨q,by simp[h1],h2⟩
def Nl:List AV->(List AC->Prop)->Prop
 |[],K=>K []
 | .one c::r,K=>Nl r λcs=>K (c::cs)
 |_::_,_=>False
theorem y4:∀{vs:List AV} {K:List AC->Prop},Nl vs K->∃cs,vs=cs.map .one/\K cs
 |[],_,h=>⟨[],rfl,h⟩
 | .one c::r,K,h=>by obtain⟨cs,e,hk⟩:=y4 (vs:=r) h;exact⟨c::cs,by rw[e];rfl,hk⟩
 | .agg _::_,_,h=>h.elim
 | .tup _::_,_,h=>h.elim
def Uh(op:BinOp)(x y:AV)(K:AV->Prop):Prop:=
 match x,y with
 | .one (.d (.pv (.int k a))),.one (.d (.pv (.int k' b)))=>match Cn k k' with
  |true=>zG op k a b K
  |false=>False
 |_,_=>False
theorem LL{E:bz}{op:BinOp}{k:IntKind}{x y:Int}{K:AV->Prop}(h:zG op k x y K):∃v,v.oneCell'=true/\(∀(w:World) t,(binOp op t (.int k x) (.int k y)).run E.P w= .ok v w)/\K (.one (.d (.pv v))):=by
 cases op<;>simp only[zG]at h<;>try exact h.elim
 case add=>obtain⟨c,rfl,hk⟩:=h.h;exact⟨_,rfl,λw t=>by simp[binOp,Op.intArith],hk⟩
 case sub=>obtain⟨c,rfl,hk⟩:=h.h;exact⟨_,rfl,λw t=>by simp[binOp,Op.intArith],hk⟩
 case mul=>obtain⟨c,rfl,hk⟩:=h.h;exact⟨_,rfl,λw t=>by simp[binOp,Op.intArith],hk⟩
 case quo=>obtain⟨c,rfl,hk⟩:=h.2.h;exact⟨_,rfl,λw t=>by simp[binOp,Op.intDiv,h.1],hk⟩
 case rem=>exact⟨_,rfl,λw t=>by simp[binOp,Op.intDiv,h.1],h.2⟩
 case and=>exact⟨_,rfl,λw t=>by simp[binOp,Op.intBits,TW],h⟩
 case shr=>
  split at h
  ·rename_i hb;have hb:¬y<0:=by rw[decide_eq_true_eq]at hb;omega
   exact⟨_,rfl,λw t=>by simp[binOp,Op.shift,SI,hb],h⟩
  ·exact h.elim
 all_goals exact⟨_,rfl,λw t=>by simp[binOp,Op.intCmp],h⟩
def PV(E:bz)(ps:List px)(pre:Bool)(o:Oper)(st:ASt)(K:AV->Prop):Prop:=
 match o.op with
 | .move x| .assign x=>aEv st x K
 | .binOp op _ x y _=>aEv st x λx=>aEv st y λy=>Uh op x y K
 | .field t x f=>aEv st x λx=>wS E t x f K
 | .fieldAddr t x f=>aEv st x λx=>lK E t x f K
 | .extract x i=>aEv st x λx=>match x with
  | .tup vs=>pB vs i K
  |_=>False
 | .load t x=>aEv st x λx=>match x with
  | .one (.ref id k s off) => Hs ps id fun p => aOb st.ob p.id fun o1 => And (o1 = .any (KK p.b p.us p.t)) (aOb st.ob p.fid fun o2 => match o2 with
   | .frame vs us=>And (k=0) (And (us=p.us) (Nl vs λcs=>xy cs off λcs=>aTI E.T t λi=>tL i cs K))
   |_=>False)
  | .one (.ptr ds)=>match pre with
   |true=>zJ ds λcs=>aTI E.T t λi=>tL i cs K
   |false=>False
  |_=>False
 | .indexAddr t x i=>aEv st x λx=>aEv st i λi=>match x with
  | .one (.d (.sl xs))=>match i with
   | .one (.d (.pv (.int _ n)))=>aTI E.T t λti=>match ti.kind with
    | .sl e=>aTI E.T e λj=>match j.size with
     |0=>False
     |s+1=>AIx xs n λ_ x=>match IW x (s+1)with
      |true=>K (.one (.ptr x))
      |false=>False
    |_=>False
   |_=>False
  |_=>False
 |_=>False
theorem KL(he:E.Ok){ps:List px}{pre:Bool}{C:World->Prop}{K:AV->Prop}(h:Sim E.W S Z ρ st a w)(hC1:∀w',C w'->Hj ps w')(hC2:pre=true->∀w',C w'->∀b,Z b->w'.heap[b]? =w.heap[b]?)(hk:PV E ps pre o st K):Ud E Z ρ o a w C K:=by
 unfold PV at hk;split at hk
 ·rename_i x ho;obtain⟨v,hv,hk⟩:=bq h hk;exact⟨_,_,hv,λw' _=>by simp[execOp,ho],hk⟩
 ·rename_i x ho;obtain⟨v,hv,hk⟩:=bq h hk;exact⟨_,_,hv,λw' _=>by simp[execOp,ho],hk⟩
 ·rename_i op t x y t2 ho;obtain⟨vx,hx,hk⟩:=bq h hk;obtain⟨vy,hy,hk⟩:=bq h hk;unfold Uh at hk;split at hk
  ·rename_i k m k' n;split at hk
   ·rename_i e;have e:=Fv e;subst e;have e1:=cM hx;have e2:=cM hy;obtain⟨v,h1,h2,hk⟩:=LL (E:=E) hk;refine⟨_,_,(cU h1),λw' _=>?_,hk⟩;simp only[execOp,ho,e1,e2];rw[mA (by rfl)];simp[h2]
   ·exact hk.elim
  ·exact hk.elim
 ·rename_i t x f ho;obtain⟨vx,hx,hk⟩:=bq h hk;unfold wS at hk;split at hk
  ·rename_i cs;obtain⟨i,hi,hk⟩:=cb he hk;split at hk
   ·rename_i fs hfs;obtain⟨fields,hu,hf⟩:=hi.stf hfs;obtain⟨p,hp,hk⟩:=fz hk;obtain⟨j,hj,hk⟩:=cb he hk;obtain⟨hle,hk⟩:=kj hk;rw[<-hf,getElem?_map]at hp;obtain⟨fl,hfl,rfl⟩:=map_eq_some_iff.1 hp;have hfl':fields[f]? =some fl:=by simpa using hfl
    generalize hev:a.eval x=ve at hx;cases hx with
    |agg _ us hl hr=>
     obtain⟨y,v,hrun,hy,hk⟩:=LW (w:=w) (ρ:=ρ) he hj hl hr hle hk;refine⟨_,_,hy,λw' _=>?_,hk⟩;simp[execOp,ho,hev,Instr.field,run_underlying hu,hfl',asAgg,hrun]
   ·exact hk.elim
  ·exact hk.elim
 ·rename_i t x f ho;obtain⟨vx,hx,hk⟩:=bq h hk;obtain⟨i,hi,hk⟩:=cb he hk;split at hk
  ·rename_i fs hfs;obtain⟨fields,hu,hf⟩:=hi.stf hfs;obtain⟨p,hp,hk⟩:=fz hk;obtain⟨j,hj,hk⟩:=cb he hk;rw[<-hf,getElem?_map]at hp;obtain⟨fl,hfl,rfl⟩:=map_eq_some_iff.1 hp;have hfl':fields[f]? =some fl:=by simpa using hfl
   split at hk
   ·exact hk.elim
   ·rename_i n hn;have run:∀b off,a.eval x= .pointer (some ⟨b,off,none⟩)->∀w',(execOp a.eval o).run E.P w'= .ok (.value (.pointer (some ⟨b,off+fl.offset,none⟩))) w':=by
     intro b off e w';have:=uT (P:=E.P) (b:=b) (off:=off) (fl:=fl) w' hj.sz aa;simp[execOp,ho,e,Instr.fieldAt,run_underlying hu,hfl',Instr.sureAddr,this]
    split at hk
    ·cases hx with
     |one _ _ hx=>
      obtain⟨b,hb,e⟩:=hx;refine⟨_,_,(ql hb ?_),(λw' _=>run _ _ e w'),hk⟩;rw[Nat.add_assoc]
    ·cases hx with
     |one _ _ hx=>
      obtain⟨b,off,us,e,hZ,hl,hc,hd⟩:=hx;obtain⟨hle,hk⟩:=kj hk;refine⟨_,_,(yC ⟨b,off+fl.offset,us.drop fl.offset,rfl,hZ,by simp[hl],λi u hu=>?_,λi x u h1 h2=>?_⟩),(λw' _=>run _ _ e w'),hk⟩
      ·rw[getElem?_drop]at hu;rw[Nat.add_assoc];exact hc _ u hu
      ·rw[getElem?_drop]at h1 h2;exact hd _ x u h1 h2
    ·exact hk.elim
  ·exact hk.elim
 ·rename_i x i ho;obtain⟨vx,hx,hk⟩:=bq h hk;split at hk
  ·rename_i vs;obtain⟨y,hy,hk⟩:=fz hk;generalize hev:a.eval x=ve at hx;cases hx with
   |tup _ us hl hr=>
    have hlt:i<us.length:=by rw[hl];exact(List.getElem?_eq_some_iff.1 hy).1
    refine⟨_,_,(hr i y us[i] hy (getElem?_eq_getElem hlt)),λw' _=>?_,hk⟩;simp[execOp,ho,hev,Instr.extract,hlt]
  ·exact hk.elim
 ·rename_i t x ho;obtain⟨vx,hx,hk⟩:=bq h hk;split at hk
  ·rename_i id k s off;obtain⟨p,hp,hid,hk⟩:=Ce hk;obtain⟨o1,ho1,rfl,hk⟩:=cm hk;obtain⟨o2,ho2,hk⟩:=cm hk;cases o2 with
   |frame vs us=>
    simp only at hk;obtain⟨ek,eu,hk1⟩:=hk;subst ek eu;obtain⟨cs,e0,hk⟩:=y4 hk1;subst e0;obtain⟨hle,hk⟩:=kj hk;obtain⟨i,hi,hk⟩:=cb he hk;cases hx with
    |one _ _ hx=>
     obtain⟨b,hb,e⟩:=hx;obtain⟨b',hb',hlt,hq⟩:=(show cX Z w ρ p.id (.any (KK p.b p.us p.t))from h.ws.obj p.id _ ho1);have hq0:=hq w rfl;rw[<-hid,hq0.1]at hb;simp only[bZ]at hb;injection hb with hb
     subst hb;rw[Nat.zero_mul,zero_add]at e;obtain⟨_,hfl,hfr⟩:=(show cX Z w ρ p.fid (.frame (cs.map .one) p.us)from h.ws.obj p.fid _ ho2);have hl:p.us.length=cs.length:=by simpa using hfl
     obtain⟨y,v,hrun,hy,hk⟩:=oz (E:=E) (Z:=Z) (w:=w) (ρ:=ρ) hi (b:=p.b) (off:=off) (us:=p.us.drop off) (cs:=cs.drop off) (by simp[hl]) (λj c u h1 h2=>by
      rw[getElem?_drop]at h1 h2;have:=hfr (off+j) (.one c) u (by rw[getElem?_map,h1];rfl) h2;cases this with|one _ _ h=>exact h) hk
     refine⟨_,_,hy,λw' hS=>?_,hk⟩;have hcell:=hC1 w' hS p hp;have:=hrun w' λj u hu=>by
      rw[getElem?_drop]at hu;rw[cell_of_row w' p.b _ _ _ _ hcell];simpa using hu
     simp[execOp,ho,e,Instr.loadAt,Instr.sureAddr,this]
   |_=>exact hk.elim
  ·rename_i ds;split at hk
   ·have hk:=nF hk;obtain⟨i,hi,hk⟩:=cb he hk;cases hx with
    |one _ _ hx=>
     obtain⟨b,off,us,e,hZ,hl,hc,hd⟩:=hx;obtain⟨y,v,hrun,hy,hk⟩:=oz (E:=E) (Z:=Z) (w:=w) (ρ:=ρ) hi (b:=b) (off:=off) (us:=us) (cs:=ds.map .d) (by simp[hl]) (λj c u h1 h2=>by
      rw[getElem?_map]at h1;obtain⟨d,h3,rfl⟩:=map_eq_some_iff.1 h1;exact hd j d u h3 h2) hk
     refine⟨_,_,hy,λw' hS=>?_,hk⟩;have:=hrun w' λj u hu=>(World.cell?_of_block (a:=⟨b,off+j,none⟩) (hC2 rfl w' hS b hZ)).trans (hc j u hu);simp[execOp,ho,e,Instr.loadAt,Instr.sureAddr,this]
   ·exact hk.elim
  ·exact hk.elim
 ·rename_i t x ix ho;obtain⟨vx,hx,hk⟩:=bq h hk;obtain⟨vi,hi,hk⟩:=bq h hk;split at hk
  ·rename_i xs;split at hk
   ·rename_i ki n;have ei:=cM hi;obtain⟨ti,hti,hk⟩:=cb he hk;split at hk
    ·rename_i e hs;have hu:=hti.sl hs;obtain⟨j,hj,hk⟩:=cb he hk;split at hk
     ·exact hk.elim
     ·rename_i s hjs;have run:∀(b off k len cap:Nat),n=(k:Int)->k<len->a.eval x= .slice (some ⟨b,off,none⟩) len cap->∀w',(execOp a.eval o).run E.P w'= .ok (.value (.pointer (some ⟨b,off+k*(s+1),none⟩))) w':=by
       intro b off k len cap hn hkl ev w';subst hn;have hadd:(⟨b,off,none⟩:Addr).add (k*(s+1))=⟨b,off+k*(s+1),none⟩:=by unfold Addr.add;split<;>simp_all
       have hnk:¬len<=k:=aa;simp[execOp,ho,ei,ev,Instr.indexAt,asIntOf,run_underlying hu,hkl,hnk,hj.sz,hjs,hadd]
      generalize hev:a.eval x=ve at hx;cases hx with
      |one _ _ hx=>
       cases hx with
       |sl xs A cap s' us hc hm hl hxs hus hr hd=>
        obtain⟨k,ex,hn,hex,hk⟩:=hk.h;split at hk
        ·rename_i hlen;have hlen:=B6 hlen;have hkx:=(List.getElem?_eq_some_iff.1 hex).1;have hku:k<us.length:=by rw[hl];exact hkx
         have hu1:us[k]? =some us[k]:=getElem?_eq_getElem hku;have hul:=hus us[k] (List.getElem_mem hku);have hs':s'=s+1:=by rw[<-hxs ex (mem_of_getElem? hex)];exact hlen
         subst hs';have hne:us.flatten≠ []:=by
          intro h0;have:=p6 hus hu1 (getElem?_eq_getElem (show 0<us[k].length by omega));rw[h0]at this;simp at this
         obtain⟨b,off,hA,hZ,hcell⟩:=hr.resolve_left hne;subst hA;refine⟨_,_,(yC ⟨b,off+k*(s+1),us[k],rfl,hZ,by rw[hul,hlen],λi u hu=>?_,λi d u h1 h2=>hd k i ex us[k] d u hex hu1 h1 h2⟩),(λw' _=>run b off k _ cap hn hkx hev w'),hk⟩;rw[Nat.add_assoc];exact hcell _ u (p6 hus hu1 hu)
        ·exact hk.elim
    ·exact hk.elim
   ·exact hk.elim
  ·exact hk.elim
 ·exact hk.elim
end
inductive Sch where
 |done
 |take (i:Nat) (s:Sch)
 |one (i:Nat) (s:Sch)
 |two (i:Nat) (s:Sch) (j:Nat) (t:Sch)
 |three (i:Nat) (s:Sch) (j:Nat) (t:Sch) (k:Nat) (u:Sch)
def tkc:List Nat->Sch->Sch
 |[],x=>x
 |n::r,x=> .take n (tkc r x)
def onc:List Nat->Sch->Sch
 |[],x=>x
 |n::r,x=> .one n (onc r x)
structure aK (X Y:Prop):Prop where
 l:X
 r:Y
def Cm(E:bz)(S:bR)(ops:List Oper)(i:Nat)(st:ASt)(K:ASt->Prop):Prop:=
 pB ops i λo=>wU ops o st (λst=>aop E S o st K) (λst=>eA st o.dst (.one .und) K)
def np(R:(Nat->Prop)->World->Value->Prop):List px->ASt->Prop->Prop
 |[],st,X=>aOb st.ob 9970 λo=>And (o=zO R) X
 |p::r,st,X=>aOb st.ob p.id λo=>And (o= .any (KK p.b p.us p.t)) (np R r st X)
def P7(E:bz)(ps:List px)(pre:Bool)(ops:List Oper)(i:Nat)(st:ASt)(K:ASt->Prop):Prop:=
 pB ops i λo=>wU ops o st (λst=>PV E ps pre o st λv=>eA st o.dst v K) (λst=>eA st o.dst (.one .und) K)
def Co(E:bz)(S:bR)(ps:List px)(R:(Nat->Prop)->World->Value->Prop)(ops:List Oper):Sch->ASt->(ASt->Prop)->Prop
 | .done,st,K=>K st
 | .take i s,st,K=>P7 E ps false ops i st λst=>Co E S ps R ops s st K
 | .one i s,st,K=>Cm E S ops i st λst=>np R ps st (Co E S ps R ops s st K)
 | .two i s j t,st,K=>aK (Cm E S ops i st λst=>np R ps st (Co E S ps R ops s st K)) (Cm E S ops j st λst=>np R ps st (Co E S ps R ops t st K))
 | .three i s j t k u,st,K=>aK (Cm E S ops i st λst=>np R ps st (Co E S ps R ops s st K)) (aK (Cm E S ops j st λst=>np R ps st (Co E S ps R ops t st K)) (Cm E S ops k st λst=>np R ps st (Co E S ps R ops u st K)))
def No(E:bz)(S:bR)(ps:List px)(R:(Nat->Prop)->World->Value->Prop)(ops:List Oper):Sch->ASt->(ASt->Prop)->Prop
 | .take i s,st,K=>P7 E ps true ops i st λst=>No E S ps R ops s st K
 |s,st,K=>Co E S ps R ops s st K
def inL(L:List Nat)(i:Nat):Bool:=L.contains i
def DN(A:List (List Nat))(L:List Nat)(i:Nat):Bool:=Nat.blt i A.length&& !inL L i&&(A.getD i []).all (inL L)
def mR(ops:List Oper)(A:List (List Nat)):Sch->List Nat->Bool
 | .done,L=>(List.range A.length).all (inL L)
 | .take i s, L => DN A L i && (match ops[i]? with
   | some o => (List.range A.length).all fun j => Nat.beq j i || inL L j || inL (A.getD j []) i || (match ops[j]? with
    |some oj=>o.apart ops.toArray oj
    |none=>true)
   |none=>false)&&mR ops A s (i::L)
 | .one i s,L=>DN A L i&&((List.range A.length).all λj=>Nat.beq j i|| !DN A L j)&&mR ops A s (i::L)
 | .two i s k t,L=>DN A L i&&DN A L k&&((List.range A.length).all λj=>Nat.beq j i||Nat.beq j k|| !DN A L j)&&mR ops A s (i::L)&&mR ops A t (k::L)
 | .three i s k t m u,L=>DN A L i&&DN A L k&&DN A L m&&((List.range A.length).all λj=>Nat.beq j i||Nat.beq j k||Nat.beq j m|| !DN A L j)&&mR ops A s (i::L)&&mR ops A t (k::L)&&mR ops A u (m::L)
def QQ(ops:List Oper):Bool:=ops.all λo=>match o.op with| .select _ _=>false|_=>true
section
variable {E:bz} {S:bR} {ops:Array Oper}
theorem kA{listed:Array Bool}(hs:listed.size=ops.size){i:Nat}:
  i∈Region.ready .any ops listed↔i<ops.size/\dc listed i=false/\∀e∈fm ops.toList i,dc listed e=true:=by
 rw[mem_ready];constructor
 ·rintro⟨h1,o,ho,h2⟩;have hlt:=(Array.getElem?_eq_some_iff.1 ho).1;refine⟨hlt,?_,λe he=>?_⟩
  ·simp only[dc,getD_eq_getD_getElem?]at h1⊢;rw[Array.getElem?_eq_getElem aa]at h1⊢;simpa using h1
  ·rw[cE (by simpa using ho)]at he;obtain⟨e',he',rfl⟩:=mem_map.1 he;obtain⟨hm,hb⟩:=mem_filter.1 he';exact h2 e' (by simpa using hm) hb
 ·rintro⟨hlt,h1,h2⟩;refine⟨?_,ops[i],Array.getElem?_eq_getElem hlt,λe he hb=>?_⟩
  ·simp only[dc,getD_eq_getD_getElem?]at h1⊢;rw[Array.getElem?_eq_getElem aa]at h1⊢;simpa using h1
  ·refine h2 _ ?_;rw[cE (o:=ops[i]) (by simp[hlt])];exact mem_map.2 ⟨e,mem_filter.2 ⟨by simpa using he,hb⟩,rfl⟩
theorem jU{A:List (List Nat)}(hA:ops.toList.map qI=A){listed:Array Bool}{L:List Nat}(hs:listed.size=ops.size)(hl:∀j,j<ops.size->dc listed j=inL L j)(hlt:∀i o,ops.toList[i]? =some o->∀e∈qI o,e<i){i:Nat}:i∈Region.ready .any ops listed↔DN A L i=true:=by
 have hlen:A.length=ops.size:=by rw[<-hA];simp
 rw[kA hs];unfold DN;simp only[and_eq_true,not_eq_true',all_eq_true,hlen];constructor
 ·rintro⟨h1,h2,h3⟩;have hget:ops.toList[i]? =some ops[i]:=by simp[h1]
  refine⟨⟨Nat.ble_eq_true_of_le h1,by rw[<-hl i h1];exact h2⟩,λe he=>?_⟩;have he':e∈qI ops[i]:=by
   rw[<-hA,List.getD_eq_getElem?_getD,getElem?_map,hget]at he;exact he
  have hei:=hlt i _ hget e he';rw[<-hl e aa];exact h3 e (by rw[cE hget];exact he')
 ·rintro⟨⟨h1,h2⟩,h3⟩;have h1:i<ops.size:=Nat.le_of_ble_eq_true h1;have hget:ops.toList[i]? =some ops[i]:=by simp[h1]
  refine⟨h1,by rw[hl i h1];exact h2,λe he=>?_⟩;rw[cE hget]at he;have hei:=hlt i _ hget e he;rw[hl e aa];refine h3 e ?_;rw[<-hA,List.getD_eq_getElem?_getD,getElem?_map,hget];exact he
theorem Pd(he:E.Ok){K:ASt->Prop}{Q:Exit->Act->World->Prop}{A:List (List Nat)}(ps:List px)(R:(Nat->Prop)->World->Value->Prop)(C:World->Prop)(hC1:∀w',C w'->Hj ps w')(hCz:∀Z w',Hj ps w'->R Z w' (.bool true)->C w')(hA:ops.toList.map qI=A)(hlt:∀i o,ops.toList[i]? =some o->∀e∈qI o,e<i)(hsel:QQ ops.toList=true)
  (hQ:∀a w,(∃st',eS E.W S st' a w/\K st')->Q .normal a w) (hP:∀c a w,¬Q (.panic c) a w):
  ∀(s:Sch) (L:List Nat) (fuel:Nat) (listed:Array Bool) (st:ASt) (a:Act) (w:World),listed.size=ops.size->(∀j,j<ops.size->dc listed j=inL L j)->mR ops.toList A s L=true->nY (dc listed) ops.size<=fuel->eS E.W S st a w->C w->
   Co E S ps R ops.toList s st K->wpAnyH E.P .any ops Q C fuel listed a w:=by
 have hlen:A.length=ops.size:=by rw[<-hA];simp
 have hse:∀(j:Nat) (o:Oper) cs b,ops[j]? =some o->o.op≠ .select cs b:=by
  intro j o cs b ho e;have:=all_eq_true.1 hsel o (by have:=Array.mem_of_getElem? ho;simpa using this);rw[e]at this;cases this
 intro s;have step:∀(i:Nat) (s:Sch) (L:List Nat) (fuel:Nat) (listed:Array Bool) (st:ASt) (a:Act) (w:World),listed.size=ops.size->(∀j,j<ops.size->dc listed j=inL L j)->DN A L i=true->nY (dc listed) ops.size<=fuel+1->
   (∀(L:List Nat) (fuel:Nat) (listed:Array Bool) (st:ASt) (a:Act) (w:World),listed.size=ops.size->(∀j,j<ops.size->dc listed j=inL L j)->mR ops.toList A s L=true->nY (dc listed) ops.size<=fuel->eS E.W S st a w->C w->Co E S ps R ops.toList s st K->wpAnyH E.P .any ops Q C fuel listed a w)->
   mR ops.toList A s (i::L)=true->i<ops.size/\dc listed i=false/\∀(st:ASt) (a:Act) (w:World),eS E.W S st a w->C w->Co E S ps R ops.toList s st K->wpAnyH E.P .any ops Q C fuel (listed.setIfInBounds i true) a w:=by
  intro i s L fuel listed st a w hs hl hr hf ih hok;have hm:=(jU hA hs hl hlt).2 hr;obtain⟨h1,h2,_⟩:=(kA hs).1 hm;refine⟨h1,h2,λst a w h hS hk=>ih (i::L) fuel _ st a w (by simpa using hs) (λj hj=>?_) hok ?_ h hS hk⟩
  ·rw[mK aa];simp only[hl j hj,inL,List.contains_cons];cases hb:Nat.beq j i with
   |true=>have:=eq_of_beq_eq_true hb;subst this;simp
   |false=>
    have:¬j=i:=Nat.ne_of_beq_eq_false hb;simp[this]
  ·rw[mK aa];have:=(vo h2 (n:=ops.size)).2 h1;omega
 have pos:∀{L:List Nat} {fuel:Nat} {listed:Array Bool} {i:Nat},listed.size=ops.size->(∀j,j<ops.size->dc listed j=inL L j)->DN A L i=true->nY (dc listed) ops.size<=fuel->∃f,fuel=f+1:=by
  intro L fuel listed i hs hl hr hf;obtain⟨h1,h2,_⟩:=(kA hs).1 ((jU hA hs hl hlt).2 hr);have:=(vo h2 (n:=ops.size)).2 h1;exact⟨fuel-1,aa⟩
 have pins:∀{st:ASt} {a:Act} {w:World} {X:Prop},eS E.W S st a w->np R ps st X->C w/\X:=by
  intro st a w X h hk;obtain⟨Z,ρ,h⟩:=h;have key:∀qs:List px,np R qs st X->(Hj qs w/\R Z w (.bool true))/\X:=by
   intro qs hk;induction qs with
   |nil=>
    obtain⟨o,ho,rfl,hk⟩:=cm (show aOb st.ob 9970 _ from hk);refine⟨⟨λp hp=>(by cases hp),?_⟩,hk⟩;have:=(show cX Z w ρ 9970 (zO R)from h.ws.obj 9970 _ ho).2.2 0 _ _ rfl rfl;cases this with
    |one _ _ hx=>
     cases(show ca Z w (.x R) (.bool true)from hx)with
     |x _ _ _ hR=>exact hR Z w (λ_ h=>h) λ_ _=>rfl
   |cons p r ih=>
    obtain⟨o,ho,rfl,hk⟩:=cm (show aOb st.ob p.id _ from hk);obtain⟨⟨h1,h1'⟩,h2⟩:=ih hk;refine⟨⟨λq hq=>?_,h1'⟩,h2⟩;rcases mem_cons.1 hq with rfl|hq
    ·obtain⟨b',hb',hlt,hq⟩:=(show cX Z w ρ q.id (.any (KK q.b q.us q.t))from h.ws.obj q.id _ ho);exact(hq w rfl).2
    ·exact h1 q hq
  obtain⟨⟨h1,h2⟩,h3⟩:=key ps hk;exact⟨hCz Z w h1 h2,h3⟩
 have run1:∀{i:Nat} {st:ASt} {a:Act} {w:World} {X:ASt->Prop} {Y:Act->World->Prop},i<ops.size->eS E.W S st a w->Cm E S ops.toList i st X->(∀st a w,eS E.W S st a w->X st->Y a w)->wpOp E.P ops Q i Y a w:=by
  intro i st a w X Y hi h hk hY;obtain⟨o,ho,hk⟩:=fz hk;have ho':ops[i]? =some o:=by simpa using ho
  unfold wpOp;rw[ho'];obtain⟨Z,ρ,h⟩:=h;simp only;rcases jg h hk with⟨hw,st',hs',hk⟩|⟨hw,st',hs',hk⟩
  ·simp only[toArray_toList]at hw;simp only[hw,if_true];refine .inl (Oper.wp_mono (λa' w' h'=>?_) (nG he hs' hk Q));obtain⟨st2,h2,hk2⟩:=h';exact hY st2 a' w' h2 hk2
  ·simp only[toArray_toList]at hw;simp only[hw,Bool.false_eq_true,if_false];have:=hs'.put o.dst (x:= .one .und) (v:=undef) (.one _ _ (show dN Z w ρ .und undef from rfl));exact hY _ _ w ⟨Z,ρ,this⟩ (eT hk)
 induction s with
 |done=>
  intro L fuel listed st a w hs hl hok hf h hS hk;refine wpAnyH_done ?_ (hQ a w ⟨st,h,hk⟩) fuel;rw[List.eq_nil_iff_forall_not_mem];intro i hi;obtain⟨h1,h2,_⟩:=(kA hs).1 hi;have:=all_eq_true.1 hok i (mem_range.2 aa);rw[hl i h1,this]at h2;cases h2
 |take i s ih=>
  intro L fuel listed st a w hs hl hok hf h hS hk;simp only[mR,and_eq_true]at hok;obtain⟨⟨hr,hm⟩,hok⟩:=hok;obtain⟨fuel,rfl⟩:=pos hs hl hr hf;obtain⟨h1,h2,next⟩:=step i s L fuel listed st a w hs hl hr hf ih hok;have hio:ops[i]? =some ops[i]:=Array.getElem?_eq_getElem h1;rw[show ops.toList[i]? =some ops[i]by simp[h1]]at hm;simp only[all_eq_true]at hm;have hap:=hm;obtain⟨o,ho,hk⟩:=fz (show pB ops.toList i _ from hk);have:o=ops[i]:=by
   rw[show ops.toList[i]? =some ops[i]by simp[h1]]at ho;injection ho with ho
   exact ho.symm
  subst this;have first:∀(v:Value),YieldsIf E.P ops C ops[i] v a->wpAnyH E.P .any ops Q C fuel (listed.setIfInBounds i true) (a.put ops[i].dst v) w->wpAnyH E.P .any ops Q C (fuel+1) listed a w:=by
   intro v hy hw;refine wpAnyH_first hio hse (λc a w hq=>(hP _ _ _ hq).elim) fuel listed a w (λj oj hj hji hun hno=>?_) ((jU hA hs hl hlt).2 hr) hy hS hw;have hjs:j<ops.size:=(Array.getElem?_eq_some_iff.1 hj).1;have hjl:ops.toList[j]? =some oj:=by simpa using hj
   have:=hap j (mem_range.2 aa);rw[hjl]at this;simp only[or_eq_true]at this;rcases this with((h3|h3)|h3)|h3
   ·exact absurd (eq_of_beq_eq_true h3) hji
   ·rw[<-hl j hjs]at h3;simp only[dc,getD_eq_getD_getElem?]at h3 hun;rw[Array.getElem?_eq_getElem aa]at h3 hun;simp only[getD_some]at h3 hun;rw[h3]at hun;cases hun
   ·exfalso;have h4:i∈qI oj:=by
     rw[<-hA,List.getD_eq_getElem?_getD,getElem?_map,hjl]at h3;simpa[inL]using h3
    obtain⟨e',he',e2⟩:=mem_map.1 h4;obtain⟨hm,hb⟩:=mem_filter.1 he';exact hno e' (by simpa using hm) hb e2
   ·simpa using h3
  obtain⟨Z,ρ,h⟩:=h;rcases jg h hk with⟨hw,st',hs',hk⟩|⟨hw,st',hs',hk⟩
  ·simp only[toArray_toList]at hw;obtain⟨x,v,hx,hrun,hk⟩:=KL he hs' hC1 ah hk;exact first v (.inl ⟨hw,hrun⟩) (next _ _ w ⟨Z,ρ,hs'.put ops[i].dst hx⟩ hS (eT hk))
  ·simp only[toArray_toList]at hw;have:=hs'.put ops[i].dst (x:= .one .und) (v:=undef) (.one _ _ (show dN Z w ρ .und undef from rfl));exact first undef (.inr ⟨hw,rfl⟩) (next _ _ w ⟨Z,ρ,this⟩ hS (eT hk))
 |one i s ih=>
  intro L fuel listed st a w hs hl hok hf h hS hk;simp only[mR,and_eq_true,all_eq_true]at hok;obtain⟨⟨hr,hm⟩,hok⟩:=hok;obtain⟨fuel,rfl⟩:=pos hs hl hr hf;obtain⟨h1,h2,next⟩:=step i s L fuel listed st a w hs hl hr hf ih hok;refine⟨λh0=>(by have:=(jU hA hs hl hlt).2 hr;rw[h0]at this;cases this),λj hj=>?_⟩;have hj':=(jU hA hs hl hlt).1 hj;have hjs:=((kA hs).1 hj).1;have hji:j=i:=by
   have:=hm j (mem_range.2 aa);simp only[or_eq_true,not_eq_true']at this;rcases this with h3|h3
   ·exact eq_of_beq_eq_true h3
   ·rw[h3]at hj';cases hj'
  subst hji;exact run1 h1 h hk λst a w h hk=>by obtain⟨h5,h6⟩:=pins h hk;exact⟨h5,next st a w h h5 h6⟩
 |two i s k t ihs iht=>
  intro L fuel listed st a w hs hl hok hf h hS hk;simp only[mR,and_eq_true,all_eq_true]at hok;obtain⟨⟨⟨⟨hr,hr2⟩,hm⟩,hok⟩,hok2⟩:=hok;obtain⟨fuel,rfl⟩:=pos hs hl hr hf;obtain⟨h1,h2,next⟩:=step i s L fuel listed st a w hs hl hr hf ihs hok;obtain⟨h3,h4,next2⟩:=step k t L fuel listed st a w hs hl hr2 hf iht hok2;refine⟨λh0=>(by have:=(jU hA hs hl hlt).2 hr;rw[h0]at this;cases this),λj hj=>?_⟩;have hj':=(jU hA hs hl hlt).1 hj;have hjs:=((kA hs).1 hj).1;have hji:j=i\/j=k:=by
   have:=hm j (mem_range.2 aa);simp only[or_eq_true,not_eq_true']at this;rcases this with(h3|h3)|h3
   ·exact .inl (eq_of_beq_eq_true h3)
   ·exact .inr (eq_of_beq_eq_true h3)
   ·rw[h3]at hj';cases hj'
  rcases hji with rfl|rfl
  ·exact run1 h1 h hk.l λst a w h hk=>by obtain⟨h5,h6⟩:=pins h hk;exact⟨h5,next st a w h h5 h6⟩
  ·exact run1 h3 h hk.r λst a w h hk=>by obtain⟨h5,h6⟩:=pins h hk;exact⟨h5,next2 st a w h h5 h6⟩
 |three i s k t m u ihs iht ihu=>
  intro L fuel listed st a w hs hl hok hf h hS hk;simp only[mR,and_eq_true,all_eq_true]at hok;obtain⟨⟨⟨⟨⟨⟨hr,hr2⟩,hr3⟩,hm⟩,hok⟩,hok2⟩,hok3⟩:=hok;obtain⟨fuel,rfl⟩:=pos hs hl hr hf;obtain⟨h1,h2,next⟩:=step i s L fuel listed st a w hs hl hr hf ihs hok;obtain⟨h3,h4,next2⟩:=step k t L fuel listed st a w hs hl hr2 hf iht hok2;obtain⟨h5,h6,next3⟩:=step m u L fuel listed st a w hs hl hr3 hf ihu hok3;refine⟨λh0=>(by have:=(jU hA hs hl hlt).2 hr;rw[h0]at this;cases this),λj hj=>?_⟩;have hj':=(jU hA hs hl hlt).1 hj;have hjs:=((kA hs).1 hj).1;have hji:j=i\/j=k\/j=m:=by
   have:=hm j (mem_range.2 aa);simp only[or_eq_true,not_eq_true']at this;rcases this with((h3|h3)|h3)|h3
   ·exact .inl (eq_of_beq_eq_true h3)
   ·exact .inr (.inl (eq_of_beq_eq_true h3))
   ·exact .inr (.inr (eq_of_beq_eq_true h3))
   ·rw[h3]at hj';cases hj'
  rcases hji with rfl|rfl|rfl
  ·exact run1 h1 h hk.l λst a w h hk=>by obtain⟨h5,h6⟩:=pins h hk;exact⟨h5,next st a w h h5 h6⟩
  ·exact run1 h3 h hk.r.l λst a w h hk=>by obtain⟨h5,h6⟩:=pins h hk;exact⟨h5,next2 st a w h h5 h6⟩
  ·exact run1 h5 h hk.r.r λst a w h hk=>by obtain⟨h5,h6⟩:=pins h hk;exact⟨h5,next3 st a w h h5 h6⟩
theorem SH(he:E.Ok){K:ASt->Prop}{Q:Exit->Act->World->Prop}{A:List (List Nat)}(ps:List px)(R:(Nat->Prop)->World->Value->Prop)(C:World->Prop)(hC1:∀w',C w'->Hj ps w')(hCz:∀Z w',Hj ps w'->R Z w' (.bool true)->C w')(hA:ops.toList.map qI=A)(hlt:∀i o,ops.toList[i]? =some o->∀e∈qI o,e<i)(hsel:QQ ops.toList=true)
  (hQ:∀a w,(∃st',eS E.W S st' a w/\K st')->Q .normal a w) (hP:∀c a w,¬Q (.panic c) a w) {Z:Nat->Prop} {ρ:Nat->Value} {w:World} (hC2:∀w',C w'->∀b,Z b->w'.heap[b]? =w.heap[b]?) (hS:C w):
  ∀(s:Sch) (L:List Nat) (fuel:Nat) (listed:Array Bool) (st:ASt) (a:Act),listed.size=ops.size->(∀j,j<ops.size->dc listed j=inL L j)->mR ops.toList A s L=true->nY (dc listed) ops.size<=fuel->Sim E.W S Z ρ st a w->
   No E S ps R ops.toList s st K->wpAnyH E.P .any ops Q C fuel listed a w:=by
 have hlen:A.length=ops.size:=by rw[<-hA];simp
 have main:=λs L fuel listed st a w=>Pd (S:=S) he ps R C hC1 hCz hA hlt hsel hQ hP s L fuel listed st a w;have hse:∀(j:Nat) (o:Oper) cs b,ops[j]? =some o->o.op≠ .select cs b:=by
  intro j o cs b ho e;have:=all_eq_true.1 hsel o (by have:=Array.mem_of_getElem? ho;simpa using this);rw[e]at this;cases this
 intro s;induction s with
 |take i s ih=>
  intro L fuel listed st a hs hl hok hf h hk;simp only[mR,and_eq_true]at hok;obtain⟨⟨hr,hm⟩,hok⟩:=hok;have hrd:=(jU hA hs hl hlt).2 hr;obtain⟨h1,h2,_⟩:=(kA hs).1 hrd;have hcu:=(vo h2 (n:=ops.size)).2 h1;obtain⟨fuel,rfl⟩:∃f,fuel=f+1:=⟨fuel-1,aa⟩;have hio:ops[i]? =some ops[i]:=Array.getElem?_eq_getElem h1;rw[show ops.toList[i]? =some ops[i]by simp[h1]]at hm;simp only[all_eq_true]at hm;obtain⟨o,ho,hk⟩:=fz (show pB ops.toList i _ from hk);have:o=ops[i]:=by
   rw[show ops.toList[i]? =some ops[i]by simp[h1]]at ho;injection ho with ho
   exact ho.symm
  subst this;have next:∀(st:ASt) (a:Act),Sim E.W S Z ρ st a w->No E S ps R ops.toList s st K->wpAnyH E.P .any ops Q C fuel (listed.setIfInBounds i true) a w:=λst a h hk=>ih (i::L) fuel _ st a (by simpa using hs) (λj hj=>by
   rw[mK aa];simp only[hl j hj,inL,List.contains_cons];cases hb:Nat.beq j i with
   |true=>have:=eq_of_beq_eq_true hb;subst this;simp
   |false=>
    have:¬j=i:=Nat.ne_of_beq_eq_false hb;simp[this]) hok (by rw[mK aa];omega) h hk
  have first:∀(v:Value),YieldsIf E.P ops C ops[i] v a->wpAnyH E.P .any ops Q C fuel (listed.setIfInBounds i true) (a.put ops[i].dst v) w->wpAnyH E.P .any ops Q C (fuel+1) listed a w:=by
   intro v hy hw;refine wpAnyH_first hio hse (λc a w hq=>(hP _ _ _ hq).elim) fuel listed a w (λj oj hj hji hun hno=>?_) hrd hy hS hw;have hjs:j<ops.size:=(Array.getElem?_eq_some_iff.1 hj).1;have hjl:ops.toList[j]? =some oj:=by simpa using hj
   have:=hm j (mem_range.2 aa);rw[hjl]at this;simp only[or_eq_true]at this;rcases this with((h3|h3)|h3)|h3
   ·exact absurd (eq_of_beq_eq_true h3) hji
   ·rw[<-hl j hjs]at h3;simp only[dc,getD_eq_getD_getElem?]at h3 hun;rw[Array.getElem?_eq_getElem aa]at h3 hun;simp only[getD_some]at h3 hun;rw[h3]at hun;cases hun
   ·exfalso;have h4:i∈qI oj:=by
     rw[<-hA,List.getD_eq_getElem?_getD,getElem?_map,hjl]at h3;simpa[inL]using h3
    obtain⟨e',he',e2⟩:=mem_map.1 h4;obtain⟨hm,hb⟩:=mem_filter.1 he';exact hno e' (by simpa using hm) hb e2
   ·simpa using h3
  rcases jg h hk with⟨hw,st',hs',hk⟩|⟨hw,st',hs',hk⟩
  ·simp only[toArray_toList]at hw;obtain⟨x,v,hx,hrun,hk⟩:=KL he hs' hC1 (λ_=>hC2) hk;exact first v (.inl ⟨hw,hrun⟩) (next _ _ (hs'.put ops[i].dst hx) (eT hk))
  ·simp only[toArray_toList]at hw;have:=hs'.put ops[i].dst (x:= .one .und) (v:=undef) (.one _ _ (show dN Z w ρ .und undef from rfl));exact first undef (.inr ⟨hw,rfl⟩) (next _ _ this (eT hk))
 |done=>exact λL fuel listed st a hs hl hok hf h hk=>main _ L fuel listed st a w hs hl hok hf ⟨Z,ρ,h⟩ hS hk
 |one i s _=>exact λL fuel listed st a hs hl hok hf h hk=>main _ L fuel listed st a w hs hl hok hf ⟨Z,ρ,h⟩ hS hk
 |two i s j t _ _=>exact λL fuel listed st a hs hl hok hf h hk=>main _ L fuel listed st a w hs hl hok hf ⟨Z,ρ,h⟩ hS hk
 |three i s j t k u _ _ _=>exact λL fuel listed st a hs hl hok hf h hk=>main _ L fuel listed st a w hs hl hok hf ⟨Z,ρ,h⟩ hS hk
def Uj(A:List (List Nat)):Bool:=(List.range A.length).all λi=>(A.getD i []).all λe=>Nat.blt e i
def TR(E:bz)(S:bR):List (Nat×Nat)->List px->ASt->(List px->ASt->Prop)->Prop
 |[],ps,st,K=>K ps st
 |(id,fid)::r,ps,st,K=>aOb st.ob id λo=>match o with
  | .cells t cs=>match cs.all (sw fid)with
   |true=>∀(b:Nat) (us:List Value),match st with
    |⟨tm,ob⟩=>fW id (.any (KK b us t)) ob λob=>v8 ⟨tm,ob⟩ fid (.frame (cs.map .one) us) λst=>TR E S r (⟨id,fid,b,us,t⟩::ps) st K
   |false=>False
  |_=>False
def Hw:List px->ASt->(ASt->Prop)->Prop
 |[],st,K=>K st
 |p::r,st,K=>match st with
  | ⟨tm, ob⟩ => aOb ob p.id fun o => And (o = .any (KK p.b p.us p.t)) (aOb ob p.fid fun o2 => match o2 with
   | .frame vs us=>And (us=p.us) (Nl vs λcs=>fW p.id (.cells p.t cs) ob λob=>Hw r ⟨tm,ob⟩ K)
   |_=>False)
theorem IX{K:List px->ASt->Prop}{Z:Nat->Prop}{a:Act}{w:World}:∀{l:List (Nat×Nat)} {ps:List px} {st:ASt} {ρ:Nat->Value},Sim E.W S Z ρ st a w->Hj ps w->TR E S l ps st K->∃ps' st' ρ',Sim E.W S Z ρ' st' a w/\Hj ps' w/\K ps' st'
 |[],ps,st,ρ,h,hS,hk=>⟨ps,st,ρ,h,hS,hk⟩
 |(id,fid)::r,ps,⟨tm,ob⟩,ρ,h,hS,hk=>by
  obtain⟨o,ho,hk⟩:=cm (show aOb ob id _ from hk);split at hk
  case h_2=>exact hk.elim
  rename_i t cs;split at hk
  case h_2=>exact hk.elim
  rename_i hno;obtain⟨b,us,hp,hg,hl,hc⟩:=(show cX Z w ρ id (.cells t cs)from h.ws.obj id _ ho);have hk:=gD (dh (hk b us));have hlt:b<w.heap.size:=(Array.getElem?_eq_some_iff.1 hg).1;have h1:=h.upd id (.cells t cs) (.any (KK b us t)) (g:=b) ho (by rw[hp];rfl) (World.grownBy.refl w _) ⟨b,by rw[hp];rfl,hlt,λw' hw=>⟨hp,by rw[hw];exact hg⟩⟩;have h2:=h1.renew fid undef (.frame (cs.map .one) us) (row:=none) (World.grownBy.refl w _) ah (λb hb=>by cases hb) ⟨by simp,by simp[hl],λi x u hx hu=>by
   rw[getElem?_map]at hx;obtain⟨c,hcx,rfl⟩:=map_eq_some_iff.1 hx;have hkc:jR fid c=c:=rG (all_eq_true.1 hno c (mem_of_getElem? hcx));have:=nO (id:=fid) (y:=undef) (hc i c u hcx hu);rw[hkc]at this;exact .one _ _ this⟩
  exact IX h2 (λp hp=>by
   rcases mem_cons.1 hp with rfl|hp
   ·exact hg
   ·exact hS p hp) hk
theorem Cr{K:ASt->Prop}{a:Act}{w:World}:∀{ps:List px} {st:ASt},eS E.W S st a w->Hw ps st K->∃st',eS E.W S st' a w/\K st'
 |[],st,h,hk=>⟨st,h,hk⟩
 |p::r,⟨tm,ob⟩,⟨Z,ρ,h⟩,hk=>by
  obtain⟨o,ho,rfl,hk⟩:=cm (show aOb ob p.id _ from hk);obtain⟨o2,ho2,hk⟩:=cm hk;cases o2 with
  |frame vs us=>?_
  |_=>exact hk.elim
  simp only at hk;obtain⟨e1,hk1⟩:=hk;subst e1;obtain⟨cs,e0,hk⟩:=y4 hk1;subst e0;obtain⟨b',hb',hlt,hq⟩:=(show cX Z w ρ p.id (.any (KK p.b p.us p.t))from h.ws.obj p.id _ ho);obtain⟨hp,hg⟩:=hq w rfl;obtain⟨_,hfl,hfr⟩:=(show cX Z w ρ p.fid (.frame (cs.map .one) p.us)from h.ws.obj p.fid _ ho2);have h1:=h.upd p.id _ (.cells p.t cs) (g:=p.b) ho (by rw[hp];rfl) (World.grownBy.refl w _) ⟨p.b,p.us,hp,hg,by simpa using hfl,λi c u h1 h2=>by
   have:=hfr i (.one c) u (by rw[getElem?_map,h1];rfl) h2;cases this with|one _ _ h=>exact h⟩
  exact Cr ⟨Z,ρ,h1⟩ (dh hk)
theorem XF(he:E.Ok){K:Exit->ASt->Prop}(id:Nat){st:ASt}(s:Sch)(l:List (Nat×Nat))(A:List (List Nat))(hA:ops.toList.map qI=A)(hlt:Uj A=true)(hsel:QQ ops.toList=true)(hok:mR ops.toList A s []=true)
  (h:∀R,v8 st 9970 (zO R) (λst=>TR E S l [] st λps st=>No E S ps R ops.toList s st λst=>Hw ps st (K .normal))):AWP E S (.region id ops true) K st:=by
 refine⟨λa w hs=>wp_mono (Q:=λe a' w'=>e= .normal/\∃st',eS E.W S st' a' w'/\K .normal st') (wp_region_any he.mixed ?_) λe a' w' h'=>?_⟩
 ·have hg:w.grownBy {w with drawn:=w.drawn+1} none:=⟨rfl,rfl,rfl,Nat.le_refl _,λb hb _=>rfl⟩;obtain⟨Z,ρ,hs⟩:=hs;let R:(Nat->Prop)->World->Value->Prop:=λ_ wx _=>∀b,Z b->wx.heap[b]? =w.heap[b]?
  have h0:=hs.grow hg (λ_ h=>h) λ_ h=> .inl h;have h1:=h0.renew 9970 undef (zO R) (row:=none) (World.grownBy.refl _ _) ah (λb hb=>by cases hb) ⟨by simp,rfl,λi x u hx hu=>by
   cases i with
   |zero=>
    simp at hx hu;subst hx hu;exact .one _ _ (show ca Z _ (.x R) (.bool true)from .x _ _ rfl λZ' w' hz hb b hZ=>hb b hZ)
   |succ i=>simp at hx⟩
  obtain⟨ps,st1,ρ1,hs1,hS,hk⟩:=IX h1 (λp hp=>(by cases hp)) (gD (h R));refine wpAny_of_held (S:=λw'=>Hj ps w'/\∀b,Z b->w'.heap[b]? =w.heap[b]?) _ _ _ _ (SH (K:=λst=>Hw ps st (K .normal)) he ps R _ (λw' h=>h.1) (λZx w' h1 h2=>⟨h1,h2⟩) hA (λi o ho e hea=>?_) hsel (λa w hz=>⟨rfl,(by obtain⟨st',h1,h2⟩:=hz;exact Cr h1 h2)⟩) (λc a w hq=>by cases hq.1) (λw' h=>h.2) ⟨hS,λb hb=>rfl⟩ s [] ops.size _ st1 a ah (λj _=>?_) hok ?_ hs1 hk)
  ·have hi:i<A.length:=by rw[<-hA,List.length_map];exact(List.getElem?_eq_some_iff.1 ho).1
   have h1:=all_eq_true.1 hlt i (mem_range.2 hi);rw[<-hA,List.getD_eq_getElem?_getD,getElem?_map,ho]at h1;have:=all_eq_true.1 h1 e hea;exact Nat.le_of_ble_eq_true this
  ·simp[dc,inL,getD_eq_getD_getElem?,Array.getElem?_replicate];split<;>rfl
  ·have:∀(lf:Nat->Bool) n,nY lf n<=n:=λlf n=>by
    induction n with
    |zero=>exact Nat.le_refl _
    |succ n ih=>simp only[nY];split<;>omega
   exact this _ _
 ·obtain⟨rfl,h'⟩:=h';exact h'
end
end
section
open Go.RowKit
theorem dz{α:Type}{us:List (List α)}{s:Nat}(h:∀u∈us,u.length=s):∀{k r:Nat} {u:List α},us[k]? =some u->r<s->us.flatten[k*s+r]? =u[r]? :=by
 induction us with
 |nil=>intro k r u hu;simp at hu
 |cons x l ih=>
  intro k r u hu hr;have hx:=h x ah;cases k with
  |zero=>
   simp at hu;subst hu;rw[List.flatten_cons,Nat.zero_mul,zero_add,getElem?_append_left aa]
  |succ k=>
   rw[List.flatten_cons,getElem?_append_right (by rw[hx,Nat.succ_mul];omega),hx,show(k+1)*s+r-s=k*s+r by rw[Nat.succ_mul];omega];exact ih (λu hu=>h u (by simp[hu])) (by simpa using hu) hr
theorem fb{α:Type}{us:List (List α)}{s:Nat}(h:∀u∈us,u.length=s):us.flatten.length=us.length*s:=by
 induction us with
 |nil=>simp
 |cons x l ih=>rw[List.flatten_cons,List.length_append,ih λu hu=>h u (by simp[hu]),h x ah,List.length_cons,Nat.succ_mul];omega
inductive cf (w:World):(Nat->Prop)->AD->Value->Prop
 |pv (P:Nat->Prop) (v:Value) (h1:v.oneCell'=true):cf w P (.pv v) v
 |emp (P:Nat->Prop) (A:Option Addr) (cap:Nat) (hm:cap<=maxLen):cf w P (.sl []) (.slice A 0 cap)
 |sl (P:Nat->Prop) (xs:List (List AD)) (e:TypeId) (s:Nat) (us:List (List Value)) (v:Value) (Q:Nat->Nat->Prop)
   (hs:0<s) (hl:us.length=xs.length) (hx:∀x∈xs,x.length=s) (hu:∀u∈us,u.length=s)
   (hown:w.ownsRow 0 e s v xs.length us.flatten)
   (hb:∀b,bZ v=some b->P b/\∀i,¬Q i b) (hQ:∀i b,Q i b->P b) (hd:∀i j b,Q i b->Q j b->i=j)
   (h:∀(i:Nat) a u,xs.flatten[i]? =some a->us.flatten[i]? =some u->cf w (Q i) a u):cf w P (.sl xs) v
section
variable {w w':World} {P P':Nat->Prop} {d:AD} {v:Value}
theorem cf.mono(hp:∀b,P b->P' b)(h:cf w P d v):cf w P' d v:=by
 cases h with
 |pv P v h1=>exact .pv _ _ h1
 |emp P A cap hm=>exact .emp _ A cap hm
 |sl P xs e s us v Q hs hl hx hu hown hb hQ hd h=>exact .sl _ xs e s us _ Q hs hl hx hu hown (λb e=>⟨hp b (hb b e).1,(hb b e).2⟩) (λi b q=>hp b (hQ i b q)) hd h
theorem cf.keep(h:cf w P d v)(hk:∀b,P b->w'.heap[b]? =w.heap[b]?):cf w' P d v:=by
 induction h with
 |pv P v h1=>exact .pv _ v h1
 |emp P A cap hm=>exact .emp _ A cap hm
 |sl P xs e s us v Q hs hl hx hu hown hb hQ hd h ih=>
  refine .sl _ xs e s us v Q hs hl hx hu ⟨hown.1,?_⟩ hb hQ hd λi a u ha hu=>ih i a u ha hu λb q=>hk b (hQ i b q);rcases hown.2 with h0|⟨g,cap,cur,hv,hbg,hg,r⟩
  ·exact .inl h0
  ·exact .inr ⟨g,cap,cur,hv,hbg,(hk g (hb g (by rw[hv];rfl)).1).trans hg,r⟩
theorem cf.one(h:cf w P d v):v.oneCell'=true:=by
 cases h with
 |pv P v h1=>exact h1
 |emp P A cap hm=>rfl
 |sl P xs e s us v Q hs hl hx hu hown hb hQ hd h=>rcases hown.2 with⟨hv,_⟩|⟨g,cap,cur,hv,_⟩<;>rw[hv]<;>rfl
theorem cf.relD{Z:Nat->Prop}(h:cf w P d v)(hz:∀b,P b->Z b):ca Z w d v:=by
 induction h with
 |pv P v h1=>exact .pv v h1
 |emp P A cap hm=>exact .sl [] A cap 1 [] (zero_le _) hm rfl ah ah (.inl rfl) ah
 |sl P xs e s us v Q hs hl hx hu hown hb hQ hd h ih=>
  have key:∀(i j:Nat) x u a b,xs[i]? =some x->us[i]? =some u->x[j]? =some a->u[j]? =some b->ca Z w a b:=λi j x u a b h1 h2 h3 h4=>by
   have hj:j<s:=by rw[<-hx x (mem_of_getElem? h1)];exact(List.getElem?_eq_some_iff.1 h3).1
   exact ih (i*s+j) a b (by rw[dz hx h1 hj];exact h3) (by rw[dz hu h2 hj];exact h4) λb q=>hz b (hQ _ b q)
  rcases hown.2 with⟨hv,hn⟩|⟨g,cap,cur,hv,_,hg,h1,h2,h3,h4⟩
  ·have:xs=[]:=List.eq_nil_of_length_eq_zero hn;subst this hv;exact .sl [] none 0 0 [] (Nat.le_refl _) (zero_le _) rfl ah ah (.inl rfl) ah
  ·subst hv;exact .sl xs _ cap s us h1 h2 hl hx hu (.inr ⟨g,0,rfl,hz g (hb g rfl).1,λi u hu=>by rw[zero_add];exact mP hown rfl hu⟩) key
end
def dF(w:World)(P:Nat->Prop)(ds:List AD)(us:List Value):Prop:=
 us.length=ds.length/\∃Q:Nat->Nat->Prop,(∀i b,Q i b->P b)/\(∀i j b,Q i b->Q j b->i=j)/\∀(i:Nat) a u,ds[i]? =some a->us[i]? =some u->cf w (Q i) a u
section
variable {w w':World} {P P1 P2 P':Nat->Prop} {ds d1 d2:List AD} {us u1 u2:List Value}
theorem dF.mono(hp:∀b,P b->P' b)(h:dF w P ds us):dF w P' ds us:=by
 obtain⟨l,Q,q,e,r⟩:=h;exact⟨l,Q,λi b h=>hp b (q i b h),e,r⟩
theorem dF.keep(h:dF w P ds us)(hk:∀b,P b->w'.heap[b]? =w.heap[b]?):dF w' P ds us:=by
 obtain⟨l,Q,q,e,r⟩:=h;exact⟨l,Q,q,e,λi a u ha hu=>(r i a u ha hu).keep λb h=>hk b (q i b h)⟩
theorem dF.nil:dF w P [] []:=⟨rfl,λ_ _=>False,λ_ _ h=>h.elim,λ_ _ _ h=>h.elim,λi a u ha=>by simp at ha⟩
theorem dF.append(h1:dF w P1 d1 u1)(h2:dF w P2 d2 u2)(hd:∀b,P1 b->P2 b->False)(a1:∀b,P1 b->P b)(a2:∀b,P2 b->P b):dF w P (d1++d2) (u1++u2):=by
 obtain⟨l1,Q1,q1,e1,r1⟩:=h1;obtain⟨l2,Q2,q2,e2,r2⟩:=h2;refine⟨by simp[l1,l2],λi b=>if i<d1.length then Q1 i b else Q2 (i-d1.length) b,?_,?_,?_⟩
 ·intro i b h;split at h
  ·exact a1 b (q1 _ _ h)
  ·exact a2 b (q2 _ _ h)
 ·intro i j b h h';split at h<;>split at h'
  ·exact e1 i j b h h'
  ·exact(hd b (q1 _ _ h) (q2 _ _ h')).elim
  ·exact(hd b (q1 _ _ h') (q2 _ _ h)).elim
  ·have:=e2 _ _ b h h';omega
 ·intro i a u ha hu;by_cases hi:i<d1.length
  ·rw[getElem?_append_left hi]at ha;rw[getElem?_append_left aa]at hu;simp only[if_pos hi];exact r1 i a u ha hu
  ·rw[getElem?_append_right aa]at ha;rw[getElem?_append_right aa,l1]at hu;simp only[if_neg hi];exact r2 _ a u ha hu
theorem dF.split(h:dF w P (d1++d2) us):∃(u1 u2:List Value) (P1 P2:Nat->Prop),us=u1++u2/\(∀b,P1 b->P2 b->False)/\(∀b,P1 b->P b)/\(∀b,P2 b->P b)/\dF w P1 d1 u1/\dF w P2 d2 u2:=by
 obtain⟨l,Q,q,e,r⟩:=h;have hl:us.length=d1.length+d2.length:=by simpa using l
 refine⟨us.take d1.length,us.drop d1.length,λb=>∃i,i<d1.length/\Q i b,λb=>∃i,Q (d1.length+i) b,(List.take_append_drop _ _).symm,?_,?_,?_,⟨by simp;omega,λi b=>i<d1.length/\Q i b,?_,?_,?_⟩,⟨by simp;omega,λi b=>Q (d1.length+i) b,?_,?_,?_⟩⟩
 ·rintro b ⟨i,hi,h1⟩ ⟨j,h2⟩;have:=e _ _ _ h1 h2;omega
 ·rintro b ⟨i,_,h⟩;exact q _ _ h
 ·rintro b ⟨i,h⟩;exact q _ _ h
 ·rintro i b ⟨hi,h⟩;exact⟨i,hi,h⟩
 ·rintro i j b ⟨_,h⟩ ⟨_,h'⟩;exact e _ _ _ h h'
 ·intro i a u ha hu;have hi:i<d1.length:=(List.getElem?_eq_some_iff.1 ha).1;refine(r i a u (by rw[getElem?_append_left hi];exact ha) ?_).mono λb h=>⟨hi,h⟩;rw[getElem?_take,if_pos hi]at hu;exact hu
 ·intro i b h;exact⟨i,h⟩
 ·intro i j b h h';have:=e _ _ _ h h';omega
 ·intro i a u ha hu;refine r _ a u (by rw[getElem?_append_right aa];simpa using ha) ?_;rw[getElem?_drop]at hu;exact hu
theorem dF.one{d:AD}{v:Value}(h:cf w P d v):dF w P [d] [v]:=by
 refine⟨rfl,λi b=>i=0/\P b,λi b h=>h.2,λi j b h h'=>by omega,λi a u ha hu=>?_⟩;cases i with
 |zero=>simp at ha hu;subst ha hu;exact h.mono λb hb=>⟨rfl,hb⟩
 |succ i=>simp at ha
theorem dF.get{i:Nat}{a:AD}{u:Value}(h:dF w P ds us)(ha:ds[i]? =some a)(hu:us[i]? =some u):cf w P a u:=by
 obtain⟨l,Q,q,e,r⟩:=h;exact(r i a u ha hu).mono λb h=>q i b h
theorem dF.relD{Z:Nat->Prop}(h:dF w P ds us)(hz:∀b,P b->Z b):us.length=ds.length/\∀(i:Nat) a u,ds[i]? =some a->us[i]? =some u->ca Z w a u:=⟨h.1,λi a u ha hu=>(h.get ha hu).relD hz⟩
end
def Fam(lo hi:Nat)(cs ds:List AD):Prop:=
 cs.length=ds.length/\∀(Z:Nat->Prop) (w:World) (us:List Value),us.length=cs.length->(∀(i:Nat) c u,cs[i]? =some c->us[i]? =some u->ca Z w c u)->dF w (λb=>lo<=b/\b<hi/\Z b) ds us
def AD.isBl:AD->Bool
 | .pv _=>true
 | .sl []=>true
 |_=>false
theorem Iu{Z P:Nat->Prop}{w:World}{d:AD}{u:Value}(hb:d.isBl=true)(h:ca Z w d u):cf w P d u:=by
 cases h with
 |pv _ h1=>exact .pv _ _ h1
 |sl xs A cap s us hc hm hl hx hu hr h=>
  cases xs with
  |nil=>exact .emp _ _ _ hm
  |cons x r=>cases hb
 |x R _ h1 h=>cases hb
theorem XD{lo hi:Nat}{ds:List AD}(h:ds.all AD.isBl=true):Fam lo hi ds ds:=by
 refine⟨rfl,λZ w us hl hr=>⟨hl,λ_ _=>False,λ_ _ h=>h.elim,λ_ _ _ h=>h.elim,λi a u ha hu=>?_⟩⟩;exact Iu (all_eq_true.1 h a (mem_of_getElem? ha)) (hr i a u ha hu)
theorem Fam.mono{lo hi lo' hi':Nat}{cs ds:List AD}(h:Fam lo hi cs ds)(h1:lo'<=lo)(h2:hi<=hi'):Fam lo' hi' cs ds:=
 ⟨h.1,λZ w us hl hr=>(h.2 Z w us hl hr).mono λb hb=>⟨aa,aa,hb.2.2⟩⟩
theorem Fam.app{lo m l2 h2:Nat}{c1 d1 c2 d2:List AD}(h:Fam lo m c1 d1)(h':Fam l2 h2 c2 d2)(e1:m<=l2)(e2:lo<=m)(e3:m<=h2):Fam lo h2 (c1++c2) (d1++d2):=by
 refine⟨by simp[h.1,h'.1],λZ w us hl hr=>?_⟩;have hlen:us.length=c1.length+c2.length:=by simpa using hl
 have t1:=h.2 Z w (us.take c1.length) al λi c u hc hu=>by
  have hi:i<c1.length:=(List.getElem?_eq_some_iff.1 hc).1;rw[getElem?_take,if_pos hi]at hu;exact hr i c u (by rw[getElem?_append_left hi];exact hc) hu
 have t2:=h'.2 Z w (us.drop c1.length) al λi c u hc hu=>by
  rw[getElem?_drop]at hu;exact hr _ c u (by rw[getElem?_append_right aa];simpa using hc) hu
 have:=t1.append (P:=λb=>lo<=b/\b<h2/\Z b) t2 (λb p q=>by omega) (λb p=>⟨p.1,aa,p.2.2⟩) λb p=>⟨aa,p.2.1,p.2.2⟩;rwa[List.take_append_drop]at this
theorem Fam.flat_set{lo m l2 h2:Nat}{cs ds:List (List AD)}{c d:List AD}(h:Fam lo m cs.flatten ds.flatten)(h':Fam l2 h2 c d)(e1:m<=l2)(e2:lo<=m)(e3:m<=h2):Fam lo h2 (cs++[c]).flatten (ds++[d]).flatten:=by
 rw[List.flatten_append,List.flatten_append];simpa using h.app h' e1 e2 e3
def EB(lo hi:Nat)(w:World):AP1->Value->Prop
 | .one d,v=>dF w (λb=>lo<=b/\b<hi) [d] [v]
 | .agg ds,v=>∃us:List Value,v= .agg us.toArray/\dF w (λb=>lo<=b/\b<hi) ds us
structure cg (E:bz) (f:FuncId) (args:List AP1) (res:AP1):Prop where
 enter:∀(us:Array Value) w,(callFunc f us).run E.P w= .ok (.enter f us) w
 run:∀(Z:Nat->Prop) (w:World) (us:List Value),(∀b,Z b->b<w.heap.size)->GZ E.W Z w->us.length=args.length->(∀(i:Nat) p u,args[i]? =some p->us[i]? =some u->fw Z w p u)->
  Calls E.P f us.toArray w λe w'=>∃v,e= .returned v/\Below w.heap.size w w'/\EB w.heap.size w'.heap.size w' res v
theorem EB.relP{lo hi:Nat}{w:World}{p:AP1}{v:Value}{Z:Nat->Prop}(h:EB lo hi w p v)(hz:∀b,lo<=b->b<hi->Z b):fw Z w p v:=by
 cases p with
 |one d=>exact(dF.relD h λb hb=>hz b hb.1 hb.2).2 0 d v rfl rfl
 |agg ds=>
  obtain⟨us,rfl,h⟩:=h;have:=dF.relD h λb hb=>hz b hb.1 hb.2;exact⟨us,rfl,this.1,this.2⟩
theorem cg.pcall{E:bz}{f:FuncId}{args:List AP1}{res:AP1}(h:cg E f args res):aL E f args (.val res):=by
 refine⟨h.enter,λZ w us hz hg hl hr=>(h.run Z w us hz hg hl hr).mono ?_⟩;rintro e w' ⟨v,rfl,hb,hv⟩;exact⟨v,λb=>Z b\/(w.heap.size<=b/\b<w'.heap.size),rfl,hb,λb hb=> .inl hb,λb hb=>hb,hv.relP λb h1 h2=> .inr ⟨h1,h2⟩⟩
def Rm(n m:Nat):(Nat->Prop)->World->Value->Prop:=λZ _ _=>m<=n\/∃k,m=k+1/\Z k
def cS(n m:Nat):AO:= .frame [.one (.d (.x (Rm n m)))] [.bool true]
theorem me{Z:Nat->Prop}{w:World}{ρ:Nat->Value}{id n m:Nat}(hρ:ρ id=undef)(h:m<=n\/∃k,m=k+1/\Z k):cX Z w ρ id (cS n m):=by
 refine⟨hρ,rfl,λi x u hx hu=>?_⟩;cases i with
 |zero=>
  simp at hx hu;subst hx hu;refine .one _ _ (show ca Z w (.x (Rm n m)) (.bool true)from .x _ _ rfl λZ' w' hz hb=>?_);rcases h with h|⟨k,e,h⟩
  ·exact .inl h
  ·exact .inr ⟨k,e,hz k h⟩
 |succ i=>simp at hx
theorem yx{Z:Nat->Prop}{w:World}{ρ:Nat->Value}{id n m:Nat}(h:cX Z w ρ id (cS n m)):m<=n\/∃k,m=k+1/\Z k:=by
 have:=h.2.2 0 _ _ rfl rfl;cases this with
 |one _ _ h=>
  have h:ca Z w (.x (Rm n m)) (.bool true):=h;cases h with
  |x R v h1 h=>exact h Z w (λ_ h=>h) λ_ _=>rfl
theorem WS.reframe{T:World->Prop}{S:bR}{Z:Nat->Prop}{w:World}{ρ:Nat->Value}{ob:List (Nat×AO)}(h:WS T S Z w ρ ob){id:Nat}{vs:List AV}{us:List Value}(hrel:cX Z w ρ id (.frame vs us)):WS T S Z w ρ (eD ob id (.frame vs us)):=by
 have nob:bZ (ρ id)=none:=by rw[hrel.1];rfl
 refine⟨h.os,h.tape,h.output,h.size,h.old,h.zlt,λj o b ho hb=>?_,λi j oi oj b hi hj hij hbi hbj=>?_,λj o ho=>?_,⟨λj P Q ho=>?_,λi j P Q P' Q' hi hj=>?_⟩,h.g,h.z0,h.znew⟩
 ·rw[ci]at ho;split at ho
  ·rename_i e;subst e;rw[nob]at hb;cases hb
  ·exact h.mine j o b ho hb
 ·rw[ci]at hi hj;split at hi
  ·rename_i e;subst e;rw[nob]at hbi;cases hbi
  ·split at hj
   ·rename_i e;subst e;rw[nob]at hbj;cases hbj
   ·exact h.sep i j oi oj b hi hj hij hbi hbj
 ·rw[ci]at ho;split at ho
  ·rename_i e;subst e;injection ho with ho;subst ho;exact hrel.up
  ·exact h.obj j o ho
 ·rw[ci]at ho;split at ho
  ·cases ho
  ·obtain⟨h1,h2⟩:=h.many.ok j P Q ho;refine⟨λb hb=>⟨(h1 b hb).1,(h1 b hb).2.1,(h1 b hb).2.2.1,λi o hi hbi=>?_⟩,h2⟩;rw[ci]at hi;split at hi
   ·rename_i e;subst e;rw[nob]at hbi;cases hbi
   ·exact(h1 b hb).2.2.2 i o hi hbi
 ·rw[ci]at hi hj;split at hi
  ·cases hi
  ·split at hj
   ·cases hj
   ·exact h.many.sep i j P Q P' Q' hi hj
def cW(R:Nat->(Nat->Prop)->World->Value->Prop):Nat->List AD->List AD
 |_,[]=>[]
 |i,.pv v::r=> .pv v::cW R (i+1) r
 |i,_::r=> .x (R i)::cW R (i+1) r
def KB(R:Nat->(Nat->Prop)->World->Value->Prop):AP1->AV
 | .one (.pv v)=> .one (.d (.pv v))
 | .one _=> .one (.d (.x (R 0)))
 | .agg ds=> .agg ((cW R 0 ds).map .d)
def fe:AP1->List AD
 | .one d=>[d]
 | .agg ds=>ds
theorem eg(R:Nat->(Nat->Prop)->World->Value->Prop):∀(ds:List AD) (i:Nat),(cW R i ds).length=ds.length
 |[],_=>rfl
 | .pv _::r,i=>by simp[cW,eg R r]
 | .sl _::r,i=>by simp[cW,eg R r]
 | .x _::r,i=>by simp[cW,eg R r]
theorem lc(R:Nat->(Nat->Prop)->World->Value->Prop):∀{ds:List AD} {k i:Nat} {c:AD},(cW R k ds)[i]? =some c->∃d,ds[i]? =some d/\((∃v,d= .pv v/\c= .pv v)\/c= .x (R (k+i)))
 |[],_,_,_,h=>by simp[cW]at h
 |d::r,k,0,c,h=>by
  refine⟨d,rfl,?_⟩;cases d with
  |pv v=>simp[cW]at h;exact .inl ⟨v,rfl,h.symm⟩
  |sl xs=>simp[cW]at h;exact .inr h.symm
  |x R'=>simp[cW]at h;exact .inr h.symm
 |d::r,k,i+1,c,h=>by
  have h':(cW R (k+1) r)[i]? =some c:=by cases d<;>simpa[cW]using h
  obtain⟨d',h1,h2⟩:=lc R h';refine⟨d',by simpa using h1,?_⟩;rcases h2 with h2|h2
  ·exact .inl h2
  ·exact .inr (by rw[h2];congr 2;omega)
section
variable {E:bz} {S:bR}
theorem XC{f:FuncId}{args:List AV}{tm:List AV}{ob:List (Nat×AO)}{K:AV->ASt->Prop}{ps:List AP1}{res:AP1}{m:Nat}(hc:cg E f ps res)(hps:aRs ob args (· =ps))(hm:aOb ob 9997 λo=>o=cS S.w0.heap.size m)
  (hk:∀R lo hi,m<=lo->lo<=hi->Fam lo hi (cW R 0 (fe res)) (fe res)->fW 9997 (cS S.w0.heap.size hi) ob λob=>K (KB R res) ⟨tm,ob⟩):aG E S f args ⟨tm,ob⟩ K:=by
 refine⟨hc.enter,λZ ρ a w us hs hl hr=>?_⟩;obtain⟨ps',h1,h2,rfl⟩:=gE hs.ws hl hr hps;obtain⟨o,ho,rfl⟩:=cm hm;have hmark:=yx (hs.ws.obj 9997 _ ho);have hρ:ρ 9997=undef:=(hs.ws.obj 9997 _ ho).1;have hmle:m<=w.heap.size:=by
  rcases hmark with h|⟨k,e,h⟩
  ·exact Nat.le_trans h hs.ws.size
  ·have:=hs.ws.zlt k h;omega
 refine(hc.run (gU Z ρ ob) w us (gU.lt hs.ws) ?_ h1 h2).mono ?_
 ·obtain⟨w1,g1,g2,g3⟩:=hs.ws.g;exact⟨w1,g1,g2,λb hb=> .inl (g3 b hb)⟩
 ·rintro e w' ⟨v,rfl,hb,hv⟩;have hsz:=hb.size;obtain⟨us',hf,hvu⟩:∃us',dF w' (λb=>w.heap.size<=b/\b<w'.heap.size) (fe res) us'/\(match res with| .one _=>us'=[v]| .agg _=>v= .agg us'.toArray):=by
   cases res with
   |one d=>exact⟨[v],hv,rfl⟩
   |agg ds=>obtain⟨us',e,h⟩:=hv;exact⟨us',h,e⟩
  obtain⟨lF,Q,q,eQ,rQ⟩:=hf;let R:Nat->(Nat->Prop)->World->Value->Prop:=λi Zx wx u=>(∀b,Q i b->Zx b)/\∃a,(fe res)[i]? =some a/\cf wx (Q i) a u
  let Z':Nat->Prop:=λb=>Z b\/(w.heap.size<=b/\b<w'.heap.size)
  have hg:=hs.grow (Z':=Z') (dO hb) (λb h=> .inl h) λb h=>h;have hcell:∀(i:Nat) c u,(cW R 0 (fe res))[i]? =some c->us'[i]? =some u->ca Z' w' c u:=by
   intro i c u hc hu;obtain⟨d,hd,h⟩:=lc R hc;have ht:=rQ i d u hd hu;rcases h with⟨x,rfl,rfl⟩|h
   ·cases ht with|pv _ _ h1=>exact .pv _ h1
   ·rw[zero_add]at h;subst h;refine .x _ _ ht.one λZx wx hzx hbx=>⟨λb hb=>hzx b (.inr (q i b hb)),d,hd,ht.keep λb hb=>hbx b (.inr (q i b hb))⟩
  have hfam:∀lo hi:Nat,(∀b,w.heap.size<=b->b<w'.heap.size->lo<=b/\b<hi)->Fam lo hi (cW R 0 (fe res)) (fe res):=by
   intro lo hi hlh;refine⟨eg R _ _,λZx wx ux hl hr=>⟨by rw[hl,eg],λi b=>Q i b/\Zx b,λi b h=>?_,λi j b h h'=>eQ i j b h.1 h'.1,λi a u ha hu=>?_⟩⟩
   ·have:=hlh b (q i b h.1).1 (q i b h.1).2;exact⟨this.1,this.2,h.2⟩
   ·have hi:i<(cW R 0 (fe res)).length:=by rw[eg];exact(List.getElem?_eq_some_iff.1 ha).1
    obtain⟨d,hd,h⟩:=lc R (getElem?_eq_getElem hi);have hrel:=hr i _ u (getElem?_eq_getElem hi) hu;rw[ha]at hd;injection hd with hd
    subst hd;rcases h with⟨x,e1,e2⟩|h
    ·rw[e2]at hrel;rw[e1];cases hrel with|pv _ h1=>exact .pv _ _ h1
    ·rw[h,zero_add]at hrel;cases hrel with
     |x _ _ h1 hR=>
      obtain⟨hz,a',ha',ht⟩:=hR Zx wx (λ_ h=>h) λ_ _=>rfl;rw[ha]at ha';injection ha' with ha'
      subst ha';exact ht.mono λb hb=>⟨hb,hz b hb⟩
  have hval:cn Z' w' ρ (KB R res) v:=by
   cases res with
   |one d=>
    simp only at hvu;subst hvu;cases d with
    |pv x=>exact .one _ _ (hcell 0 (.pv x) v rfl rfl)
    |sl xs=>exact .one _ _ (hcell 0 (.x (R 0)) v rfl rfl)
    |x R'=>exact .one _ _ (hcell 0 (.x (R 0)) v rfl rfl)
   |agg ds=>
    simp only at hvu;subst hvu;refine .agg _ us' (by rw[List.length_map,eg];exact lF) λi c u hc hu=>?_;rw[getElem?_map]at hc;obtain⟨d,hd,rfl⟩:=map_eq_some_iff.1 hc;exact hcell i d u hd hu
  have fin:∀hi:Nat,(hi<=S.w0.heap.size\/∃k,hi=k+1/\Z' k)->Sim E.W S Z' ρ ⟨tm,eD ob 9997 (cS S.w0.heap.size hi)⟩ a w':=λhi h=>
   ⟨hg.ws.reframe (me hρ h),hg.len,hg.tm,hg.df⟩
  by_cases hlt:w.heap.size<w'.heap.size
  ·refine⟨v,_,_,Z',ρ,rfl,fin w'.heap.size (.inr ⟨w'.heap.size-1,aa,.inr aa⟩),hval,dh (K:=λob=>K (KB R res) ⟨tm,ob⟩) (hk R w.heap.size w'.heap.size hmle hsz (hfam _ _ λb h1 h2=>⟨h1,h2⟩))⟩
  ·refine⟨v,_,_,Z',ρ,rfl,fin m ?_,hval,dh (K:=λob=>K (KB R res) ⟨tm,ob⟩) (hk R m m (Nat.le_refl _) (Nat.le_refl _) (hfam _ _ λb h1 h2=>by omega))⟩;rcases hmark with h|⟨k,e,h⟩
   ·exact .inl h
   ·exact .inr ⟨k,e,.inl h⟩
def Nm(ob:List (Nat×AO))(n:Nat)(x:AV)(res:AP1):Prop:=
 match x with
 | .one .nil=>res= .one (.sl [])
 | .one (.own id)=>aOb ob id λo=>match o with
  | .row _ s xs=>∃(lo hi:Nat) (ys:List (List AD)),n<=lo/\Fam lo hi xs.flatten ys.flatten/\ys.length=xs.length/\(∀y∈ys,y.length=s)/\res= .one (.sl ys)
  |_=>False
 | .one (.d c)=>∃(lo hi:Nat) (d:AD),n<=lo/\Fam lo hi [c] [d]/\res= .one d
 | .agg cs=>I6 cs λcs'=>∃(lo hi:Nat) (ds:List AD),n<=lo/\Fam lo hi cs' ds/\res= .agg ds
 |_=>False
def I0(E:bz)(st:ASt)(n:Nat)(rs:List ResultVar)(res:AP1):Prop:=
 match rs with
 |[.tmp t]=>aTm st.tm t λv=>Nm st.ob n v res
 |[.cell t ty]=>aTm st.tm t λx=>tI E st ty x λv=>Nm st.ob n v res
 |_=>False
def V0(E:bz)(rs:List ResultVar)(n:Nat)(res:AP1):Exit->ASt->Prop
 | .ret,st=>I0 E st n rs res
 | .normal,st=>I0 E st n rs res
 |_,_=>False
theorem Fp{st:ASt}{Z:Nat->Prop}{ρ:Nat->Value}{w:World}(h:WS E.W S Z w ρ st.ob)(hO:∀b,¬S.O b){x:AV}{v:Value}{res:AP1}(hv:cn Z w ρ x v)(hk:Nm st.ob S.w0.heap.size x res):EB S.w0.heap.size w.heap.size w res v:=by
 have up:∀{lo hi:Nat} {ds us},S.w0.heap.size<=lo->dF w (λb=>lo<=b/\b<hi/\Z b) ds us->dF w (λb=>S.w0.heap.size<=b/\b<w.heap.size) ds us:=λhn hf=>hf.mono λb hb=>⟨aa,h.zlt b hb.2.2⟩;unfold Nm at hk;split at hk
 ·subst hk;cases hv with
  |one _ _ hv=>
   have hv:v= .slice none 0 0:=hv;subst hv;exact .one (.emp _ _ _ (zero_le _))
 ·rename_i id;obtain⟨o,ho,hk⟩:=cm hk;split at hk
  ·rename_i e s xs;obtain⟨lo,hi,ys,hn,hf,hyl,hys,rfl⟩:=hk;obtain⟨us,h0,hl,hxs,hus,hown,hd⟩:=h.obj id _ ho;cases hv with
   |one _ _ hv=>
    have hv:v=ρ id:=hv.1;subst hv;have hlx:xs.flatten.length=xs.length*s:=fb hxs;obtain⟨lF,Q,q,eQ,rQ⟩:=hf.2 Z w us.flatten (by rw[fb hus,hlx,hl]) λi c u hc hu=>by
     have hi:i<xs.length*s:=by rw[<-hlx];exact(List.getElem?_eq_some_iff.1 hc).1
     have hs:0<s:=h0;have hdm:i=i/s*s+i % s:=(Nat.div_add_mod' i s).symm;have hr:i % s<s:=Nat.mod_lt _ hs;have hk:i/s<xs.length:=Nat.div_lt_of_lt_mul (by rw[Nat.mul_comm];exact hi);rw[hdm,dz hxs (getElem?_eq_getElem hk) hr]at hc;rw[hdm,dz hus (getElem?_eq_getElem aa) hr]at hu;exact hd _ _ _ _ c u (getElem?_eq_getElem hk) (getElem?_eq_getElem aa) hc hu
    refine .one (.sl _ ys e s us _ Q h0 (by rw[hl,hyl]) hys hus (by rw[hyl];exact hown) (λb hb=>?_) (λi b hb=>⟨by have:=(q i b hb).1;omega,h.zlt b (q i b hb).2.2⟩) eQ rQ);have hm:=h.mine id _ b ho hb;exact⟨⟨hm.2.resolve_right (hO b),h.lt ho hb⟩,λi hq=>hm.1 (q i b hq).2.2⟩
  ·exact hk.elim
 ·obtain⟨lo,hi,d,hn,hf,rfl⟩:=hk;cases hv with
  |one _ _ hv=>
   refine up hn (hf.2 Z w [v] rfl λi c' u hc hu=>?_);cases i with
   |zero=>simp at hc hu;subst hc hu;exact hv
   |succ i=>simp at hc
 ·rename_i cs;obtain⟨cs',hk,hl',hr'⟩:=nV hk;obtain⟨lo,hi,ds,hn,hf,rfl⟩:=hk;cases hv with
  |agg _ us hl hr=>
   refine⟨us,rfl,up hn (hf.2 Z w us (by rw[hl,hl']) λi c u hc hu=>?_)⟩;have hi:i<cs.length:=by rw[<-hl'];exact(List.getElem?_eq_some_iff.1 hc).1
   exact hr' i c cs[i] u hc (getElem?_eq_getElem hi) (hr i _ u (getElem?_eq_getElem hi) hu)
 ·exact hk.elim
theorem Ol{st:ASt}(he:E.Ok){Z:Nat->Prop}{ρ:Nat->Value}{a:Act}{w:World}(h:Sim E.W S Z ρ st a w)(hO:∀b,¬S.O b){fn:Func}{res:AP1}(hk:I0 E st S.w0.heap.size fn.results.toList res):
  ∃v,(results fn a.tmps).run E.P w= .ok v w/\EB S.w0.heap.size w.heap.size w res v:=by
 have hres:∀vs:List Value,(fn.results.toList.mapM (eL a.tmps)).run E.P w= .ok vs w->(results fn a.tmps).run E.P w= .ok (if h:vs.toArray.size=1 then vs.toArray[0]else .tuple vs.toArray) w:=by
  intro vs hvs;have e:results fn a.tmps=(do let vs<-fn.results.mapM (eL a.tmps);pure (if h:vs.size=1 then vs[0]else .tuple vs)):=rfl;rw[e,Sem.run_bind,Array.mapM_eq_mapM_toList,Sem.run_map,hvs];rfl
 unfold I0 at hk;split at hk
 ·rename_i t hr;obtain⟨x,hx,hk⟩:=iX hk;have hlt:t<a.tmps.size:=by rw[h.len];exact(List.getElem?_eq_some_iff.1 hx).1
  have hp:=Fp h.ws hO (h.tm t x _ hx (Array.getElem?_eq_getElem hlt)) hk;have h1:(eL a.tmps (.tmp t)).run E.P w= .ok a.tmps[t] w:=by simp[eL,hlt]
  have:=hres [a.tmps[t]] (by rw[hr,mapM_cons,Sem.run_bind,h1];rfl);exact⟨a.tmps[t],this,hp⟩
 ·rename_i t ty hr;obtain⟨x,hx,hk⟩:=iX hk;have hlt:t<a.tmps.size:=by rw[h.len];exact(List.getElem?_eq_some_iff.1 hx).1
  obtain⟨b,off,v,y,e,hrl,hy,hk⟩:=qb he h (h.tm t x _ hx (Array.getElem?_eq_getElem hlt)) hk;have hp:=Fp h.ws hO hy hk;have h1:(eL a.tmps (.cell t ty)).run E.P w= .ok v w:=by simp[eL,hlt,e,asAddr,hrl]
  have:=hres [v] (by rw[hr,mapM_cons,Sem.run_bind,h1];rfl);exact⟨v,this,hp⟩
 ·exact hk.elim
theorem cu(he:E.Ok){f:FuncId}{fn:Func}{c:Code}{n:Nat}{rs:List ResultVar}{args:List AP1}{res:AP1}(hf:E.P.funcs[f]? =some fn)(hb:fn.body=some c)
  (enter:∀(us:Array Value) w,(callFunc f us).run E.P w= .ok (.enter f us) w) (hn:fn.ntmps=n) (hrs:fn.results.toList=rs)
  (h:∀S:bR,zF args n λtm=>AWP E S c (V0 E rs S.w0.heap.size res) ⟨tm,[(9997,cS S.w0.heap.size S.w0.heap.size)]⟩):cg E f args res:=by
 refine⟨enter,λZ w us hz hg hl hr=>?_⟩;subst hn hrs;obtain⟨hle,hk⟩:=nE (h ⟨w,λ_=>False,Z⟩);have hs:Sim E.W ⟨w,λ_=>False,Z⟩ Z (λ_=>undef) ⟨args.map AP1.v++List.replicate (fn.ntmps-args.length) (.one .und),[(9997,cS w.heap.size w.heap.size)]⟩ {tmps:=us.toArray++Array.replicate (fn.ntmps-us.toArray.size) undef,defers:=[]} w:=by
  have hw0:WS E.W ⟨w,λ_=>False,Z⟩ Z w (λ_=>undef) []:=⟨rfl,rfl,rfl,Nat.le_refl _,λ_ _ _=>rfl,hz,λid o b ho _=>(by cases ho),λi j oi oj b hi _ _ _ _=>(by cases hi),λid o ho=>(by cases ho),lu.nil,hg,λb hb=>hb,λb hb=> .inl hb⟩;refine⟨hw0.reframe (id:=9997) (me rfl (.inl (Nat.le_refl _))),by simp[hl],λi x v hx hv=>?_,rfl⟩;simp only at hx hv;have hv':(us++List.replicate (fn.ntmps-us.length) undef)[i]? =some v:=by
   have:=hv;rw[<-Array.getElem?_toList]at this;simpa using this
  by_cases hi:i<us.length
  ·rw[getElem?_append_left (by simpa[hl]using hi),getElem?_map]at hx;obtain⟨p,hp,rfl⟩:=map_eq_some_iff.1 hx;rw[getElem?_append_left hi]at hv';exact(hr i p v hp hv').v
  ·rw[getElem?_append_right al]at hx;rw[getElem?_append_right aa]at hv';have e1:=List.eq_of_mem_replicate (mem_of_getElem? hx);have e2:=List.eq_of_mem_replicate (mem_of_getElem? hv');subst e1 e2;exact .one _ _ (show dN Z w (λ_=>undef) .und undef from rfl)
 refine calls_of_wp hf hb (wp_mono (hk.run _ w ⟨Z,_,hs⟩) λe a' w' h'=>?_);obtain⟨st',⟨Z',ρ',hs'⟩,hk'⟩:=h';have fin:I0 E st' w.heap.size fn.results.toList res->a'.defers=[]/\∃v,(results fn a'.tmps).run E.P w'= .ok v w'/\∃v0,Ending.returned v= .returned v0/\Below w.heap.size w w'/\EB w.heap.size w'.heap.size w' res v0:=by
  intro hr;obtain⟨v,h1,h2⟩:=Ol he hs' (λb h=>h) hr;exact⟨hs'.df,v,h1,v,rfl,⟨hs'.ws.os,hs'.ws.tape,hs'.ws.output,hs'.ws.size,λb hb=>hs'.ws.old b hb (λh=>h)⟩,h2⟩
 cases e with
 |normal=>exact fin hk'
 |ret=>exact fin hk'
 |_=>exact hk'.elim
end
end
section
open Go.RowKit
theorem bls{xs:List (List AD)}(h:∀x∈xs,x.all AD.isBl=true:=by(intro y hy;obtain⟨a,_,rfl⟩:=mem_map.1 hy;rfl)):∀x∈xs,x.all AD.isBl=true:=h
structure kG (s:Nat) (xs:List (List AD)) (K:List (List AD)->List (Nat×Nat)->Prop):Prop where
 h:((∀x∈xs,x.all AD.isBl=true)/\K xs [])\/∃(lo hi:Nat) (ys:List (List AD)),Fam lo hi xs.flatten ys.flatten/\ys.length=xs.length/\(∀y∈ys,y.length=s)/\K ys [(lo,hi)]
theorem Yd{s:Nat}{xs:List (List AD)}{K:List (List AD)->List (Nat×Nat)->Prop}(hb:∀x∈xs,x.all AD.isBl=true)(hk:K xs []):kG s xs K:=⟨.inl ⟨hb,hk⟩⟩
theorem kG.fam{s:Nat}{xs ys:List (List AD)}{K:List (List AD)->List (Nat×Nat)->Prop}{lo hi:Nat}(F:Fam lo hi xs.flatten ys.flatten)(hl:ys.length=xs.length)(hs:∀y∈ys,y.length=s)(hk:K ys [(lo,hi)]):kG s xs K:=⟨.inr ⟨lo,hi,ys,F,hl,hs,hk⟩⟩
def BY(ob:List (Nat×AO)):List AC->List Nat->(List AD->List (Option (List (List AD)))->List (Nat×Nat)->Prop)->Prop
 |[],_,K=>K [] [] []
 | .own id::r,L,K=>match inL L id with
  |true=>False
  |false=>aOb ob id λo=>match o with
   | .row _ s xs=>kG s xs λys iv=>BY ob r (id::L) λcs p IV=>K cs (some ys::p) (iv++IV)
   |_=>False
 | .d x::r,L,K=>BY ob r L λcs p IV=>K (x::cs) (none::p) IV
 | .nil::r,L,K=>BY ob r L λcs p IV=>K (.sl []::cs) (none::p) IV
 |_::_,_,_=>False
def ivD(a:Nat×Nat):List (Nat×Nat)->Prop
 |[]=>True
 |b::r=>(a.2<=b.1\/b.2<=a.1)/\ivD a r
def ivs(n:Nat):List (Nat×Nat)->Prop
 |[]=>True
 |a::r=>n<=a.1/\ivD a r/\ivs n r
def BJ(Z:Nat->Prop)(IV:List (Nat×Nat))(b:Nat):Prop:=∃a∈IV,a.1<=b/\b<a.2/\Z b
theorem H4{a:Nat×Nat}{Z:Nat->Prop}{b:Nat}(h1:a.1<=b)(h2:b<a.2):∀{IV:List (Nat×Nat)},ivD a IV->¬BJ Z IV b
 |[],_,⟨x,hx,_⟩=>by cases hx
 |c::r,hd,⟨x,hx,e1,e2,hz⟩=>by
  rcases mem_cons.1 hx with rfl|hx
  ·rcases hd.1 with h|h<;>omega
  ·exact H4 h1 h2 hd.2 ⟨x,hx,e1,e2,hz⟩
def JX:List (Option (List (List AD)))->List AD->List AD
 |[],_=>[]
 |some xs::p,ds=> .sl xs::JX p ds
 |none::p,d::ds=>d::JX p ds
 |none::_,[]=>[]
section
variable {E:bz} {S:bR} {Z:Nat->Prop} {ρ:Nat->Value} {w:World} {ob:List (Nat×AO)}
theorem GG(h:WS E.W S Z w ρ ob){id s lo hi:Nat}{e:TypeId}{xs ys:List (List AD)}(ho:bo ob id=some (.row e s xs))(hf:Fam lo hi xs.flatten ys.flatten)(hyl:ys.length=xs.length)(hys:∀y∈ys,y.length=s):cf w (λb=>bZ (ρ id)=some b\/(lo<=b/\b<hi/\Z b)) (.sl ys) (ρ id):=by
 obtain⟨us,h0,hl,hxs,hus,hown,hd⟩:=h.obj id _ ho;have hlx:xs.flatten.length=xs.length*s:=fb hxs;obtain⟨lF,Q,q,eQ,rQ⟩:=hf.2 Z w us.flatten (by rw[fb hus,hlx,hl]) λi c u hc hu=>by
  have hi:i<xs.length*s:=by rw[<-hlx];exact(List.getElem?_eq_some_iff.1 hc).1
  have hs:0<s:=h0;have hdm:i=i/s*s+i % s:=(Nat.div_add_mod' i s).symm;have hr:i % s<s:=Nat.mod_lt _ hs;have hk:i/s<xs.length:=Nat.div_lt_of_lt_mul (by rw[Nat.mul_comm];exact hi);rw[hdm,dz hxs (getElem?_eq_getElem hk) hr]at hc;rw[hdm,dz hus (getElem?_eq_getElem aa) hr]at hu;exact hd _ _ _ _ c u (getElem?_eq_getElem hk) (getElem?_eq_getElem aa) hc hu
 refine .sl _ ys e s us _ Q h0 (by rw[hl,hyl]) hys hus (by rw[hyl];exact hown) (λb hb=>?_) (λi b hb=> .inr (q i b hb)) eQ rQ;exact⟨.inl hb,λi hq=>(h.mine id _ b ho hb).1 (q i b hq).2.2⟩
theorem nv{xs:List (List AD)}(h:∀x∈xs,x.all AD.isBl=true):xs.flatten.all AD.isBl=true:=by
 rw[all_eq_true];intro a ha;obtain⟨x,hx,hax⟩:=List.mem_flatten.1 ha;exact all_eq_true.1 (h x hx) a hax
def IO(ρ:Nat->Value)(ob:List (Nat×AO))(L:List Nat)(b:Nat):Prop:=∃id o,inL L id=false/\bo ob id=some o/\bZ (ρ id)=some b
theorem qa{L:List Nat}{i j:Nat}(h:inL (i::L) j=false):inL L j=false/\j≠i:=by
 simp only[inL,List.contains_cons,Bool.or_eq_false_iff,beq_eq_false_iff_ne]at h;exact⟨h.2,h.1⟩
theorem xZ(h:WS E.W S Z w ρ ob):∀{cs:List AC} {us:List Value} {L:List Nat} {K:List AD->List (Option (List (List AD)))->List (Nat×Nat)->Prop},us.length=cs.length->(∀(i:Nat) c u,cs[i]? =some c->us[i]? =some u->dN Z w ρ c u)->BY ob cs L K->
  ∃cs' pat us' IV,K cs' pat IV/\us'.length=cs'.length/\(∀(i:Nat) c u,cs'[i]? =some c->us'[i]? =some u->ca Z w c u)/\∀(n:Nat) (P:Nat->Prop) ds,ivs n IV->dF w P ds us'->(∀b,P b->Z b/\¬BJ Z IV b)->dF w (λb=>P b\/IO ρ ob L b\/BJ Z IV b) (JX pat ds) us
 |[],[],L,K,_,_,hk=>⟨[],[],[],[],hk,rfl,by simp,λn P ds _ hf _=>by
   have:ds=[]:=List.eq_nil_of_length_eq_zero (by simpa using hf.1.symm);subst this;exact dF.nil⟩
 |[],_::_,_,_,hl,_,_=>by simp at hl
 |_::_,[],_,_,hl,_,_=>by simp at hl
 |c::r,u::us,L,K,hl,hr,hk=>by
  have hl':us.length=r.length:=by simpa using hl
  have hr':∀(i:Nat) c u,r[i]? =some c->us[i]? =some u->dN Z w ρ c u:=λi x y h1 h2=>hr (i+1) x y (by simpa using h1) (by simpa using h2);have h0:dN Z w ρ c u:=hr 0 c u rfl rfl;have data:∀x:AD,ca Z w x u->(BY ob r L λcs p IV=>K (x::cs) (none::p) IV)->∃cs' pat us' IV,K cs' pat IV/\us'.length=cs'.length/\(∀(i:Nat) c u,cs'[i]? =some c->us'[i]? =some u->ca Z w c u)/\∀(n:Nat) (P:Nat->Prop) ds,ivs n IV->dF w P ds us'->(∀b,P b->Z b/\¬BJ Z IV b)->dF w (λb=>P b\/IO ρ ob L b\/BJ Z IV b) (JX pat ds) (u::us):=λx hx hk=>by
   obtain⟨cs',pat,us',IV,hK,h1,h2,h3⟩:=xZ h hl' hr' hk;refine⟨x::cs',none::pat,u::us',IV,hK,by simp[h1],λi y v e1 e2=>?_,λn P ds hiv hf hP=>?_⟩
   ·cases i with
    |zero=>simp at e1 e2;subst e1 e2;exact hx
    |succ i=>exact h2 i y v (by simpa using e1) (by simpa using e2)
   ·cases ds with
    |nil=>have:=hf.1;simp at this
    |cons d ds=>
     obtain⟨u1,u2,P1,P2,eu,dj,a1,a2,f1,f2⟩:=dF.split (d1:=[d]) (d2:=ds) hf;have hu1:u1=[u]/\u2=us':=by
      have:=f1.1;match u1,this with
      |[y],_=>injection eu with e1 e2;exact⟨by rw[e1],e2.symm⟩
     obtain⟨rfl,rfl⟩:=hu1;have:=dF.append (P:=λb=>P b\/IO ρ ob L b\/BJ Z IV b) f1 (h3 n P2 ds hiv f2 λb hb=>hP b (a2 b hb)) (λb q1 q2=>by
      rcases q2 with q2|⟨id,o,_,ho,hb⟩|q2
      ·exact dj b q1 q2
      ·exact(h.mine id o b ho hb).1 (hP b (a1 b q1)).1
      ·exact(hP b (a1 b q1)).2 q2) (λb q=> .inl (a1 b q)) (λb q=>q.imp (a2 b) id)
     simpa[JX]using this
  cases c with
  |own id=>
   simp only[BY]at hk;split at hk
   ·exact hk.elim
   ·rename_i hin;obtain⟨o,ho,hk⟩:=cm hk;split at hk
    ·rename_i e s xs;have hu:u=ρ id:=h0.1;subst hu;rcases hk.h with⟨hb,hk⟩|⟨lo,hi,ys,hF,hyl,hys,hk⟩
     ·obtain⟨cs',pat,us',IV,hK,h1,h2,h3⟩:=xZ h hl' hr' hk;refine⟨cs',some xs::pat,us',IV,hK,h1,h2,λn P ds hiv hf hP=>?_⟩;have hxs:=(h.obj id _ ho).choose_spec.2.2.1;have hrel:=GG (lo:=0) (hi:=0) h ho (XD (nv hb)) rfl hxs;have:=dF.append (P:=λb=>P b\/IO ρ ob L b\/BJ Z IV b) (dF.one hrel) (h3 n P ds hiv hf hP) (λb q1 q2=>by
       rcases q1 with q1|q1
       ·rcases q2 with q2|⟨id2,o2,hin2,ho2,hb2⟩|⟨_,_,_,_,q2⟩
        ·exact(h.mine id _ b ho q1).1 (hP b q2).1
        ·exact h.sep id2 id o2 _ b ho2 ho (qa hin2).2 hb2 q1
        ·exact(h.mine id _ b ho q1).1 q2
       ·omega) (λb q=>by
       rcases q with q|q
       ·exact .inr (.inl ⟨id,_,hin,ho,q⟩)
       ·omega) (λb q=>q.imp (λh=>h) λq=>q.imp (fun⟨id2,o2,a,b,c⟩=>⟨id2,o2,(qa a).1,b,c⟩) λh=>h)
      simpa[JX]using this
     ·obtain⟨cs',pat,us',IV,hK,h1,h2,h3⟩:=xZ h hl' hr' hk;refine⟨cs',some ys::pat,us',(lo,hi)::IV,hK,h1,h2,λn P ds hiv hf hP=>?_⟩;have inr:∀b,BJ Z IV b->BJ Z ((lo,hi)::IV) b:=λb ⟨a,ha,q⟩=>⟨a,by simp[ha],q⟩;have hrel:=GG h ho hF hyl hys;have:=dF.append (P:=λb=>P b\/IO ρ ob L b\/BJ Z ((lo,hi)::IV) b) (dF.one hrel) (h3 n P ds hiv.2.2 hf λb hb=>⟨(hP b hb).1,λq=>(hP b hb).2 (inr b q)⟩) (λb q1 q2=>by
       rcases q1 with q1|⟨q1,q1',q1z⟩
       ·rcases q2 with q2|⟨id2,o2,hin2,ho2,hb2⟩|⟨_,_,_,_,q2⟩
        ·exact(h.mine id _ b ho q1).1 (hP b q2).1
        ·exact h.sep id2 id o2 _ b ho2 ho (qa hin2).2 hb2 q1
        ·exact(h.mine id _ b ho q1).1 q2
       ·rcases q2 with q2|⟨id2,o2,hin2,ho2,hb2⟩|q2
        ·exact(hP b q2).2 ⟨(lo,hi),by simp,q1,q1',q1z⟩
        ·exact(h.mine id2 _ b ho2 hb2).1 q1z
        ·exact H4 q1 q1' hiv.2.1 q2) (λb q=>by
       rcases q with q|q
       ·exact .inr (.inl ⟨id,_,hin,ho,q⟩)
       ·exact .inr (.inr ⟨(lo,hi),by simp,q⟩)) (λb q=>q.imp (λh=>h) λq=>q.imp (fun⟨id2,o2,a,b,c⟩=>⟨id2,o2,(qa a).1,b,c⟩) (inr b))
      simpa[JX]using this
    ·exact hk.elim
  |d x=>exact data x h0 hk
  |nil=>
   have hu:u= .slice none 0 0:=h0;exact data (.sl []) (by rw[hu];exact .sl [] none 0 0 [] (Nat.le_refl _) (zero_le _) rfl ah ah (.inl rfl) ah) hk
  |_=>exact hk.elim
theorem NE{n:Nat}{Z:Nat->Prop}{b:Nat}:∀{IV:List (Nat×Nat)},ivs n IV->BJ Z IV b->n<=b/\Z b
 |[],_,⟨_,h,_⟩=>by cases h
 |a::r,hi,⟨x,hx,e1,e2,hz⟩=>by
  rcases mem_cons.1 hx with rfl|hx
  ·exact⟨Nat.le_trans hi.1 e1,hz⟩
  ·exact NE hi.2.2 ⟨x,hx,e1,e2,hz⟩
end
def Nn(ob:List (Nat×AO))(n:Nat)(x:AV)(res:AP1):Prop:=
 match x with
 | .agg cs=>BY ob cs [] λcs' pat IV=>∃(lo hi:Nat) (ds:List AD),ivs n ((lo,hi)::IV)/\Fam lo hi cs' ds/\res= .agg (JX pat ds)
 |_=>False
def I1(E:bz)(st:ASt)(n:Nat)(rs:List ResultVar)(res:AP1):Prop:=
 match rs with
 |[.tmp t]=>aTm st.tm t λv=>Nn st.ob n v res
 |[.cell t ty]=>aTm st.tm t λx=>tI E st ty x λv=>Nn st.ob n v res
 |_=>False
def V1(E:bz)(rs:List ResultVar)(n:Nat)(res:AP1):Exit->ASt->Prop
 | .ret,st=>I1 E st n rs res
 | .normal,st=>I1 E st n rs res
 |_,_=>False
section
variable {E:bz} {S:bR}
theorem Fq{st:ASt}{Z:Nat->Prop}{ρ:Nat->Value}{w:World}(h:WS E.W S Z w ρ st.ob)(hO:∀b,¬S.O b){x:AV}{v:Value}{res:AP1}(hv:cn Z w ρ x v)(hk:Nn st.ob S.w0.heap.size x res):EB S.w0.heap.size w.heap.size w res v:=by
 unfold Nn at hk;split at hk
 ·cases hv with
  |agg _ us hl hr=>
   obtain⟨cs',pat,us',IV,⟨lo,hi,ds,hiv,hf,rfl⟩,h1,h2,h3⟩:=xZ h hl hr hk;refine⟨us,rfl,(h3 _ _ ds hiv.2.2 (hf.2 Z w us' h1 h2) λb hb=>⟨hb.2.2,H4 hb.1 hb.2.1 hiv.2.1⟩).mono λb hb=>?_⟩;rcases hb with hb|⟨id,o,_,ho,hbk⟩|hb
   ·exact⟨Nat.le_trans hiv.1 hb.1,h.zlt b hb.2.2⟩
   ·exact⟨(h.mine id o b ho hbk).2.resolve_right (hO b),h.lt ho hbk⟩
   ·have:=NE hiv.2.2 hb;exact⟨this.1,h.zlt b this.2⟩
 ·exact hk.elim
theorem Om{st:ASt}(he:E.Ok){Z:Nat->Prop}{ρ:Nat->Value}{a:Act}{w:World}(h:Sim E.W S Z ρ st a w)(hO:∀b,¬S.O b){fn:Func}{res:AP1}(hk:I1 E st S.w0.heap.size fn.results.toList res):
  ∃v,(results fn a.tmps).run E.P w= .ok v w/\EB S.w0.heap.size w.heap.size w res v:=by
 have hres:∀vs:List Value,(fn.results.toList.mapM (eL a.tmps)).run E.P w= .ok vs w->(results fn a.tmps).run E.P w= .ok (if h:vs.toArray.size=1 then vs.toArray[0]else .tuple vs.toArray) w:=by
  intro vs hvs;have e:results fn a.tmps=(do let vs<-fn.results.mapM (eL a.tmps);pure (if h:vs.size=1 then vs[0]else .tuple vs)):=rfl;rw[e,Sem.run_bind,Array.mapM_eq_mapM_toList,Sem.run_map,hvs];rfl
 unfold I1 at hk;split at hk
 ·rename_i t hr;obtain⟨x,hx,hk⟩:=iX hk;have hlt:t<a.tmps.size:=by rw[h.len];exact(List.getElem?_eq_some_iff.1 hx).1
  have hp:=Fq h.ws hO (h.tm t x _ hx (Array.getElem?_eq_getElem hlt)) hk;have h1:(eL a.tmps (.tmp t)).run E.P w= .ok a.tmps[t] w:=by simp[eL,hlt]
  have:=hres [a.tmps[t]] (by rw[hr,mapM_cons,Sem.run_bind,h1];rfl);exact⟨a.tmps[t],this,hp⟩
 ·rename_i t ty hr;obtain⟨x,hx,hk⟩:=iX hk;have hlt:t<a.tmps.size:=by rw[h.len];exact(List.getElem?_eq_some_iff.1 hx).1
  obtain⟨b,off,v,y,e,hrl,hy,hk⟩:=qb he h (h.tm t x _ hx (Array.getElem?_eq_getElem hlt)) hk;have hp:=Fq h.ws hO hy hk;have h1:(eL a.tmps (.cell t ty)).run E.P w= .ok v w:=by simp[eL,hlt,e,asAddr,hrl]
  have:=hres [v] (by rw[hr,mapM_cons,Sem.run_bind,h1];rfl);exact⟨v,this,hp⟩
 ·exact hk.elim
theorem cZ(he:E.Ok){f:FuncId}{fn:Func}{c:Code}{n:Nat}{rs:List ResultVar}{args:List AP1}{res:AP1}(hf:E.P.funcs[f]? =some fn)(hb:fn.body=some c)
  (enter:∀(us:Array Value) w,(callFunc f us).run E.P w= .ok (.enter f us) w) (hn:fn.ntmps=n) (hrs:fn.results.toList=rs)
  (h:∀S:bR,zF args n λtm=>AWP E S c (V1 E rs S.w0.heap.size res) ⟨tm,[(9997,cS S.w0.heap.size S.w0.heap.size)]⟩):cg E f args res:=by
 refine⟨enter,λZ w us hz hg hl hr=>?_⟩;subst hn hrs;obtain⟨hle,hk⟩:=nE (h ⟨w,λ_=>False,Z⟩);have hs:Sim E.W ⟨w,λ_=>False,Z⟩ Z (λ_=>undef) ⟨args.map AP1.v++List.replicate (fn.ntmps-args.length) (.one .und),[(9997,cS w.heap.size w.heap.size)]⟩ {tmps:=us.toArray++Array.replicate (fn.ntmps-us.toArray.size) undef,defers:=[]} w:=by
  have hw0:WS E.W ⟨w,λ_=>False,Z⟩ Z w (λ_=>undef) []:=⟨rfl,rfl,rfl,Nat.le_refl _,λ_ _ _=>rfl,hz,λid o b ho _=>(by cases ho),λi j oi oj b hi _ _ _ _=>(by cases hi),λid o ho=>(by cases ho),lu.nil,hg,λb hb=>hb,λb hb=> .inl hb⟩;refine⟨hw0.reframe (id:=9997) (me rfl (.inl (Nat.le_refl _))),by simp[hl],λi x v hx hv=>?_,rfl⟩;simp only at hx hv;have hv':(us++List.replicate (fn.ntmps-us.length) undef)[i]? =some v:=by
   have:=hv;rw[<-Array.getElem?_toList]at this;simpa using this
  by_cases hi:i<us.length
  ·rw[getElem?_append_left (by simpa[hl]using hi),getElem?_map]at hx;obtain⟨p,hp,rfl⟩:=map_eq_some_iff.1 hx;rw[getElem?_append_left hi]at hv';exact(hr i p v hp hv').v
  ·rw[getElem?_append_right al]at hx;rw[getElem?_append_right aa]at hv';have e1:=List.eq_of_mem_replicate (mem_of_getElem? hx);have e2:=List.eq_of_mem_replicate (mem_of_getElem? hv');subst e1 e2;exact .one _ _ (show dN Z w (λ_=>undef) .und undef from rfl)
 refine calls_of_wp hf hb (wp_mono (hk.run _ w ⟨Z,_,hs⟩) λe a' w' h'=>?_);obtain⟨st',⟨Z',ρ',hs'⟩,hk'⟩:=h';have fin:I1 E st' w.heap.size fn.results.toList res->a'.defers=[]/\∃v,(results fn a'.tmps).run E.P w'= .ok v w'/\∃v0,Ending.returned v= .returned v0/\Below w.heap.size w w'/\EB w.heap.size w'.heap.size w' res v0:=by
  intro hr;obtain⟨v,h1,h2⟩:=Om he hs' (λb h=>h) hr;exact⟨hs'.df,v,h1,v,rfl,⟨hs'.ws.os,hs'.ws.tape,hs'.ws.output,hs'.ws.size,λb hb=>hs'.ws.old b hb (λh=>h)⟩,h2⟩
 cases e with
 |normal=>exact fin hk'
 |ret=>exact fin hk'
 |_=>exact hk'.elim
end
end
end
section
open Go.Proofs.Tryz
variable {st:ASt}{c x y:Code}{K:Exit->ASt->Prop}{X Y:Prop}{S:bR}
theorem aaX{α:Type}{a b:Array α}(h:a=b):a.toList=b.toList:=congrArg Array.toList h
open Go.RowKit
abbrev zzI:Value:= .int .i64 0
abbrev zzS:Value:= .slice none 0 0
def ti2:TI:=⟨1,8,false,(.int .i64),zzI⟩
theorem ty2:aS Tryz.prog 2 ti2:=⟨sizeOf2,isAgg2,by rw[underlying2];rfl,by kernel_rfl,rfl⟩
theorem ty3:aS Tryz.prog 3 ti2:=⟨sizeOf3,isAgg3,by rw[underlying3];rfl,by kernel_rfl,rfl⟩
def ti4:TI:=⟨1,1,false,.bool,(.bool false)⟩
theorem ty4:aS Tryz.prog 4 ti4:=⟨sizeOf4,isAgg4,by rw[underlying4];rfl,by kernel_rfl,rfl⟩
def ti5:TI:=⟨1,1,false,(.int .u8),(.int .u8 0)⟩
theorem ty5:aS Tryz.prog 5 ti5:=⟨sizeOf5,isAgg5,by rw[underlying5];rfl,by kernel_rfl,rfl⟩
def ti9:TI:=⟨1,16,false,.str,(.string ⟨#[]⟩)⟩
theorem ty9:aS Tryz.prog 9 ti9:=⟨sizeOf9,isAgg9,by rw[underlying9];rfl,by kernel_rfl,rfl⟩
def Ux:TI:=⟨1,8,false,(.int .u64),(.int .u64 0)⟩
theorem V5:aS Tryz.prog 12 Ux:=⟨sizeOf12,isAgg12,by rw[underlying12];rfl,by kernel_rfl,rfl⟩
def Uy:TI:=⟨2,24,true,(.st [(0,9),(1,12)]),(.agg #[(.string ⟨#[]⟩),(.int .u64 0)])⟩
theorem V6:aS Tryz.prog 13 Uy:=⟨sizeOf13,isAgg13,by rw[underlying13];rfl,by kernel_rfl,rfl⟩
def Uz:TI:=⟨1,4,false,(.int .i32),(.int .i32 0)⟩
theorem V7:aS Tryz.prog 21 Uz:=⟨sizeOf21,isAgg21,by rw[underlying21];rfl,by kernel_rfl,rfl⟩
def UA:TI:=⟨1,24,false,(.sl 62),zzS⟩
theorem V8:aS Tryz.prog 22 UA:=⟨sizeOf22,isAgg22,by rw[underlying22];rfl,by kernel_rfl,rfl⟩
def UB:TI:=⟨1,24,false,(.sl 290),zzS⟩
theorem V9:aS Tryz.prog 23 UB:=⟨sizeOf23,isAgg23,by rw[underlying23];rfl,by kernel_rfl,rfl⟩
def SS:TI:=⟨2,48,true,(.st [(0,22),(1,23)]),(.agg #[zzS,zzS])⟩
theorem Wa:aS Tryz.prog 24 SS:=⟨sizeOf24,isAgg24,by rw[underlying24];rfl,by kernel_rfl,rfl⟩
theorem Wb:aS Tryz.prog 25 SS:=⟨sizeOf25,isAgg25,by rw[underlying25];rfl,by kernel_rfl,rfl⟩
def ST:TI:=⟨4,96,true,(.st [(0,25),(2,25)]),(.agg #[zzS,zzS,zzS,zzS])⟩
theorem Wc:aS Tryz.prog 26 ST:=⟨sizeOf26,isAgg26,by rw[underlying26];rfl,by kernel_rfl,rfl⟩
theorem Wd:aS Tryz.prog 27 ST:=⟨sizeOf27,isAgg27,by rw[underlying27];rfl,by kernel_rfl,rfl⟩
def UC:TI:=⟨1,24,false,(.sl 249),zzS⟩
theorem We:aS Tryz.prog 28 UC:=⟨sizeOf28,isAgg28,by rw[underlying28];rfl,by kernel_rfl,rfl⟩
def SU:TI:=⟨4,48,true,(.st [(0,2),(1,2),(2,2),(3,28)]),(.agg #[zzI,zzI,zzI,zzS])⟩
theorem Wf:aS Tryz.prog 29 SU:=⟨sizeOf29,isAgg29,by rw[underlying29];rfl,by kernel_rfl,rfl⟩
theorem Wg:aS Tryz.prog 30 SU:=⟨sizeOf30,isAgg30,by rw[underlying30];rfl,by kernel_rfl,rfl⟩
def UD:TI:=⟨1,24,false,(.sl 317),zzS⟩
theorem Wh:aS Tryz.prog 31 UD:=⟨sizeOf31,isAgg31,by rw[underlying31];rfl,by kernel_rfl,rfl⟩
def SV:TI:=⟨3,40,true,(.st [(0,2),(1,2),(2,31)]),(.agg #[zzI,zzI,zzS])⟩
theorem Wi:aS Tryz.prog 32 SV:=⟨sizeOf32,isAgg32,by rw[underlying32];rfl,by kernel_rfl,rfl⟩
theorem Wj:aS Tryz.prog 33 SV:=⟨sizeOf33,isAgg33,by rw[underlying33];rfl,by kernel_rfl,rfl⟩
def UE:TI:=⟨1,24,false,(.sl 253),zzS⟩
theorem Wk:aS Tryz.prog 34 UE:=⟨sizeOf34,isAgg34,by rw[underlying34];rfl,by kernel_rfl,rfl⟩
def SW:TI:=⟨19,296,true,(.st [(0,27),(4,30),(8,30),(12,4),(13,33),(16,28),(17,2),(18,34)]),(.agg #[zzS,zzS,zzS,zzS,zzI,zzI,zzI,zzS,zzI,zzI,zzI,zzS,(.bool false),zzI,zzI,zzS,zzS,zzI,zzS])⟩
theorem Wl:aS Tryz.prog 35 SW:=⟨sizeOf35,isAgg35,by rw[underlying35];rfl,by kernel_rfl,rfl⟩
theorem Wm:aS Tryz.prog 36 SW:=⟨sizeOf36,isAgg36,by rw[underlying36];rfl,by kernel_rfl,rfl⟩
def UF:TI:=⟨1,24,false,(.sl 322),zzS⟩
theorem Wn:aS Tryz.prog 37 UF:=⟨sizeOf37,isAgg37,by rw[underlying37];rfl,by kernel_rfl,rfl⟩
def UG:TI:=⟨1,24,false,(.sl 326),zzS⟩
theorem Wo:aS Tryz.prog 38 UG:=⟨sizeOf38,isAgg38,by rw[underlying38];rfl,by kernel_rfl,rfl⟩
def Bn:TI:=⟨3,24,true,(.st [(0,2),(1,2),(2,2)]),(.agg #[zzI,zzI,zzI])⟩
theorem Wp:aS Tryz.prog 39 Bn:=⟨sizeOf39,isAgg39,by rw[underlying39];rfl,by kernel_rfl,rfl⟩
theorem Wq:aS Tryz.prog 40 Bn:=⟨sizeOf40,isAgg40,by rw[underlying40];rfl,by kernel_rfl,rfl⟩
def SX:TI:=⟨7,88,true,(.st [(0,2),(1,2),(2,37),(3,38),(4,40)]),(.agg #[zzI,zzI,zzS,zzS,zzI,zzI,zzI])⟩
theorem Wr:aS Tryz.prog 41 SX:=⟨sizeOf41,isAgg41,by rw[underlying41];rfl,by kernel_rfl,rfl⟩
theorem Ws:aS Tryz.prog 42 SX:=⟨sizeOf42,isAgg42,by rw[underlying42];rfl,by kernel_rfl,rfl⟩
def SY:TI:=⟨12,160,true,(.st [(0,25),(2,42),(9,2),(10,2),(11,2)]),(.agg #[zzS,zzS,zzI,zzI,zzS,zzS,zzI,zzI,zzI,zzI,zzI,zzI])⟩
theorem Wt:aS Tryz.prog 43 SY:=⟨sizeOf43,isAgg43,by rw[underlying43];rfl,by kernel_rfl,rfl⟩
theorem Wu:aS Tryz.prog 44 SY:=⟨sizeOf44,isAgg44,by rw[underlying44];rfl,by kernel_rfl,rfl⟩
def UH:TI:=⟨1,24,false,(.sl 367),zzS⟩
theorem Wv:aS Tryz.prog 45 UH:=⟨sizeOf45,isAgg45,by rw[underlying45];rfl,by kernel_rfl,rfl⟩
def SZ:TI:=⟨6,64,true,(.st [(0,2),(1,2),(2,2),(3,2),(4,2),(5,45)]),(.agg #[zzI,zzI,zzI,zzI,zzI,zzS])⟩
theorem Ww:aS Tryz.prog 46 SZ:=⟨sizeOf46,isAgg46,by rw[underlying46];rfl,by kernel_rfl,rfl⟩
theorem Wx:aS Tryz.prog 47 SZ:=⟨sizeOf47,isAgg47,by rw[underlying47];rfl,by kernel_rfl,rfl⟩
def S0:TI:=⟨6,64,true,(.st [(0,47)]),(.agg #[zzI,zzI,zzI,zzI,zzI,zzS])⟩
theorem Wy:aS Tryz.prog 48 S0:=⟨sizeOf48,isAgg48,by rw[underlying48];rfl,by kernel_rfl,rfl⟩
theorem Wz:aS Tryz.prog 49 S0:=⟨sizeOf49,isAgg49,by rw[underlying49];rfl,by kernel_rfl,rfl⟩
def Bo:TI:=⟨5,40,true,(.st [(0,2),(1,2),(2,2),(3,2),(4,2)]),(.agg #[zzI,zzI,zzI,zzI,zzI])⟩
theorem WA:aS Tryz.prog 50 Bo:=⟨sizeOf50,isAgg50,by rw[underlying50];rfl,by kernel_rfl,rfl⟩
theorem WB:aS Tryz.prog 51 Bo:=⟨sizeOf51,isAgg51,by rw[underlying51];rfl,by kernel_rfl,rfl⟩
def S1:TI:=⟨15,136,true,(.st [(0,2),(1,2),(2,49),(8,4),(9,51),(14,2)]),(.agg #[zzI,zzI,zzI,zzI,zzI,zzI,zzI,zzS,(.bool false),zzI,zzI,zzI,zzI,zzI,zzI])⟩
theorem WC:aS Tryz.prog 52 S1:=⟨sizeOf52,isAgg52,by rw[underlying52];rfl,by kernel_rfl,rfl⟩
theorem WD:aS Tryz.prog 53 S1:=⟨sizeOf53,isAgg53,by rw[underlying53];rfl,by kernel_rfl,rfl⟩
def UI:TI:=⟨1,24,false,(.sl 262),zzS⟩
theorem WE:aS Tryz.prog 54 UI:=⟨sizeOf54,isAgg54,by rw[underlying54];rfl,by kernel_rfl,rfl⟩
def UJ:TI:=⟨1,24,false,(.sl 264),zzS⟩
theorem WF:aS Tryz.prog 55 UJ:=⟨sizeOf55,isAgg55,by rw[underlying55];rfl,by kernel_rfl,rfl⟩
def S2:TI:=⟨4,64,true,(.st [(0,2),(1,54),(2,55),(3,2)]),(.agg #[zzI,zzS,zzS,zzI])⟩
theorem WG:aS Tryz.prog 56 S2:=⟨sizeOf56,isAgg56,by rw[underlying56];rfl,by kernel_rfl,rfl⟩
theorem WH:aS Tryz.prog 57 S2:=⟨sizeOf57,isAgg57,by rw[underlying57];rfl,by kernel_rfl,rfl⟩
def UK:TI:=⟨1,24,false,(.sl 216),zzS⟩
theorem WI:aS Tryz.prog 58 UK:=⟨sizeOf58,isAgg58,by rw[underlying58];rfl,by kernel_rfl,rfl⟩
def UL:TI:=⟨1,24,false,(.sl 267),zzS⟩
theorem WJ:aS Tryz.prog 59 UL:=⟨sizeOf59,isAgg59,by rw[underlying59];rfl,by kernel_rfl,rfl⟩
def S3:TI:=⟨2,48,true,(.st [(0,58),(1,59)]),(.agg #[zzS,zzS])⟩
theorem WK:aS Tryz.prog 60 S3:=⟨sizeOf60,isAgg60,by rw[underlying60];rfl,by kernel_rfl,rfl⟩
theorem WL:aS Tryz.prog 61 S3:=⟨sizeOf61,isAgg61,by rw[underlying61];rfl,by kernel_rfl,rfl⟩
def UM:TI:=⟨1,24,false,(.sl 2),zzS⟩
theorem WM:aS Tryz.prog 62 UM:=⟨sizeOf62,isAgg62,by rw[underlying62];rfl,by kernel_rfl,rfl⟩
def UN:TI:=⟨1,24,false,(.sl 4),zzS⟩
theorem WN:aS Tryz.prog 63 UN:=⟨sizeOf63,isAgg63,by rw[underlying63];rfl,by kernel_rfl,rfl⟩
def S4:TI:=⟨73,952,true,(.st [(0,36),(19,44),(31,53),(46,53),(61,57),(65,57),(69,61),(71,62),(72,63)]),(.agg #[zzS,zzS,zzS,zzS,zzI,zzI,zzI,zzS,zzI,zzI,zzI,zzS,(.bool false),zzI,zzI,zzS,zzS,zzI,zzS,zzS,zzS,zzI,zzI,zzS,zzS,zzI,zzI,zzI,zzI,zzI,zzI,zzI,zzI,zzI,zzI,zzI,zzI,zzI,zzS,(.bool false),zzI,zzI,zzI,zzI,zzI,zzI,zzI,zzI,zzI,zzI,zzI,zzI,zzI,zzS,(.bool false),zzI,zzI,zzI,zzI,zzI,zzI,zzI,zzS,zzS,zzI,zzI,zzS,zzS,zzI,zzS,zzS,zzS,zzS])⟩
theorem WO:aS Tryz.prog 64 S4:=⟨sizeOf64,isAgg64,by rw[underlying64];rfl,by kernel_rfl,rfl⟩
theorem WP:aS Tryz.prog 65 S4:=⟨sizeOf65,isAgg65,by rw[underlying65];rfl,by kernel_rfl,rfl⟩
def UO:TI:=⟨1,24,false,(.sl 301),zzS⟩
theorem WQ:aS Tryz.prog 67 UO:=⟨sizeOf67,isAgg67,by rw[underlying67];rfl,by kernel_rfl,rfl⟩
def S5:TI:=⟨2,48,true,(.st [(0,22),(1,67)]),(.agg #[zzS,zzS])⟩
theorem WR:aS Tryz.prog 68 S5:=⟨sizeOf68,isAgg68,by rw[underlying68];rfl,by kernel_rfl,rfl⟩
theorem WT:aS Tryz.prog 69 S5:=⟨sizeOf69,isAgg69,by rw[underlying69];rfl,by kernel_rfl,rfl⟩
def S6:TI:=⟨4,96,true,(.st [(0,69),(2,69)]),(.agg #[zzS,zzS,zzS,zzS])⟩
theorem WU:aS Tryz.prog 70 S6:=⟨sizeOf70,isAgg70,by rw[underlying70];rfl,by kernel_rfl,rfl⟩
theorem WV:aS Tryz.prog 71 S6:=⟨sizeOf71,isAgg71,by rw[underlying71];rfl,by kernel_rfl,rfl⟩
def UP:TI:=⟨1,24,false,(.sl 247),zzS⟩
theorem WW:aS Tryz.prog 72 UP:=⟨sizeOf72,isAgg72,by rw[underlying72];rfl,by kernel_rfl,rfl⟩
def S7:TI:=⟨4,48,true,(.st [(0,2),(1,2),(2,2),(3,72)]),(.agg #[zzI,zzI,zzI,zzS])⟩
theorem WX:aS Tryz.prog 73 S7:=⟨sizeOf73,isAgg73,by rw[underlying73];rfl,by kernel_rfl,rfl⟩
theorem WY:aS Tryz.prog 74 S7:=⟨sizeOf74,isAgg74,by rw[underlying74];rfl,by kernel_rfl,rfl⟩
def UQ:TI:=⟨1,24,false,(.sl 308),zzS⟩
theorem WZ:aS Tryz.prog 75 UQ:=⟨sizeOf75,isAgg75,by rw[underlying75];rfl,by kernel_rfl,rfl⟩
def S8:TI:=⟨3,40,true,(.st [(0,2),(1,2),(2,75)]),(.agg #[zzI,zzI,zzS])⟩
theorem W4:aS Tryz.prog 76 S8:=⟨sizeOf76,isAgg76,by rw[underlying76];rfl,by kernel_rfl,rfl⟩
theorem W5:aS Tryz.prog 77 S8:=⟨sizeOf77,isAgg77,by rw[underlying77];rfl,by kernel_rfl,rfl⟩
def UR:TI:=⟨1,24,false,(.sl 251),zzS⟩
theorem W6:aS Tryz.prog 78 UR:=⟨sizeOf78,isAgg78,by rw[underlying78];rfl,by kernel_rfl,rfl⟩
def S9:TI:=⟨19,296,true,(.st [(0,71),(4,74),(8,74),(12,4),(13,77),(16,72),(17,2),(18,78)]),(.agg #[zzS,zzS,zzS,zzS,zzI,zzI,zzI,zzS,zzI,zzI,zzI,zzS,(.bool false),zzI,zzI,zzS,zzS,zzI,zzS])⟩
theorem W7:aS Tryz.prog 79 S9:=⟨sizeOf79,isAgg79,by rw[underlying79];rfl,by kernel_rfl,rfl⟩
theorem W8:aS Tryz.prog 80 S9:=⟨sizeOf80,isAgg80,by rw[underlying80];rfl,by kernel_rfl,rfl⟩
def US:TI:=⟨1,24,false,(.sl 320),zzS⟩
theorem W9:aS Tryz.prog 81 US:=⟨sizeOf81,isAgg81,by rw[underlying81];rfl,by kernel_rfl,rfl⟩
def UT:TI:=⟨1,24,false,(.sl 324),zzS⟩
theorem Xa:aS Tryz.prog 82 UT:=⟨sizeOf82,isAgg82,by rw[underlying82];rfl,by kernel_rfl,rfl⟩
theorem Xb:aS Tryz.prog 83 Bn:=⟨sizeOf83,isAgg83,by rw[underlying83];rfl,by kernel_rfl,rfl⟩
def Ta:TI:=⟨7,88,true,(.st [(0,2),(1,2),(2,81),(3,82),(4,83)]),(.agg #[zzI,zzI,zzS,zzS,zzI,zzI,zzI])⟩
theorem Xc:aS Tryz.prog 84 Ta:=⟨sizeOf84,isAgg84,by rw[underlying84];rfl,by kernel_rfl,rfl⟩
theorem Xd:aS Tryz.prog 85 Ta:=⟨sizeOf85,isAgg85,by rw[underlying85];rfl,by kernel_rfl,rfl⟩
def Tb:TI:=⟨12,160,true,(.st [(0,69),(2,85),(9,2),(10,2),(11,2)]),(.agg #[zzS,zzS,zzI,zzI,zzS,zzS,zzI,zzI,zzI,zzI,zzI,zzI])⟩
theorem Xe:aS Tryz.prog 86 Tb:=⟨sizeOf86,isAgg86,by rw[underlying86];rfl,by kernel_rfl,rfl⟩
theorem Xf:aS Tryz.prog 87 Tb:=⟨sizeOf87,isAgg87,by rw[underlying87];rfl,by kernel_rfl,rfl⟩
def UU:TI:=⟨1,24,false,(.sl 365),zzS⟩
theorem Xg:aS Tryz.prog 88 UU:=⟨sizeOf88,isAgg88,by rw[underlying88];rfl,by kernel_rfl,rfl⟩
def Tc:TI:=⟨6,64,true,(.st [(0,2),(1,2),(2,2),(3,2),(4,2),(5,88)]),(.agg #[zzI,zzI,zzI,zzI,zzI,zzS])⟩
theorem Xh:aS Tryz.prog 89 Tc:=⟨sizeOf89,isAgg89,by rw[underlying89];rfl,by kernel_rfl,rfl⟩
theorem Xi:aS Tryz.prog 90 Tc:=⟨sizeOf90,isAgg90,by rw[underlying90];rfl,by kernel_rfl,rfl⟩
def Td:TI:=⟨6,64,true,(.st [(0,90)]),(.agg #[zzI,zzI,zzI,zzI,zzI,zzS])⟩
theorem Xj:aS Tryz.prog 91 Td:=⟨sizeOf91,isAgg91,by rw[underlying91];rfl,by kernel_rfl,rfl⟩
theorem Xk:aS Tryz.prog 92 Td:=⟨sizeOf92,isAgg92,by rw[underlying92];rfl,by kernel_rfl,rfl⟩
theorem Xl:aS Tryz.prog 93 Bo:=⟨sizeOf93,isAgg93,by rw[underlying93];rfl,by kernel_rfl,rfl⟩
def Te:TI:=⟨15,136,true,(.st [(0,2),(1,2),(2,92),(8,4),(9,93),(14,2)]),(.agg #[zzI,zzI,zzI,zzI,zzI,zzI,zzI,zzS,(.bool false),zzI,zzI,zzI,zzI,zzI,zzI])⟩
theorem Xm:aS Tryz.prog 94 Te:=⟨sizeOf94,isAgg94,by rw[underlying94];rfl,by kernel_rfl,rfl⟩
theorem Xn:aS Tryz.prog 95 Te:=⟨sizeOf95,isAgg95,by rw[underlying95];rfl,by kernel_rfl,rfl⟩
def UV:TI:=⟨1,24,false,(.sl 222),zzS⟩
theorem Xo:aS Tryz.prog 96 UV:=⟨sizeOf96,isAgg96,by rw[underlying96];rfl,by kernel_rfl,rfl⟩
def UW:TI:=⟨1,24,false,(.sl 225),zzS⟩
theorem Xp:aS Tryz.prog 97 UW:=⟨sizeOf97,isAgg97,by rw[underlying97];rfl,by kernel_rfl,rfl⟩
def Tf:TI:=⟨4,64,true,(.st [(0,2),(1,96),(2,97),(3,2)]),(.agg #[zzI,zzS,zzS,zzI])⟩
theorem Xq:aS Tryz.prog 98 Tf:=⟨sizeOf98,isAgg98,by rw[underlying98];rfl,by kernel_rfl,rfl⟩
theorem Xr:aS Tryz.prog 99 Tf:=⟨sizeOf99,isAgg99,by rw[underlying99];rfl,by kernel_rfl,rfl⟩
def TB:TI:=⟨1,24,false,(.sl 227),zzS⟩
theorem UX:aS Tryz.prog 100 TB:=⟨sizeOf100,isAgg100,by rw[underlying100];rfl,by kernel_rfl,rfl⟩
def TC:TI:=⟨1,24,false,(.sl 229),zzS⟩
theorem UY:aS Tryz.prog 101 TC:=⟨sizeOf101,isAgg101,by rw[underlying101];rfl,by kernel_rfl,rfl⟩
def NX:TI:=⟨2,48,true,(.st [(0,100),(1,101)]),(.agg #[zzS,zzS])⟩
theorem UZ:aS Tryz.prog 102 NX:=⟨sizeOf102,isAgg102,by rw[underlying102];rfl,by kernel_rfl,rfl⟩
theorem U0:aS Tryz.prog 103 NX:=⟨sizeOf103,isAgg103,by rw[underlying103];rfl,by kernel_rfl,rfl⟩
def NY:TI:=⟨73,952,true,(.st [(0,80),(19,87),(31,95),(46,95),(61,99),(65,99),(69,103),(71,62),(72,63)]),(.agg #[zzS,zzS,zzS,zzS,zzI,zzI,zzI,zzS,zzI,zzI,zzI,zzS,(.bool false),zzI,zzI,zzS,zzS,zzI,zzS,zzS,zzS,zzI,zzI,zzS,zzS,zzI,zzI,zzI,zzI,zzI,zzI,zzI,zzI,zzI,zzI,zzI,zzI,zzI,zzS,(.bool false),zzI,zzI,zzI,zzI,zzI,zzI,zzI,zzI,zzI,zzI,zzI,zzI,zzI,zzS,(.bool false),zzI,zzI,zzI,zzI,zzI,zzI,zzI,zzS,zzS,zzI,zzI,zzS,zzS,zzI,zzS,zzS,zzS,zzS])⟩
theorem U1:aS Tryz.prog 104 NY:=⟨sizeOf104,isAgg104,by rw[underlying104];rfl,by kernel_rfl,rfl⟩
theorem U2:aS Tryz.prog 105 NY:=⟨sizeOf105,isAgg105,by rw[underlying105];rfl,by kernel_rfl,rfl⟩
def TD:TI:=⟨1,8,false,.oth,.nilFunc⟩
theorem U3:aS Tryz.prog 118 TD:=⟨sizeOf118,isAgg118,by rw[underlying118];rfl,by kernel_rfl,rfl⟩
def G8:TI:=⟨3,40,true,(.st [(0,2),(1,2),(2,62)]),(.agg #[zzI,zzI,zzS])⟩
theorem U4:aS Tryz.prog 215 G8:=⟨sizeOf215,isAgg215,by rw[underlying215];rfl,by kernel_rfl,rfl⟩
theorem U5:aS Tryz.prog 216 G8:=⟨sizeOf216,isAgg216,by rw[underlying216];rfl,by kernel_rfl,rfl⟩
def NZ:TI:=⟨7,56,true,(.st [(0,2),(1,93),(6,2)]),(.agg #[zzI,zzI,zzI,zzI,zzI,zzI,zzI])⟩
theorem U6:aS Tryz.prog 221 NZ:=⟨sizeOf221,isAgg221,by rw[underlying221];rfl,by kernel_rfl,rfl⟩
theorem U7:aS Tryz.prog 222 NZ:=⟨sizeOf222,isAgg222,by rw[underlying222];rfl,by kernel_rfl,rfl⟩
def sF:TI:=⟨4,32,true,(.st [(0,2),(1,2),(2,2),(3,2)]),(.agg #[zzI,zzI,zzI,zzI])⟩
theorem U8:aS Tryz.prog 224 sF:=⟨sizeOf224,isAgg224,by rw[underlying224];rfl,by kernel_rfl,rfl⟩
theorem U9:aS Tryz.prog 225 sF:=⟨sizeOf225,isAgg225,by rw[underlying225];rfl,by kernel_rfl,rfl⟩
theorem Va:aS Tryz.prog 227 G8:=⟨sizeOf227,isAgg227,by rw[underlying227];rfl,by kernel_rfl,rfl⟩
def lI:TI:=⟨2,16,true,(.st [(0,2),(1,2)]),(.agg #[zzI,zzI])⟩
theorem Vb:aS Tryz.prog 228 lI:=⟨sizeOf228,isAgg228,by rw[underlying228];rfl,by kernel_rfl,rfl⟩
theorem Vc:aS Tryz.prog 229 lI:=⟨sizeOf229,isAgg229,by rw[underlying229];rfl,by kernel_rfl,rfl⟩
def N0:TI:=⟨8,96,true,(.st [(0,2),(1,85)]),(.agg #[zzI,zzI,zzI,zzS,zzS,zzI,zzI,zzI])⟩
theorem Vd:aS Tryz.prog 240 N0:=⟨sizeOf240,isAgg240,by rw[underlying240];rfl,by kernel_rfl,rfl⟩
theorem Ve:aS Tryz.prog 241 N0:=⟨sizeOf241,isAgg241,by rw[underlying241];rfl,by kernel_rfl,rfl⟩
theorem Vf:aS Tryz.prog 246 Bn:=⟨sizeOf246,isAgg246,by rw[underlying246];rfl,by kernel_rfl,rfl⟩
theorem Vg:aS Tryz.prog 247 Bn:=⟨sizeOf247,isAgg247,by rw[underlying247];rfl,by kernel_rfl,rfl⟩
theorem Vh:aS Tryz.prog 249 Bn:=⟨sizeOf249,isAgg249,by rw[underlying249];rfl,by kernel_rfl,rfl⟩
theorem Vi:aS Tryz.prog 250 sF:=⟨sizeOf250,isAgg250,by rw[underlying250];rfl,by kernel_rfl,rfl⟩
theorem Vj:aS Tryz.prog 251 sF:=⟨sizeOf251,isAgg251,by rw[underlying251];rfl,by kernel_rfl,rfl⟩
theorem Vk:aS Tryz.prog 253 sF:=⟨sizeOf253,isAgg253,by rw[underlying253];rfl,by kernel_rfl,rfl⟩
def N1:TI:=⟨7,56,true,(.st [(0,2),(1,51),(6,2)]),(.agg #[zzI,zzI,zzI,zzI,zzI,zzI,zzI])⟩
theorem Vl:aS Tryz.prog 261 N1:=⟨sizeOf261,isAgg261,by rw[underlying261];rfl,by kernel_rfl,rfl⟩
theorem Vm:aS Tryz.prog 262 N1:=⟨sizeOf262,isAgg262,by rw[underlying262];rfl,by kernel_rfl,rfl⟩
theorem Vn:aS Tryz.prog 264 sF:=⟨sizeOf264,isAgg264,by rw[underlying264];rfl,by kernel_rfl,rfl⟩
theorem Vo:aS Tryz.prog 267 lI:=⟨sizeOf267,isAgg267,by rw[underlying267];rfl,by kernel_rfl,rfl⟩
def TE:TI:=⟨4,32,true,(.arr 4 118),(.agg #[.nilFunc,.nilFunc,.nilFunc,.nilFunc])⟩
theorem Vp:aS Tryz.prog 269 TE:=⟨sizeOf269,isAgg269,by rw[underlying269];rfl,by kernel_rfl,rfl⟩
def TF:TI:=⟨1,8,false,(.ptr 105),(.pointer none)⟩
theorem Vq:aS Tryz.prog 270 TF:=⟨sizeOf270,isAgg270,by rw[underlying270];rfl,by kernel_rfl,rfl⟩
def G9:TI:=⟨2,32,true,(.st [(0,2),(1,62)]),(.agg #[zzI,zzS])⟩
theorem Vr:aS Tryz.prog 289 G9:=⟨sizeOf289,isAgg289,by rw[underlying289];rfl,by kernel_rfl,rfl⟩
theorem Vs:aS Tryz.prog 290 G9:=⟨sizeOf290,isAgg290,by rw[underlying290];rfl,by kernel_rfl,rfl⟩
theorem Vt:aS Tryz.prog 301 G9:=⟨sizeOf301,isAgg301,by rw[underlying301];rfl,by kernel_rfl,rfl⟩
def N2:TI:=⟨9,72,true,(.st [(0,2),(1,2),(2,2),(3,2),(4,93)]),(.agg #[zzI,zzI,zzI,zzI,zzI,zzI,zzI,zzI,zzI])⟩
theorem Vu:aS Tryz.prog 307 N2:=⟨sizeOf307,isAgg307,by rw[underlying307];rfl,by kernel_rfl,rfl⟩
theorem Vv:aS Tryz.prog 308 N2:=⟨sizeOf308,isAgg308,by rw[underlying308];rfl,by kernel_rfl,rfl⟩
def N3:TI:=⟨9,72,true,(.st [(0,2),(1,2),(2,2),(3,2),(4,51)]),(.agg #[zzI,zzI,zzI,zzI,zzI,zzI,zzI,zzI,zzI])⟩
theorem Vw:aS Tryz.prog 316 N3:=⟨sizeOf316,isAgg316,by rw[underlying316];rfl,by kernel_rfl,rfl⟩
theorem Vx:aS Tryz.prog 317 N3:=⟨sizeOf317,isAgg317,by rw[underlying317];rfl,by kernel_rfl,rfl⟩
theorem Vy:aS Tryz.prog 319 lI:=⟨sizeOf319,isAgg319,by rw[underlying319];rfl,by kernel_rfl,rfl⟩
theorem Vz:aS Tryz.prog 320 lI:=⟨sizeOf320,isAgg320,by rw[underlying320];rfl,by kernel_rfl,rfl⟩
theorem VA:aS Tryz.prog 322 lI:=⟨sizeOf322,isAgg322,by rw[underlying322];rfl,by kernel_rfl,rfl⟩
theorem VB:aS Tryz.prog 323 Bo:=⟨sizeOf323,isAgg323,by rw[underlying323];rfl,by kernel_rfl,rfl⟩
theorem VC:aS Tryz.prog 324 Bo:=⟨sizeOf324,isAgg324,by rw[underlying324];rfl,by kernel_rfl,rfl⟩
theorem VD:aS Tryz.prog 326 Bo:=⟨sizeOf326,isAgg326,by rw[underlying326];rfl,by kernel_rfl,rfl⟩
theorem VE:aS Tryz.prog 364 lI:=⟨sizeOf364,isAgg364,by rw[underlying364];rfl,by kernel_rfl,rfl⟩
theorem VF:aS Tryz.prog 365 lI:=⟨sizeOf365,isAgg365,by rw[underlying365];rfl,by kernel_rfl,rfl⟩
theorem VG:aS Tryz.prog 367 lI:=⟨sizeOf367,isAgg367,by rw[underlying367];rfl,by kernel_rfl,rfl⟩
def TG:TI:=⟨22,528,true,(.arr 22 62),(.agg #[zzS,zzS,zzS,zzS,zzS,zzS,zzS,zzS,zzS,zzS,zzS,zzS,zzS,zzS,zzS,zzS,zzS,zzS,zzS,zzS,zzS,zzS])⟩
theorem VH:aS Tryz.prog 373 TG:=⟨sizeOf373,isAgg373,by rw[underlying373];rfl,by kernel_rfl,rfl⟩
def TH:TI:=⟨4,96,true,(.arr 2 69),(.agg #[zzS,zzS,zzS,zzS])⟩
theorem VI:aS Tryz.prog 397 TH:=⟨sizeOf397,isAgg397,by rw[underlying397];rfl,by kernel_rfl,rfl⟩
def N4:TI:=⟨6,64,true,(.st [(0,93),(5,62)]),(.agg #[zzI,zzI,zzI,zzI,zzI,zzS])⟩
theorem VJ:aS Tryz.prog 414 N4:=⟨sizeOf414,isAgg414,by rw[underlying414];rfl,by kernel_rfl,rfl⟩
theorem VK:aS Tryz.prog 415 N4:=⟨sizeOf415,isAgg415,by rw[underlying415];rfl,by kernel_rfl,rfl⟩
def TJ:TI:=⟨1,8,false,(.ptr 425),(.pointer none)⟩
theorem VL:aS Tryz.prog 423 TJ:=⟨sizeOf423,isAgg423,by rw[underlying423];rfl,by kernel_rfl,rfl⟩
def N5:TI:=⟨2,32,true,(.st [(0,62),(1,3)]),(.agg #[zzS,zzI])⟩
theorem VM:aS Tryz.prog 424 N5:=⟨sizeOf424,isAgg424,by rw[underlying424];rfl,by kernel_rfl,rfl⟩
theorem VN:aS Tryz.prog 425 N5:=⟨sizeOf425,isAgg425,by rw[underlying425];rfl,by kernel_rfl,rfl⟩
def TL:TI:=⟨1,4,false,(.int .u32),(.int .u32 0)⟩
theorem VO:aS Tryz.prog 441 TL:=⟨sizeOf441,isAgg441,by rw[underlying441];rfl,by kernel_rfl,rfl⟩
def TM:TI:=⟨1,8,false,(.ptr 5),(.pointer none)⟩
theorem VP:aS Tryz.prog 445 TM:=⟨sizeOf445,isAgg445,by rw[underlying445];rfl,by kernel_rfl,rfl⟩
def tys:TT:=(.node 85 Ta (.node 49 S0 (.node 31 UD (.node 22 UA (.node 9 ti9 (.node 4 ti4 (.node 3 ti2 (.node 2 ti2 .leaf .leaf) .leaf) (.node 5 ti5 .leaf .leaf)) (.node 13 Uy (.node 12 Ux .leaf .leaf) (.node 21 Uz .leaf .leaf))) (.node 27 ST (.node 25 SS (.node 24 SS (.node 23 UB .leaf .leaf) .leaf) (.node 26 ST .leaf .leaf)) (.node 29 SU (.node 28 UC .leaf .leaf) (.node 30 SU .leaf .leaf)))) (.node 40 Bn (.node 36 SW (.node 34 UE (.node 33 SV (.node 32 SV .leaf .leaf) .leaf) (.node 35 SW .leaf .leaf)) (.node 38 UG (.node 37 UF .leaf .leaf) (.node 39 Bn .leaf .leaf))) (.node 45 UH (.node 43 SY (.node 42 SX (.node 41 SX .leaf .leaf) .leaf) (.node 44 SY .leaf .leaf)) (.node 47 SZ (.node 46 SZ .leaf .leaf) (.node 48 S0 .leaf .leaf))))) (.node 68 S5 (.node 58 UK (.node 54 UI (.node 52 S1 (.node 51 Bo (.node 50 Bo .leaf .leaf) .leaf) (.node 53 S1 .leaf .leaf)) (.node 56 S2 (.node 55 UJ .leaf .leaf) (.node 57 S2 .leaf .leaf))) (.node 63 UN (.node 61 S3 (.node 60 S3 (.node 59 UL .leaf .leaf) .leaf) (.node 62 UM .leaf .leaf)) (.node 65 S4 (.node 64 S4 .leaf .leaf) (.node 67 UO .leaf .leaf)))) (.node 77 S8 (.node 73 S7 (.node 71 S6 (.node 70 S6 (.node 69 S5 .leaf .leaf) .leaf) (.node 72 UP .leaf .leaf)) (.node 75 UQ (.node 74 S7 .leaf .leaf) (.node 76 S8 .leaf .leaf))) (.node 81 US (.node 79 S9 (.node 78 UR .leaf .leaf) (.node 80 S9 .leaf .leaf)) (.node 83 Bn (.node 82 UT .leaf .leaf) (.node 84 Ta .leaf .leaf)))))) (.node 249 Bn (.node 103 NX (.node 94 Te (.node 90 Tc (.node 88 UU (.node 87 Tb (.node 86 Tb .leaf .leaf) .leaf) (.node 89 Tc .leaf .leaf)) (.node 92 Td (.node 91 Td .leaf .leaf) (.node 93 Bo .leaf .leaf))) (.node 99 Tf (.node 97 UW (.node 96 UV (.node 95 Te .leaf .leaf) .leaf) (.node 98 Tf .leaf .leaf)) (.node 101 TC (.node 100 TB .leaf .leaf) (.node 102 NX .leaf .leaf)))) (.node 225 sF (.node 216 G8 (.node 118 TD (.node 105 NY (.node 104 NY .leaf .leaf) .leaf) (.node 215 G8 .leaf .leaf)) (.node 222 NZ (.node 221 NZ .leaf .leaf) (.node 224 sF .leaf .leaf))) (.node 240 N0 (.node 228 lI (.node 227 G8 .leaf .leaf) (.node 229 lI .leaf .leaf)) (.node 246 Bn (.node 241 N0 .leaf .leaf) (.node 247 Bn .leaf .leaf))))) (.node 320 lI (.node 270 TF (.node 262 N1 (.node 253 sF (.node 251 sF (.node 250 sF .leaf .leaf) .leaf) (.node 261 N1 .leaf .leaf)) (.node 267 lI (.node 264 sF .leaf .leaf) (.node 269 TE .leaf .leaf))) (.node 308 N2 (.node 301 G9 (.node 290 G9 (.node 289 G9 .leaf .leaf) .leaf) (.node 307 N2 .leaf .leaf)) (.node 317 N3 (.node 316 N3 .leaf .leaf) (.node 319 lI .leaf .leaf)))) (.node 397 TH (.node 364 lI (.node 324 Bo (.node 323 Bo (.node 322 lI .leaf .leaf) .leaf) (.node 326 Bo .leaf .leaf)) (.node 367 lI (.node 365 lI .leaf .leaf) (.node 373 TG .leaf .leaf))) (.node 424 N5 (.node 415 N4 (.node 414 N4 .leaf .leaf) (.node 423 TJ .leaf .leaf)) (.node 441 TL (.node 425 N5 .leaf .leaf) (.node 445 TM .leaf .leaf)))))))
theorem Ub:tys.ok Tryz.prog:=⟨Xd,⟨Wz,⟨Wh,⟨V8,⟨ty9,⟨ty4,⟨ty3,⟨ty2,trivial,trivial⟩,trivial⟩,⟨ty5,trivial,trivial⟩⟩,⟨V6,⟨V5,trivial,trivial⟩,⟨V7,trivial,trivial⟩⟩⟩,⟨Wd,⟨Wb,⟨Wa,⟨V9,trivial,trivial⟩,trivial⟩,⟨Wc,trivial,trivial⟩⟩,⟨Wf,⟨We,trivial,trivial⟩,⟨Wg,trivial,trivial⟩⟩⟩⟩,⟨Wq,⟨Wm,⟨Wk,⟨Wj,⟨Wi,trivial,trivial⟩,trivial⟩,⟨Wl,trivial,trivial⟩⟩,⟨Wo,⟨Wn,trivial,trivial⟩,⟨Wp,trivial,trivial⟩⟩⟩,⟨Wv,⟨Wt,⟨Ws,⟨Wr,trivial,trivial⟩,trivial⟩,⟨Wu,trivial,trivial⟩⟩,⟨Wx,⟨Ww,trivial,trivial⟩,⟨Wy,trivial,trivial⟩⟩⟩⟩⟩,⟨WR,⟨WI,⟨WE,⟨WC,⟨WB,⟨WA,trivial,trivial⟩,trivial⟩,⟨WD,trivial,trivial⟩⟩,⟨WG,⟨WF,trivial,trivial⟩,⟨WH,trivial,trivial⟩⟩⟩,⟨WN,⟨WL,⟨WK,⟨WJ,trivial,trivial⟩,trivial⟩,⟨WM,trivial,trivial⟩⟩,⟨WP,⟨WO,trivial,trivial⟩,⟨WQ,trivial,trivial⟩⟩⟩⟩,⟨W5,⟨WX,⟨WV,⟨WU,⟨WT,trivial,trivial⟩,trivial⟩,⟨WW,trivial,trivial⟩⟩,⟨WZ,⟨WY,trivial,trivial⟩,⟨W4,trivial,trivial⟩⟩⟩,⟨W9,⟨W7,⟨W6,trivial,trivial⟩,⟨W8,trivial,trivial⟩⟩,⟨Xb,⟨Xa,trivial,trivial⟩,⟨Xc,trivial,trivial⟩⟩⟩⟩⟩⟩,⟨Vh,⟨U0,⟨Xm,⟨Xi,⟨Xg,⟨Xf,⟨Xe,trivial,trivial⟩,trivial⟩,⟨Xh,trivial,trivial⟩⟩,⟨Xk,⟨Xj,trivial,trivial⟩,⟨Xl,trivial,trivial⟩⟩⟩,⟨Xr,⟨Xp,⟨Xo,⟨Xn,trivial,trivial⟩,trivial⟩,⟨Xq,trivial,trivial⟩⟩,⟨UY,⟨UX,trivial,trivial⟩,⟨UZ,trivial,trivial⟩⟩⟩⟩,⟨U9,⟨U5,⟨U3,⟨U2,⟨U1,trivial,trivial⟩,trivial⟩,⟨U4,trivial,trivial⟩⟩,⟨U7,⟨U6,trivial,trivial⟩,⟨U8,trivial,trivial⟩⟩⟩,⟨Vd,⟨Vb,⟨Va,trivial,trivial⟩,⟨Vc,trivial,trivial⟩⟩,⟨Vf,⟨Ve,trivial,trivial⟩,⟨Vg,trivial,trivial⟩⟩⟩⟩⟩,⟨Vz,⟨Vq,⟨Vm,⟨Vk,⟨Vj,⟨Vi,trivial,trivial⟩,trivial⟩,⟨Vl,trivial,trivial⟩⟩,⟨Vo,⟨Vn,trivial,trivial⟩,⟨Vp,trivial,trivial⟩⟩⟩,⟨Vv,⟨Vt,⟨Vs,⟨Vr,trivial,trivial⟩,trivial⟩,⟨Vu,trivial,trivial⟩⟩,⟨Vx,⟨Vw,trivial,trivial⟩,⟨Vy,trivial,trivial⟩⟩⟩⟩,⟨VI,⟨VE,⟨VC,⟨VB,⟨VA,trivial,trivial⟩,trivial⟩,⟨VD,trivial,trivial⟩⟩,⟨VG,⟨VF,trivial,trivial⟩,⟨VH,trivial,trivial⟩⟩⟩,⟨VM,⟨VK,⟨VJ,trivial,trivial⟩,⟨VL,trivial,trivial⟩⟩,⟨VO,⟨VN,trivial,trivial⟩,⟨VP,trivial,trivial⟩⟩⟩⟩⟩⟩⟩
noncomputable def av:bz:=⟨Tryz.prog,tys,λ_=>True⟩
theorem aM:av.Ok:=⟨Ub,by kernel_rfl,λ_ _ h _=>h⟩
theorem pO{f:FuncId}{fn:Func}{n:Nat}{rs:Array ResultVar}{args:List AP1}{res:AP}(hf:av.P.funcs[f]? =some fn)(enter:∀(us:Array Value) w,(callFunc f us).run av.P w= .ok (.enter f us) w)(hn:fn.ntmps=n)(hrs:fn.results=rs)(h:∀S,zF args n λtm=>AWP av S c (T4 av rs.toList res) ⟨tm,[]⟩)(hb:fn.body=some c:=by rfl):aL av f args res:=QX aM hf hb enter hn (congrArg Array.toList hrs) h
theorem aw0(h:AWP av S x (T5 av S y K) st):AWP av S (.seq x y) K st:=AWP.seq h
theorem aw1{id:Nat}{ops:Array Oper}(h:sM av S ops.toList ops.toList st (K .normal)):AWP av S (.region id ops false) K st:=AWP.region aM h
theorem aw2(h:K .ret st):AWP av S .ret K st:=AWP.ret h
theorem aw3(h:K .normal st):AWP av S .skip K st:=AWP.skip h
theorem aw4{id:Nat}(h:K (.exit id) st):AWP av S (.exit id) K st:=AWP.exit h
theorem aw5{id:Nat}(h:AWP av S c (LX id K) st):AWP av S (.block id c) K st:=AWP.block h
theorem aw6{c:Operand}(h:aEv st c λv=>xw v (AWP av S x K st) (AWP av S y K st)):AWP av S (.cond c x y) K st:=AWP.cond h
theorem cP{Q K P:Prop}(h:Q)(k:K)(t:Q->K->P:=by first|exact λh k=>Xt h rfl k|exact λh k=>aH.mk ⟨_,_,h,.inl rfl,k⟩):P:=t h k
theorem aw7(h:X):AB true X Y:=aaB h
theorem aw8(h:Y):AB false X Y:=aaA h
end
section
open Go.RowKit
variable {a b p q:Prop}
abbrev iv(n:Int):Value:= .int .i64 n
theorem awx(h:q)(e:q->p:=by first|exact λh=>aw1 h|exact λh=>aw2 h|exact λh=>aw3 h|exact λh=>aw4 h|exact λh=>aw5 h|exact λh=>aw6 h|exact λh=>aw7 h|exact λh=>aw8 h|exact λh=>bT h|exact λh=>bF h):p:=e h
structure Bx (q:Prop):Prop where
 h:q
theorem awy(h:q)(e:Bx q->p:=by first|(intro h;(first|refine aw0 ?_|refine aw1 ?_|refine aw2 ?_|refine aw3 ?_|refine aw4 ?_|refine aw5 ?_|refine aw6 ?_|refine aw7 ?_|refine aw8 ?_|refine bT ?_|refine bF ?_);(conv=>whnf);exact h.h)|(refine λ_:Bx True=>?_;(first|refine aw0 ?_|refine aw1 ?_|refine aw2 ?_|refine aw3 ?_|refine aw4 ?_|refine aw5 ?_|refine aw6 ?_|refine aw7 ?_|refine aw8 ?_|refine bT ?_|refine bF ?_);exact rfl)):p:=e ⟨h⟩
theorem awz(h:q)(e:Bx q->p:=by first|(intro h;(first|refine aw0 ?_|refine aw1 ?_|refine aw2 ?_|refine aw3 ?_|refine aw4 ?_|refine aw5 ?_|refine aw6 ?_|refine aw7 ?_|refine aw8 ?_|refine bT ?_|refine bF ?_|refine And.intro rfl ?_);(conv=>whnf);exact h.h)|(refine λ_:Bx True=>?_;(first|refine aw0 ?_|refine aw1 ?_|refine aw2 ?_|refine aw3 ?_|refine aw4 ?_|refine aw5 ?_|refine aw6 ?_|refine aw7 ?_|refine aw8 ?_|refine bT ?_|refine bF ?_|refine And.intro rfl ?_);exact rfl)):p:=e ⟨h⟩
theorem rZ(h:p:=by first|exact rr|(show AP.val _=AP.val _;rfl)|(show AP.tup _=AP.tup _;rfl)):p:=h
theorem tW(h:a)(k:b)(e:a->b->p:=by intro a b;first|(refine aK.mk ?_ ?_;(conv=>whnf);exact a;(conv=>whnf);exact b)|exact AB.mk a b):p:=e h k
theorem tB(h:a)(k:b)(e:a->b->p:=by exact λa b=>AB.mk a b):p:=e h k
theorem sbW(h:p:=by repeat'(first|exact Xv|refine Xu rfl ?_|fail)):p:=h
end
end Go.Proofs.YtpdmakdpnejnfaaGreat
