/- AvVC -/
import Derived.Test.YtknefkdcokgpbaaGreatAvFX
import Derived.Scope
import Derived.Test.YtknefkdcokgpbaaGreatAwx
import Derived.Test.YtknefkdcokgpbaaGreatWB4
import Derived.Test.YtknefkdcokgpbaaGreatAvDT
import Derived.Test.YtknefkdcokgpbaaGreatWG
import Derived.Test.YtknefkdcokgpbaaGreatWB7
import Derived.Test.YtknefkdcokgpbaaGreatWB3
import Derived.Test.YtknefkdcokgpbaaGreatWA2
import Derived.Test.YtknefkdcokgpbaaGreatAvFO
import Derived.Test.YtknefkdcokgpbaaGreatWOw
import Derived.Test.YtknefkdcokgpbaaGreatWCp
set_option maxHeartbeats 8000000
set_option linter.unusedVariables false
set_option linter.unusedSimpArgs false
set_option maxRecDepth 100000
open List (getElem?_append_left getElem?_append_right getElem?_map)
open Bool (and_eq_true)
namespace Go.Proofs.YtknefkdcokgpbaaGreat
section
open Go.RowKit
theorem cJ.pick{lo hi:Nat}{cs ds:List AD}(h:cJ lo hi cs ds)(L:List Nat)(hn:L.Nodup)(hb:∀i∈L,i<cs.length):cJ lo hi (L.map λi=>cs.getD i (dI 0)) (L.map λi=>ds.getD i (dI 0)):=by
 refine h.sel (λi=>L.getD i 0) aj (λi hi=>?_) λi j hi hj e=>?_
 ·have hi':i<L.length:=by simpa using hi
  have hc:=hb _ (List.getElem_mem hi');have hd:L[i]<ds.length:=by rw[<-h.1];exact hc
  simp[List.getD_eq_getElem?_getD,hi',hc,hd]
 ·have hi':i<L.length:=by simpa using hi
  have hj':j<L.length:=by simpa using hj
  have e:L[i]=L[j]:=by simpa[List.getD_eq_getElem?_getD,hi',hj']using e
  have hp:=List.pairwise_iff_getElem.1 hn;rcases Nat.lt_trichotomy i j with g|g|g
  ·exact absurd e (hp i j hi' hj' g)
  ·exact g
  ·exact absurd e.symm (hp j i hj' hi' g)
theorem cJ.splice{lo hi lo2 hi2:Nat}{cs ds c2 d2:List AD}(F:cJ lo hi cs ds)(a b:Nat)(F2:cJ lo2 hi2 c2 d2)(e:hi<=lo2)(e1:lo<=hi)(e2:lo2<=hi2)(ha:a+b<=cs.length)(hb:b<=c2.length):cJ lo hi2 (cs.take a++(c2.take b++cs.drop (a+b))) (ds.take a++(d2.take b++ds.drop (a+b))):=by
 have hl:=F.1;have hl2:=F2.1;have get:∀(x y:List AD),a+b<=x.length->b<=y.length->∀i,i<x.length->(x.take a++(y.take b++x.drop (a+b)))[i]? =(x++y)[if i<a then i else if i<a+b then x.length+(i-a)else i]? :=by
  intro x y h1 h2 i hi;by_cases h3:i<a
  ·rw[if_pos h3,getElem?_append_left al,getElem?_append_left ac,List.getElem?_take,if_pos h3]
  ·rw[if_neg h3,getElem?_append_right al];have ea:(x.take a).length=a:=al;have eb:(y.take b).length=b:=al;rw[ea];by_cases h4:i<a+b
   ·rw[if_pos h4,getElem?_append_left ac,getElem?_append_right ac,List.getElem?_take,if_pos ac];congr 1;omega
   ·rw[if_neg h4,getElem?_append_right ac,getElem?_append_left ac,List.getElem?_drop,eb];congr 1;omega
 have len:∀(x y:List AD),a+b<=x.length->b<=y.length->(x.take a++(y.take b++x.drop (a+b))).length=x.length:=by
  intro x y h1 h2;simp;omega
 refine(F.app (L:=lo) (H:=hi2) F2 (.inl e) ⟨Nat.le_refl _,ac⟩ ⟨ac,Nat.le_refl _⟩).sel (λi=>if i<a then i else if i<a+b then cs.length+(i-a)else i) (by rw[len _ _ ha hb,len _ _ ac ac,hl]) (λi hi=>?_) λi j hi hj e=>?_
 ·rw[len _ _ ha hb]at hi;refine⟨get cs c2 ha hb i hi,?_⟩;rw[get ds d2 ac ac i ac,hl]
 ·rw[len _ _ ha hb]at hi hj;split at e<;>split at e<;>(try split at e)<;>(try split at e)<;>omega
theorem cJ.mid{lo hi lo2 hi2:Nat}{a b a' b' m m':List AD}(F:cJ lo hi (a++b) (a'++b'))(hl:a.length=a'.length)(F2:cJ lo2 hi2 m m')(e:hi<=lo2)(e1:lo<=hi)(e2:lo2<=hi2):cJ lo hi2 (a++(m++b)) (a'++(m'++b')):=by
 have h1:=F.1;have h2:=F2.1;simp only[List.length_append]at h1;have get:∀(x y z:List AD) (i:Nat),i<x.length+(z.length+y.length)->(x++(z++y))[i]? =((x++y)++z)[if i<x.length then i else if i<x.length+z.length then x.length+y.length+(i-x.length)else i-z.length]? :=by
  intro x y z i hi;by_cases h3:i<x.length
  ·rw[if_pos h3,getElem?_append_left h3,getElem?_append_left al,getElem?_append_left h3]
  ·rw[if_neg h3,getElem?_append_right ac];by_cases h4:i<x.length+z.length
   ·rw[if_pos h4,getElem?_append_left ac,getElem?_append_right aj];congr 1;simp
   ·rw[if_neg h4,getElem?_append_right ac,getElem?_append_left al,getElem?_append_right ac];congr 1;omega
 refine(F.app (L:=lo) (H:=hi2) F2 (.inl e) ⟨Nat.le_refl _,ac⟩ ⟨ac,Nat.le_refl _⟩).sel (λi=>if i<a.length then i else if i<a.length+m.length then a.length+b.length+(i-a.length)else i-m.length) al (λi hi=>?_) λi j hi hj e=>?_
 ·simp only[List.length_append]at hi;refine⟨get a b m i hi,?_⟩;have:=get a' b' m' i ac;rw[this,hl,h2];congr 1;split
  ·rfl
  ·split<;>omega
 ·simp only[List.length_append]at hi hj;split at e<;>split at e<;>(try split at e)<;>(try split at e)<;>omega
theorem aaJ{T:World->Prop}{ob:List (Nat×AO)}{R:(Nat->Prop)->World->Value->Prop}{n:Int}{s:Nat}{K:AV->Prop}{xs:List (List AD)}(h:AsD (.x R) (.sl xs))(k:Nat)(row:List AD)(hn:n=(k:Int))(hx:xs[k]? =some row)(hl:row.length=s)(hs:0<s)(hk:K (.one (.ptr row))):AXi T ob R n s K:=by
 refine⟨_,hk,λS Z w ρ v _ hv=>?_⟩;have hv:=h Z w v hv;cases hv with
 |sl _ A cap s' us hc hm hl2 hxs hus hr hd=>
  have hkx:=(List.getElem?_eq_some_iff.1 hx).1;have hku:k<us.length:=by rw[hl2];exact hkx
  have hu1:us[k]? =some us[k]:=List.getElem?_eq_getElem hku;have hul:=hus us[k] (List.getElem_mem hku);have hxl:=hxs row (List.mem_of_getElem? hx);have hss:s'=s:=ac;subst hss;rcases hr with h0|⟨b,off,hA,hZ,hcell⟩
  ·have h1:=jq hus;rw[h0,List.length_nil]at h1;have h2:0<us.length*s':=Nat.mul_pos ac hs;omega
  ·subst hA;refine⟨b,off,k,_,cap,rfl,hn,hkx,tp ⟨b,off+k*s',us[k],rfl,hZ,ac,λi u hu=>?_,λi p u h1 h2=>hd k i row us[k] p u hx hu1 h1 h2⟩⟩;have:=hcell _ u (mV hus hu1 hu);rwa[Nat.add_assoc]
structure kM (E:bB) (f:FuncId) (ds:List AD) (ps:List AP1) (es:List AD):Prop where
 enter:∀(us:Array Value) w,(callFunc f us).run E.P w= .ok (.enter f us) w
 run:∀(lo:Nat) (Z:Nat->Prop) (w:World) (xs us:List Value),(∀b,Z b->b<w.heap.size)->GZ E.W Z w->lo<=w.heap.size->us.length=ps.length->(∀(i:Nat) p u,ps[i]? =some p->us[i]? =some u->dE Z w p u)->cV w (λb=>lo<=b/\Z b) ds xs->
  Calls E.P f (Value.agg xs.toArray::us).toArray w λe w'=>∃ys:List Value,e= .returned (.agg ys.toArray)/\Below w.heap.size w w'/\cV w' (λb=>lo<=b/\(Z b\/(w.heap.size<=b/\b<w'.heap.size))) es ys
section
variable {E:bB} {S:bV}
theorem BD{w:World}{P:Nat->Prop}{ds:List AD}{xs:List Value}(h:cV w P ds xs):∃R:Nat->(Nat->Prop)->World->Value->Prop,
  (∀(Z:Nat->Prop),(∀b,P b->Z b)->∀(i:Nat) c u,(bS R 0 ds)[i]? =some c->xs[i]? =some u->bR Z w c u)/\
  ∀lo hi:Nat,(∀b,P b->lo<=b/\b<hi)->cJ lo hi (bS R 0 ds) ds:=by
 obtain⟨lF,Q,q,eQ,rQ⟩:=h;let R:Nat->(Nat->Prop)->World->Value->Prop:=λi Zx wx u=>(∀b,Q i b->Zx b)/\∃a,ds[i]? =some a/\bW wx (Q i) a u
 refine⟨R,λZ hz i c u hc hu=>?_,λlo hi hlh=>⟨dq R _ _,Q,λi b h=>hlh b (q i b h),eQ,λi c a hc ha Zx wx u hrel=>?_⟩⟩
 ·obtain⟨d,hd,h⟩:=iS R hc;have ht:=rQ i d u hd hu;rcases h with⟨x,rfl,rfl⟩|h
  ·cases ht with|pv _ _ h1=>exact .pv _ h1
  ·rw[Nat.zero_add]at h;subst h;refine .x _ _ ht.one λZx wx hzx hbx=>⟨λb hb=>hzx b (hz b (q i b hb)),d,hd,ht.keep λb hb=>hbx b (hz b (q i b hb))⟩
 ·obtain⟨d,hd,h⟩:=iS R hc;rw[ha]at hd;injection hd with hd
  subst hd;rcases h with⟨x,e1,e2⟩|h
  ·rw[e2]at hrel;rw[e1];cases hrel with|pv _ h1=>exact .pv _ _ h1
  ·rw[h,Nat.zero_add]at hrel;cases hrel with
   |x _ _ h1 hR=>
    obtain⟨hz,a',ha',ht⟩:=hR Zx wx (λ_ h=>h) λ_ _=>rfl;rw[ha]at ha';injection ha' with ha'
    subst ha';exact ht.mono λb hb=>⟨hb,hz b hb⟩
def Su(K:Exit->ASt->Prop):Exit->ASt->Prop
 | .goto _,_=>False
 |e,st=>K e st
theorem AWP.scope{c:Code}{K:Exit->ASt->Prop}{st:ASt}(h:AWP E S c (Su K) st):AWP E S (.scope c) K st:=by
 refine⟨λa w hs=>wp_scope_straight (wp_mono (h.run a w hs) λe a' w' h'=>?_)⟩;obtain⟨st',hs',hk⟩:=h';cases e with
 |goto l=>exact hk.elim
 |_=>exact⟨st',hs',hk⟩
theorem PN{Z:Nat->Prop}{ρ:Nat->Value}{w:World}{st:ASt}{lo:Nat}(h:WS E.W S Z w ρ st.ob)(hO:∀b,¬S.O b)(hlo:lo<=S.w0.heap.size){xs:List AV}{vs:List Value}{ps:List AP1}(hl:vs.length=xs.length)(hr:∀(i:Nat) x v,xs[i]? =some x->vs[i]? =some v->bX Z w ρ x v)(hk:uR st.ob lo xs ps):
  ∃us,jA ps vs us/\cV w (λb=>lo<=b/\(S.Z0 b\/(S.w0.heap.size<=b/\b<w.heap.size))) (gU ps) us:=by
 obtain⟨hs,hk⟩:=hk;obtain⟨cs,us,hk,h1,h2,h3⟩:=tM hl hr hs hk;obtain⟨C,D,uu,⟨l2,hi,hn,hF⟩,h4,h5,h6⟩:=sZ h h1 h2 hk;refine⟨us,h3,(h6 _ (λb hb=>hb.2.2) (hF.2 Z w uu h4 h5)).mono λb hb=>?_⟩;rcases hb with hb|⟨id,o,_,ho,hb⟩
 ·refine⟨ac,?_⟩;rcases h.znew b hb.2.2 with h7|h7|h7
  ·exact .inl h7
  ·exact .inr ⟨h7,h.zlt b hb.2.2⟩
  ·exact(hO b h7).elim
 ·have h7:=(h.mine id o b ho hb).2.resolve_right (hO b);exact⟨ac,.inr ⟨h7,h.lt ho hb⟩⟩
theorem fH(he:E.Ok){f:FuncId}{fn:Func}{c:Code}{n:Nat}{rs:List ResultVar}{ds es:List AD}{ps:List AP1}(hf:E.P.funcs[f]? =some fn)(hb:fn.body=some c)
  (enter:∀(us:Array Value) w,(callFunc f us).run E.P w= .ok (.enter f us) w) (hn:fn.ntmps=n) (hrs:fn.results.toList=rs)
  (h:∀(S:bV) (R:Nat->(Nat->Prop)->World->Value->Prop) (lo:Nat),lo<=S.w0.heap.size->cJ lo S.w0.heap.size (bS R 0 ds) ds->Gt (.agg ((bS R 0 ds).map .d)::ps.map AP1.v) n λtm=>AWP E S c (Ue E rs lo [.agg es]) ⟨tm,[(9997,cH S.w0.heap.size S.w0.heap.size)]⟩):kM E f ds ps es:=by
 refine⟨enter,λlo Z w xs us hz hg hlo hl hr hF=>?_⟩;subst hn hrs;obtain⟨R,hR1,hR2⟩:=BD hF;have hxl:xs.length=ds.length:=hF.1;obtain⟨hle,hk⟩:=vE (h ⟨w,λ_=>False,Z⟩ R lo hlo (hR2 lo w.heap.size λb hb=>⟨hb.1,hz b hb.2⟩));simp only[List.length_cons,List.length_map]at hle hk;have hw0:WS E.W ⟨w,λ_=>False,Z⟩ Z w (λ_=>undef) []:=⟨rfl,rfl,rfl,Nat.le_refl _,λ_ _ _=>rfl,hz,λid o b ho _=>(by cases ho),λi j oi oj b hi _ _ _ _=>(by cases hi),λid o ho=>(by cases ho),jI.nil,hg,λb hb=>hb,λb hb=> .inl hb⟩;have hs:Sim E.W ⟨w,λ_=>False,Z⟩ Z (λ_=>undef) ⟨(AV.agg ((bS R 0 ds).map .d)::ps.map AP1.v)++List.replicate (fn.ntmps-(ps.length+1)) (.one .und),[(9997,cH w.heap.size w.heap.size)]⟩ {tmps:=(Value.agg xs.toArray::us).toArray++Array.replicate (fn.ntmps-(Value.agg xs.toArray::us).toArray.size) undef,defers:=[]} w:=by
  refine⟨hw0.reframe (id:=9997) (je rfl (.inl (Nat.le_refl _))),by simp[hl];omega,λi x v hx hv=>?_,rfl⟩;simp only at hx hv;have hv':((Value.agg xs.toArray::us)++List.replicate (fn.ntmps-(us.length+1)) undef)[i]? =some v:=by
   have:=hv;rw[<-Array.getElem?_toList]at this;simpa using this
  cases i with
  |zero=>
   simp only[List.cons_append,List.getElem?_cons_zero,Option.some.injEq]at hx hv';subst hx hv';refine .agg _ xs (by simp[dq,hxl]) λj c u hc hu=>?_;rw[getElem?_map]at hc;obtain⟨d,hd,rfl⟩:=Option.map_eq_some_iff.1 hc;exact hR1 Z (λb hb=>hb.2) j d u hd hu
  |succ i=>
   simp only[List.cons_append,List.getElem?_cons_succ]at hx hv';by_cases hi:i<us.length
   ·rw[getElem?_append_left (by simpa[hl]using hi),getElem?_map]at hx;obtain⟨p,hp,rfl⟩:=Option.map_eq_some_iff.1 hx;rw[getElem?_append_left hi]at hv';exact(hr i p v hp hv').v
   ·rw[getElem?_append_right al]at hx;rw[getElem?_append_right ac]at hv';have e1:=List.eq_of_mem_replicate (List.mem_of_getElem? hx);have e2:=List.eq_of_mem_replicate (List.mem_of_getElem? hv');subst e1 e2;exact .one _ _ (show dW Z w (λ_=>undef) .und undef from rfl)
 refine calls_of_wp hf hb (wp_mono (hk.run _ w ⟨Z,_,hs⟩) λe a' w' h'=>?_);obtain⟨st',⟨Z',ρ',hs'⟩,hk'⟩:=h';have fin:zJ E st' fn.results.toList (λxs=>uR st'.ob lo xs [.agg es])->a'.defers=[]/\∃v,(results fn a'.tmps).run E.P w'= .ok v w'/\∃ys:List Value,Ending.returned v= .returned (.agg ys.toArray)/\Below w.heap.size w w'/\cV w' (λb=>lo<=b/\(Z b\/(w.heap.size<=b/\b<w'.heap.size))) es ys:=by
  intro hr;obtain⟨vs,xs,h1,h2,h3,h4,h5⟩:=rR he hs' hr;obtain⟨us',h6,h7⟩:=PN (S:=⟨w,λ_=>False,Z⟩) hs'.ws (λb h=>h) hlo h2 h4 h5;have h8:=h6.len.1;match vs,h8,h6,h1 with
  |[v],_,h6,h1=>
   cases h6 with
   |agg _ ws hl9 h9=>
    cases h9;simp only[gU,List.append_nil]at h7;exact⟨hs'.df,_,by rw[oa h1];rfl,ws,rfl,⟨hs'.ws.os,hs'.ws.tape,hs'.ws.output,hs'.ws.size,λb hb=>hs'.ws.old b hb (λh=>h)⟩,h7⟩
 cases e with
 |normal=>exact fin hk'
 |ret=>exact fin hk'
 |_=>exact hk'.elim
theorem aG.v{f:FuncId}{cs ds es:List AD}{args0 args:List AV}{tm:List AV}{ob:List (Nat×AO)}{K:AV->ASt->Prop}{ps:List AP1}{m lo hi:Nat}(F:cJ lo hi cs ds)(hc:kM E f ds ps es)(ha:args0= .agg (cs.map .d)::args)(hps:aPs args (· =ps))(hm:aOb ob 9997 λo=>o=cH S.w0.heap.size m)(hlo:lo<=m)
  (hk:∀R hi',m<=hi'->cJ lo hi' (bS R 0 es) es->gH 9997 (cH S.w0.heap.size hi') ob λob=>K (.agg ((bS R 0 es).map .d)) ⟨tm,ob⟩):aG E S f args0 ⟨tm,ob⟩ K:=by
 subst ha;refine⟨hc.enter,λZ ρ a w us hs hl hr=>?_⟩;obtain⟨o,ho,rfl⟩:=co hm;have hmark:=td (hs.ws.obj 9997 _ ho);have hρ:ρ 9997=undef:=(hs.ws.obj 9997 _ ho).1;have hmle:m<=w.heap.size:=by
  rcases hmark with h|⟨k,e,h⟩
  ·exact Nat.le_trans h hs.ws.size
  ·have:=hs.ws.zlt k h;omega
 match us,hl,hr with
 |u0::us,hl,hr=>
 have hl':us.length=args.length:=by simpa using hl
 have hr':∀(i:Nat) x u,args[i]? =some x->us[i]? =some u->bX Z w ρ x u:=λi x u h1 h2=>hr (i+1) x u (by simpa using h1) (by simpa using h2);have h0:=hr 0 _ u0 rfl rfl;have hws0:WS E.W S Z w ρ []:=hs.ws.sub X4;obtain⟨ps',h1,h2,rfl⟩:=fX (E:=E) (S:=S) (st:=⟨[],[]⟩) hws0 hl' hr' (AZ hps);have hzo:∀b,gG Z ρ [] b->Z b:=by rintro b (hb|⟨id,o,ho,_⟩);exact hb;cases ho
 cases h0 with
 |agg _ xs hxl hx=>
 have hxl:xs.length=cs.length:=by simpa using hxl
 have hfam:cV w (λb=>lo<=b/\Z b) ds xs:=by
  refine(F.fam.2 Z w xs hxl λi c u hc hu=>?_).mono λb hb=>⟨hb.1,hb.2.2⟩;exact hx i (.d c) u (by rw[getElem?_map,hc];rfl) hu
 refine(hc.run lo Z w xs us hs.ws.zlt hs.ws.g (Nat.le_trans hlo hmle) h1 (λi p u h3 h4=>?_) hfam).mono ?_
 ·have:=h2 i p u h3 h4;cases p with
  |one d=>exact bR.mono hzo (λ_ _=>rfl) this
  |agg ds=>
   obtain⟨us2,e,h5,h6⟩:=this;exact⟨us2,e,h5,λj a u h7 h8=>(h6 j a u h7 h8).mono hzo λ_ _=>rfl⟩
 ·rintro e w' ⟨ys,rfl,hb,hf⟩;let Z':Nat->Prop:=λb=>Z b\/(w.heap.size<=b/\b<w'.heap.size)
  have hg:=hs.grow (Z':=Z') (dL hb) (λb h=> .inl h) λb h=>h;obtain⟨R,hR1,hR2⟩:=BD hf;obtain⟨hi',t1,t2,t3,t4⟩:=Mw Z' m (w'.heap.size-m);have hval:bX Z' w' ρ (.agg ((bS R 0 es).map .d)) (.agg ys.toArray):=by
   refine .agg _ ys (by simp[dq,hf.1]) λj c u hc hu=>?_;rw[getElem?_map]at hc;obtain⟨d,hd,rfl⟩:=Option.map_eq_some_iff.1 hc;exact hR1 Z' (λb hb=>hb.2) j d u hd hu
  have hF':cJ lo hi' (bS R 0 es) es:=by
   refine hR2 lo hi' λb hb=>⟨hb.1,?_⟩;by_cases hbm:b<m
   ·omega
   ·have:b<w'.heap.size:=hg.ws.zlt b hb.2;exact t3 b hb.2 ac ac
  have hmk:hi'<=S.w0.heap.size\/∃k,hi'=k+1/\Z' k:=by
   rcases t4 with rfl|⟨k,rfl,h,_⟩
   ·rcases hmark with h|⟨k,e,h⟩
    ·exact .inl h
    ·exact .inr ⟨k,e,.inl h⟩
   ·exact .inr ⟨k,rfl,h⟩
  have hsim:Sim E.W S Z' ρ ⟨tm,fj ob 9997 (cH S.w0.heap.size hi')⟩ a w':=⟨hg.ws.reframe (je hρ hmk),hg.len,hg.tm,hg.df⟩;exact⟨_,_,_,Z',ρ,rfl,hsim,hval,dl (K:=λob=>K (.agg ((bS R 0 es).map .d)) ⟨tm,ob⟩) (hk R hi' t1 hF')⟩
end
end
open Go.Proofs.Tryz
open Go.ChangeShapes Go.WideShapes Go.RowKit
def pP:List (List Nat):=bZ [0,1,0,3,0,0,6526865541,0x1c61440c2047106]
def oV:List (List Nat):=bZ [0,1,129,12354,1056835,12354,5419311366,207267586309,35532366946371,0x90c1087184148,0x2881441870810c9,0xb2430421c610520a,0xb2430421c610520a,0x34a2051061c204324b,0x30a2051061c204324b38d,0xb2430421c610520a3cd38c,0x2430421c610521030e34f28b,0x112ca3cd38c4081441870810c9]
def o6:List (List Nat):=fB 14 [0,1,4,499,526,229,364,1093,3280,9841,29524,4340101,442867,974308]
theorem yY(a b:DView)(ha:a.jobs.opens.length<=9223372036854775806):aM av 422 [.agg a.ds,.agg b.ds] (rB (decide (a=b))):=by
  refine pO func422 call422 ntmps422 results422 λS=>?_;conv=>whnf
  repeat'(first|refine awz ?_|(refine X7 aN 1 (tkc [0,1,2,3] (.two 4 (onc [5,6,7] .done) 5 (onc [4,6,7] .done))) [(2,9980),(3,9981)] pP ae ae ae ae (λRz=>?_);(conv=>whnf);intro bp0 up0;(conv=>whnf);intro bp1 up1;(conv=>whnf))|(refine cP (FM a.jobs.opens b.jobs.opens ha) ?_;conv=>whnf)|refine tW ?_ ?_|(intro h;conv=>whnf))
  all_goals
    refine bJ ?_;obtain⟨⟨i1,t1,h1,e1,l1,o1⟩⟩:=a;obtain⟨⟨i2,t2,h2,e2,l2,o2⟩⟩:=b;simp_all[DView.mk.injEq,DJobs.mk.injEq]
theorem J9{a b:DSched}:a=b↔(a.id=b.id/\a.seq=b.seq/\a.view=b.view/\a.busy=b.busy/\a.op=b.op/\a.index=b.index):=by
  cases a;cases b;simp[DSched.mk.injEq]
theorem wZ(a b:DSched)(ha:a.view.jobs.opens.length<=9223372036854775806):aM av 356 [.agg a.ds,.agg b.ds] (rB (decide (a=b))):=by
  refine pO func356 call356 ntmps356 results356 λS=>?_;conv=>whnf
  repeat'((first|refine awz ?_|refine cP (yY a.view b.view ha) ?_|refine YF (oZ a.op b.op) rfl rfl rfl rfl rfl ?_|refine tB ?_ ?_|intro h)<;>conv=>whnf)
  all_goals
    refine bJ ?_;rw[Bool.eq_iff_iff,decide_eq_true_iff,J9];simp_all
def ph(id:Int):DSched:=if d8 id then wb id else wb 0
theorem yQ(id:Int):aM av 357 [.one (dI id)] (.val (.agg (ph id).ds)):=by
  refine pO func357 call357 ntmps357 results357 λS=>?_;conv=>whnf
  repeat'((first|refine awz ?_|refine cP (gx _) ?_|refine tB ?_ ?_|intro h)<;>conv=>whnf)
  all_goals simp_all[ph,wb,DSched.ds,op0]
theorem mu(s:DSched)(id:Int)(up:Bool)(hs:s.view.jobs.opens.length<=9223372036854775806):aM av 277 [.agg s.ds,.one (dI id),.one (dB up)] (rB (db s id up)):=by
  refine pO func277 call277 ntmps277 results277 λS=>?_;conv=>whnf
  repeat'((first|refine awz ?_|refine X9 aN 1 14 oV o6 ae ae ae rfl ?_|refine cP (qb s) ?_|refine cP (yQ _) ?_|refine cP (wZ s (ph id) hs) ?_|refine tB ?_ ?_|intro h)<;>conv=>whnf)
  all_goals
    refine bJ ?_;first
      |(simp_all[db];done)
      | (have e : ph id = wb id := by simp_all [ph, d9]
         simp_all[db];rw[Bool.eq_iff_iff];simp;done)
theorem qR(s:DSched):aM av 138 [.agg s.ds] (rB (decide (s=wb s.id))):=by
  refine pO func138 call138 ntmps138 results138 λS=>?_;conv=>whnf
  repeat'((first|refine awz ?_|refine YF (oZ s.op op0) rfl rfl rfl rfl rfl ?_|refine tB ?_ ?_|intro h)<;>conv=>whnf)
  all_goals
    refine bJ ?_;obtain⟨i,q,⟨⟨a,b,c,d,e,l⟩⟩,u,o,x⟩:=s;rw[Bool.eq_iff_iff,decide_eq_true_iff,J9];simp_all[wb,DView.mk.injEq,DJobs.mk.injEq]
theorem om(s:DSched)(id:Int)(up:Bool):aM av 65 [.agg s.ds,.one (dI id),.one (dB up)] (rB (db s id up)):=by
  refine pO func65 call65 ntmps65 results65 λS=>?_;conv=>whnf
  repeat'((first|refine awz ?_|refine cP (qy s) ?_|refine cP (qR s) ?_|refine tB ?_ ?_|intro h)<;>conv=>whnf)
  all_goals
    refine bJ ?_;first
      |(simp_all[db];done)
      |(simp_all[db];rw[Bool.eq_iff_iff];simp;done)
section
variable {b:DBook}{e:DEntry}{h:DHead}
def opL(o:DOp):List Int:=[o.kind,o.a,o.b,o.c,o.d]
theorem yE(h:dd e=true):(1<=e.index/\e.index<=2000)/\(0<=e.time/\e.time<=1000000)/\(2<=e.client/\e.client<=5)/\(1<=e.seq/\e.seq<=2000)/\v7 e.op=true:=by
 simp only[dd,aK,and_eq_true,decide_eq_true_eq]at h;exact⟨h.1.1.1.1,h.1.1.1.2,h.1.1.2,h.1.2,h.2⟩
theorem i9(e:gv h=true):(0<=h.base/\h.base<=2000)/\(0<=h.num/\h.num<=h.base)/\(0<=h.time/\h.time<=1000000)/\(0<h.base\/h.time=0)/\seenOk h.seen=true/\bP h.seen=h.base:=by
 simp only[gv,tOk,aK,and_eq_true,Bool.or_eq_true,decide_eq_true_eq,beq_iff_eq]at e;exact⟨e.1.1.1.1.1,e.1.1.1.1.2,e.1.1.1.2,e.1.1.2,e.1.2,e.2⟩
def Ro(b:DBook):Int:=match b.entries.getLast? with|some e=>e.time|none=>b.time
def P0(b:DBook)(e:DEntry):Bool:=dd e&&e.index==ca b+1&&decide (Ro b<=e.time)&&decide (b.entries.length<20)
def PE(b:DBook)(e:DEntry):DBook:=⟨b.base,b.time,b.entries++[e]⟩
theorem dC(h:cp b=true):(0<=b.base/\b.base<=2000)/\(0<=b.time/\b.time<=1000000)/\(b.base=0->b.time=0)/\b.entries.length<=20/\dD b.entries=true/\(∀e,b.entries[0]? =some e->e.index=b.base+1/\b.time<=e.time):=by
 simp only[cp,tOk,aK,and_eq_true,decide_eq_true_eq,Bool.not_eq_true',Bool.and_eq_false_iff,beq_eq_false_iff_ne,bne_eq_false_iff_eq]at h;refine⟨h.1.1.1.1.1,h.1.1.1.1.2,λe=>?_,h.1.1.2,h.1.2,λe he=>?_⟩
 ·rcases h.1.1.1.2 with h|h
  ·exact absurd e h
  ·exact h
 ·have h2:=h.2;cases hb:b.entries with
  |nil=>rw[hb]at he;cases he
  |cons x r=>
   rw[hb]at he h2;injection he with he
   subst he;simpa using h2
theorem ED(h:(0<=b.base/\b.base<=2000)/\(0<=b.time/\b.time<=1000000)/\(b.base=0->b.time=0)/\b.entries.length<=20/\dD b.entries=true/\(∀e,b.entries[0]? =some e->e.index=b.base+1/\b.time<=e.time)):cp b=true:=by
 simp only[cp,tOk,aK,and_eq_true,decide_eq_true_eq,Bool.not_eq_true',Bool.and_eq_false_iff,beq_eq_false_iff_ne,bne_eq_false_iff_eq];refine⟨⟨⟨⟨⟨h.1,h.2.1⟩,?_⟩,h.2.2.2.1⟩,h.2.2.2.2.1⟩,?_⟩
 ·by_cases e:b.base=0
  ·exact .inr (h.2.2.1 e)
  ·exact .inl e
 ·cases hb:b.entries with
  |nil=>rfl
  |cons x r=>
   have:=h.2.2.2.2.2 x (by rw[hb];rfl);simpa using this
theorem jx{l:List DEntry}(h:dD l=true):l.length<=2000/\(∀e∈l,dd e=true)/\jh kT l=true:=by
 simp only[dD,and_eq_true,decide_eq_true_eq,List.all_eq_true]at h;exact⟨h.1.1,h.1.2,h.2⟩
theorem EB{α:Type}{Q:α->α->Bool}:∀{l:List α} {x:α},jh Q l=true->(∀y,l.getLast? =some y->Q y x=true)->jh Q (l++[x])=true
 |[],_,_,_=>rfl
 |[y],x,_,h=>by simp[jh,h y rfl]
 |y::z::r,x,h,hl=>by
  simp only[jh,and_eq_true,List.cons_append]at h⊢;refine⟨h.1,EB (l:=z::r) h.2 λw hw=>hl w ?_⟩;rw[List.getLast?_cons_cons];exact hw
theorem GB(h:cp b=true):∀(k:Nat) (hk:k<b.entries.length),b.entries[k].index=b.base+1+k:=by
 obtain⟨h1,h2,h3,h4,h5,h6⟩:=dC h;obtain⟨e1,e2,e3⟩:=jx h5;intro k;induction k with
 |zero=>intro hk;have:=(h6 b.entries[0] (List.getElem?_eq_getElem hk)).1;omega
 |succ k ih=>
  intro hk;have:=j8 e3 hk;simp only[kT,and_eq_true,beq_iff_eq,decide_eq_true_eq]at this;have:=ih ac;omega
theorem Bq(h:cp b=true)(he:b.entries.getLast? =some e):e.index=ca b:=by
 rw[List.getLast?_eq_getElem?]at he;obtain⟨hlt,hg⟩:=List.getElem?_eq_some_iff.1 he;have:=GB h _ hlt;rw[hg]at this;unfold ca;omega
theorem K5(h:cp b=true)(hf:P0 b e=true):cp (PE b e)=true:=by
 obtain⟨h1,h2,h3,h4,h5,h6⟩:=dC h;obtain⟨e1,e2,e3⟩:=jx h5;simp only[P0,and_eq_true,decide_eq_true_eq,beq_iff_eq]at hf;obtain⟨⟨⟨f1,f2⟩,f3⟩,f4⟩:=hf;refine ED ⟨h1,h2,h3,by simp[PE];omega,?_,λx hx=>?_⟩
 ·simp only[dD,PE,and_eq_true,decide_eq_true_eq,List.all_eq_true];refine⟨⟨by simp;omega,λx hx=>?_⟩,EB e3 λy hy=>?_⟩
  ·rcases List.mem_append.1 hx with hx|hx
   ·exact e2 x hx
   ·rw[List.mem_singleton.1 hx];exact f1
  ·have:=Bq h hy;simp only[kT,and_eq_true,beq_iff_eq,decide_eq_true_eq];unfold Ro at f3;rw[hy]at f3;exact⟨ac,f3⟩
 ·simp only[PE]at hx⊢;cases hb:b.entries with
  |nil=>
   rw[hb]at hx;injection hx with hx
   subst hx;simp only[Ro,ca,hb,List.getLast?_nil,List.length_nil]at f3 f2;exact⟨ac,f3⟩
  |cons y r=>
   rw[hb]at hx;exact h6 x (by rw[hb];simpa using hx)
structure Pc (h:DHead) (b:DBook) (s:List DMark):Prop where
 ok:cp b=true
 base:b.base=h.base
 time:b.time=h.time
 fold:bY h.seen b.entries=some s
 seen:seenOk s=true
theorem Pc.add{s:List DMark}(g:Pc h b s)(hf:P0 b e=true)(hm:d7 s e=some (putMark s e.mark)):Pc h (PE b e) (putMark s e.mark):=by
 refine⟨K5 g.ok hf,g.base,g.time,?_,(tf g.seen hm).1⟩;show bY h.seen (b.entries++[e])=_;rw[jT,g.fold];show bY s [e]=_;simp[bY,hm]
end
def vN:List (List Nat):=bZ [0,1,0,3,0,5,389,138580619590,35602175901762]
def uF:List (List Nat):=bZ [0,1,2,0,0,5,12676,451,0x2071851030811c8]
def wz:List (List Nat):=bZ [0,1,0,3,4,16706,6527398017,0x61440c2046187]
theorem Kf(l:List Int)(hl:l.length<=1048576):aM av 409 [.one (.sl (l.map eI))] (.val (.one (.sl (l.map eI)))):=by
 refine pO func409 call409 ntmps409 results409 λS=>?_;conv=>whnf
 repeat'((first|refine awz ?_|refine aI (by first|(intro y hy;obtain⟨a,_,rfl⟩:=List.mem_map.1 hy;rfl)|(simp;done)) ?_|refine aJ ao ?_|exact rZ|fail)<;>conv=>whnf)
theorem xx(m:DMsg)(h:m.row.length<=1048576):aM av 334 [.agg m.ds] (.val (.agg m.ds)):=by
 refine pO func334 call334 ntmps334 results334 λS=>?_;conv=>whnf
 repeat'((first|refine awz ?_|refine X9 aN 1 7 vN kP ae ae ae rfl ?_|refine cP (Kf m.row h) ?_|exact rZ|fail)<;>conv=>whnf)
theorem OI(l:List DMsg)(hl:l.length<=1048576)(hm:∀m∈l,Yy 1048576 m):d5 av 408 [.one (.d (.sl (l.map DMsg.ds)))] [] [(5,.row 216 3 (l.map DMsg.ds))] [] (.val (.one (.own 5))):=by
 refine cR aN func408 rfl call408 ntmps408 (aaK results408) rfl λS pv=>?_;conv=>whnf
 repeat'(first|refine awz ?_|fail)
 refine X5 (λk:Nat=>k<=l.length) (5::[3,4,6,7,8,9,10,11,12,13,14,15,16,17,18,19]) (λk=>[(3,.one (.own 5)),(4,vI .i64 (k:Int))]) (λk=>[(9999,.frame (gT []) pv),(5,.row 216 3 ((l.take k).map DMsg.ds))]) (λk=>l.length-k) 0 (Nat.zero_le _) ?_ sbW (λk hk=>?_)<;>(conv=>whnf)
 ·exact whd
 ·repeat'(first|refine awz ?_|refine tW ?_ ?_|(intro h;conv=>whnf))
  ·have hlt:k<l.length:=ari;have hy:l[k].row.length<=1048576:=hm _ (List.getElem_mem hlt);repeat'((first|refine awz ?_|refine Yg hlt ?_|refine cP (xx l[k] hy) ?_|refine aJ ao ?_|refine X3 ari ari ?_|fail)<;>conv=>whnf)
   all_goals
    refine bd.mk ⟨k+1,hlt,ac,?_,X0 rfl (X0 (congrArg some (congrArg (AO.row 216 3) (dn DMsg.ds hlt).symm)) X4)⟩;exact hds
  ·have e:k=l.length:=ari;subst e;rw[List.take_length];repeat'(first|refine awz ?_|exact rZ|fail)
theorem FI(n:DNet)(h:Yz 1048576 n):d5 av 333 [.agg (n.ds.map .d)] [] [(41,.row 216 3 (n.flight.map DMsg.ds))] [] (.val (.agg [.own 41,.d (.sl (n.cuts.map DLink.ds))])):=by
 obtain⟨h1,h2,h3⟩:=h;refine cR aN func333 rfl call333 ntmps333 (aaK results333) rfl λS pv=>?_;conv=>whnf
 repeat'(first|refine awz ?_|fail)
 (refine X7 aN 1 (tkc [0,1,4,5] (.two 2 (onc [3,6,7,8] .done) 3 (onc [2,6,7,8] .done))) [(1,9980)] uF ae ae ae ae (λRz=>?_);(conv=>whnf);intro bp0 up0;(conv=>whnf))
 repeat'((first|refine awz ?_|refine Yb (OI n.flight h1 h2) [(5,41)] rfl rfl ?_|refine aI (by first|(intro y hy;obtain⟨a,_,rfl⟩:=List.mem_map.1 hy;rfl)|(simp;done)) ?_|refine aJ ao ?_|exact rZ|refine tW ?_ ?_|fail)<;>conv=>whnf)
theorem SH(n:DNet)(m:DMsg)(hn:fd n=true)(hm:fM m=true)(hs:Yz 1048576 n)(hr:m.row.length<=1048576)(hl:n.flight.length≠60):d5 av 248 [.agg (n.ds.map .d),.agg (m.ds.map .d)] [] [(41,.row 216 3 ((n.flight++[m]).map DMsg.ds))] [] (.tup [.agg [.own 41,.d (.sl (n.cuts.map DLink.ds))],.one (.d (dB true))]):=by
 have h1:=hs.1;have c1:=tv n;have c2:=tu m;rw[hn]at c1;rw[hm]at c2;have hc:((((n.flight.map DMsg.ds).length:Nat):Int)==60)=false:=al;have hlt:=(lL hn).1;have e1:(n.flight++[m]).map DMsg.ds=n.flight.map DMsg.ds++[[dI m.frm,dI m.to_,.sl (m.row.map eI)]]:=by rw[List.map_append];rfl
 rw[e1];refine cR aN func248 rfl call248 ntmps248 (aaK results248) rfl λS pv=>?_;conv=>whnf
 repeat'((first|refine awz ?_|refine cP (c1) ?_|refine cP (c2) ?_|refine Yb (FI n hs) [(41,41)] rfl rfl ?_|fail)<;>conv=>whnf)
 (refine X7 aN 6 (.take 0 (.take 2 (.two 1 (onc [3,4,5] (.take 6 (.one 7 .done))) 3 (.two 1 (.one 4 (.one 5 (.take 6 (.one 7 .done)))) 4 (.one 1 (.one 5 (.take 6 (.one 7 .done)))))))) [(3,9980)] wz ae ae ae ae (λRz=>?_);(conv=>whnf);intro bp0 up0;(conv=>whnf))
 repeat'((first|refine awz ?_|refine cP (xx m hr) ?_|refine aJ ao ?_|exact rZ|refine tW ?_ ?_|fail)<;>conv=>whnf)
theorem LJ(x:DNet)(hs:Yz 1048576 x):Gj av 180 [.agg x.ds] [] (x.flight.map DMsg.ds) [.sl (x.cuts.map DLink.ds)] (· =216):=by
 obtain⟨h1,h2,h3⟩:=(show x.flight.length<=1048576/\(∀y∈x.flight,Yy 1048576 y)/\x.cuts.length<=1048576 from hs);refine EQ aN func180 rfl call180 ntmps180 (aaK results180) λS=>?_;conv=>whnf
 repeat'((first|refine awz ?_|refine aJ am ?_|refine aI alW ?_|fail)<;>conv=>whnf)
 refine YG 3 0 23 216 3 ah ?_;conv=>whnf
 repeat'(first|refine awz ?_|fail)
 refine X5 (λg:Nat×Nat×List (List AD)=>g.1<=x.flight.length/\g.2.2.length=g.1/\S.w0.heap.size<=g.2.1/\Fam S.w0.heap.size g.2.1 g.2.2.flatten ((x.flight.take g.1).map DMsg.ds).flatten) (5::rg 14 12) (λg=>[(14,vI .i64 (g.1:Int))]) (λg=>[(9997,cH S.w0.heap.size g.2.1),(1,.cells 103 (x.ds.map .d)),(2,.cells 103 [.nil,.nil]),(3,.cells 103 [.own 23,.own 6]),(6,.row 218 2 (x.cuts.map DLink.ds)),(23,.row 216 3 g.2.2)]) (λg=>x.flight.length-g.1) (0,S.w0.heap.size,[]) ⟨Nat.zero_le _,rfl,Nat.le_refl _,Ya rfl⟩ ?_ sbW (λg hR=>?_)<;>(conv=>whnf)
 ·exact whd
 ·obtain⟨k,m,cs⟩:=g;obtain⟨hk,hcs,hm,hF⟩:=hR;simp only at hk hcs hm hF;repeat'((first|refine awz ?_|refine Yc ari (λhlt=>?_)|refine tW ?_ ?_|intro h)<;>conv=>whnf)
  ·(refine X7 aN 5 (.take 0 (.take 2 (.two 1 (onc [3,4,5] (.take 6 (.one 7 .done))) 3 (.two 1 (.one 4 (.one 5 (.take 6 (.one 7 .done)))) 4 (.one 1 (.one 5 (.take 6 (.one 7 .done)))))))) [(5,9980)] fJ ae ae ae ae (λRz=>?_);(conv=>whnf);intro bp0 up0;(conv=>whnf))
   repeat'((first|refine awz ?_|refine X6 (vR _ (h2 _ (List.getElem_mem hlt))) rfl rfl λR lo hi a1 a2 F=>?_|refine aJ (by simp only[hcs,List.length_cons,List.length_nil];omega) ?_|refine X3 ari ari ?_|refine tW ?_ ?_|fail)<;>conv=>whnf)
   all_goals
    have a1:m<=lo:=a1;refine bd.mk ⟨(k+1,hi,cs++[bS R 0 (DMsg.ds x.flight[k])]),⟨by simp only;omega,by simp[hcs],by simp only;omega,?_⟩,by simp only;omega,?_,sbW⟩
    ·simp only;rw[dn DMsg.ds ac];exact hF.flat_set F ac ac ac
    ·exact hds
  ·have:k=x.flight.length:=ari;subst this;rw[List.take_length]at hF;skip
   exact⟨by simp[hcs],alW,rfl,alW,S.w0.heap.size,m,Nat.le_refl _,by
    have:=hF.app (Ya (lo:=m) (hi:=m) (ds:=(x.cuts.map DLink.ds).flatten++[]) (by rw[List.append_nil];exact p7 bls)) (Nat.le_refl _) hm (Nat.le_refl _);exact this⟩
theorem IX(x:DDisk)(hs:Yp 1048576 x):Gj av 288 [.agg x.ds] [.sl (x.kept.map bM)] (x.wait.map DWrite.ds) [] (· =336):=by
 obtain⟨h1,h2,h3,h4⟩:=(show x.kept.length<=1048576/\(∀y∈x.kept,y.length<=1048576)/\x.wait.length<=1048576/\(∀y∈x.wait,Yu 1048576 y)from hs);refine EQ aN func288 rfl call288 ntmps288 (aaK results288) λS=>?_;conv=>whnf
 repeat'(first|refine awz ?_|(refine X6 (sW x.kept ⟨h1,h2⟩) rfl rfl λR1 l1 e1 a1 b1 F1=>?_;conv=>whnf)|fail)
 refine YG 3 1 26 336 2 ah ?_;conv=>whnf
 repeat'(first|refine awz ?_|fail)
 refine X5 (λg:Nat×Nat×List (List AD)=>g.1<=x.wait.length/\g.2.2.length=g.1/\e1<=g.2.1/\Fam e1 g.2.1 g.2.2.flatten ((x.wait.take g.1).map DWrite.ds).flatten) (5::rg 13 16) (λg=>[(13,vI .i64 (g.1:Int))]) (λg=>[(9997,cH S.w0.heap.size g.2.1),(1,.cells 69 (x.ds.map .d)),(2,.cells 69 [.nil,.nil]),(3,.cells 69 [.d (.x (R1 0)),.own 26]),(26,.row 336 2 g.2.2)]) (λg=>x.wait.length-g.1) (0,e1,[]) ⟨Nat.zero_le _,rfl,Nat.le_refl _,Ya rfl⟩ ?_ sbW (λg hR=>?_)<;>(conv=>whnf)
 ·exact whd
 ·obtain⟨k,m,cs⟩:=g;obtain⟨hk,hcs,hm,hF⟩:=hR;simp only at hk hcs hm hF;repeat'((first|refine awz ?_|refine Yc ari (λhlt=>?_)|refine tW ?_ ?_|intro h)<;>conv=>whnf)
  ·(refine X7 aN 5 (tkc [0,2,3,4,5] (.two 1 (onc [6,7,8,9] (.take 10 (.one 11 .done))) 6 (.two 1 (onc [7,8,9] (.take 10 (.one 11 .done))) 7 (.two 1 (.one 8 (.one 9 (.take 10 (.one 11 .done)))) 8 (.one 1 (.one 9 (.take 10 (.one 11 .done)))))))) [(5,9980)] ke ae ae ae ae (λRz=>?_);(conv=>whnf);intro bp0 up0;(conv=>whnf))
   repeat'((first|refine awz ?_|refine X6 (la _ (h4 _ (List.getElem_mem hlt))) rfl rfl λR lo hi a1 a2 F=>?_|refine aJ (by simp only[hcs,List.length_cons,List.length_nil];omega) ?_|refine X3 ari ari ?_|refine tW ?_ ?_|fail)<;>conv=>whnf)
   all_goals
    have a1:m<=lo:=a1;refine bd.mk ⟨(k+1,hi,cs++[[dI x.wait[k].at_,.x (R 0)]]),⟨by simp only;omega,by simp[hcs],by simp only;omega,?_⟩,by simp only;omega,?_,sbW⟩
    ·simp only;rw[dn DWrite.ds ac];exact hF.flat_set (Fam.app (Ya (lo:=lo) (hi:=lo) (ds:=[dI x.wait[k].at_]) rfl) F ac ac ac) ac ac ac
    ·exact hds
  ·have:k=x.wait.length:=ari;subst this;rw[List.take_length]at hF;skip
   exact⟨by simp[hcs],alW,l1,m,a1,by
    have:=F1.app hF (Nat.le_refl _) b1 hm;rw[List.append_nil,List.append_nil];exact this⟩
end Go.Proofs.YtknefkdcokgpbaaGreat
