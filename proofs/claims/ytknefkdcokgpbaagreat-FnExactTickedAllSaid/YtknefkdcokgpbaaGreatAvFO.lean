/- AvFO -/
import Derived.Test.YtknefkdcokgpbaaGreatAvPL
import Derived.Test.YtknefkdcokgpbaaGreatAvDT
import Derived.OpenShut
import Derived.Test.YtknefkdcokgpbaaGreatAvJ3
import Derived.Test.YtknefkdcokgpbaaGreatAvQ
set_option maxHeartbeats 8000000
set_option linter.unusedVariables false
set_option linter.unusedSimpArgs false
set_option maxRecDepth 100000
open List (getElem?_eq_getElem length_set)
namespace Go.Proofs.YtknefkdcokgpbaaGreat
section
open Go.RowKit
theorem bls{xs:List (List AD)}(h:∀x∈xs,x.all AD.isBl=true:=by(intro y hy;obtain⟨a,_,rfl⟩:=List.mem_map.1 hy;rfl)):∀x∈xs,x.all AD.isBl=true:=h
structure j5 (s:Nat) (xs:List (List AD)) (K:List (List AD)->List (Nat×Nat)->Prop):Prop where
 h:((∀x∈xs,x.all AD.isBl=true)/\K xs [])\/∃(lo hi:Nat) (ys:List (List AD)),Fam lo hi xs.flatten ys.flatten/\ys.length=xs.length/\(∀y∈ys,y.length=s)/\K ys [(lo,hi)]
theorem YH{s:Nat}{xs:List (List AD)}{K:List (List AD)->List (Nat×Nat)->Prop}(hb:∀x∈xs,x.all AD.isBl=true)(hk:K xs []):j5 s xs K:=⟨.inl ⟨hb,hk⟩⟩
theorem j5.fam{s:Nat}{xs ys:List (List AD)}{K:List (List AD)->List (Nat×Nat)->Prop}{lo hi:Nat}(F:Fam lo hi xs.flatten ys.flatten)(hl:ys.length=xs.length)(hs:∀y∈ys,y.length=s)(hk:K ys [(lo,hi)]):j5 s xs K:=⟨.inr ⟨lo,hi,ys,F,hl,hs,hk⟩⟩
def Az(ob:List (Nat×AO)):List AC->List Nat->(List AD->List (Option (List (List AD)))->List (Nat×Nat)->Prop)->Prop
 |[],_,K=>K [] [] []
 | .own id::r,L,K=>match inL L id with
  |true=>False
  |false=>aOb ob id λo=>match o with
   | .row _ s xs=>j5 s xs λys iv=>Az ob r (id::L) λcs p IV=>K cs (some ys::p) (iv++IV)
   |_=>False
 | .d x::r,L,K=>Az ob r L λcs p IV=>K (x::cs) (none::p) IV
 | .nil::r,L,K=>Az ob r L λcs p IV=>K (.sl []::cs) (none::p) IV
 |_::_,_,_=>False
def ivD(a:Nat×Nat):List (Nat×Nat)->Prop
 |[]=>True
 |b::r=>(a.2<=b.1\/b.2<=a.1)/\ivD a r
def ivs(n:Nat):List (Nat×Nat)->Prop
 |[]=>True
 |a::r=>n<=a.1/\ivD a r/\ivs n r
def Ah(Z:Nat->Prop)(IV:List (Nat×Nat))(b:Nat):Prop:=∃a∈IV,a.1<=b/\b<a.2/\Z b
theorem G8{a:Nat×Nat}{Z:Nat->Prop}{b:Nat}(h1:a.1<=b)(h2:b<a.2):∀{IV:List (Nat×Nat)},ivD a IV->¬Ah Z IV b
 |[],_,⟨x,hx,_⟩=>by cases hx
 |c::r,hd,⟨x,hx,e1,e2,hz⟩=>by
  rcases List.mem_cons.1 hx with rfl|hx
  ·rcases hd.1 with h|h<;>omega
  ·exact G8 h1 h2 hd.2 ⟨x,hx,e1,e2,hz⟩
def I5:List (Option (List (List AD)))->List AD->List AD
 |[],_=>[]
 |some xs::p,ds=> .sl xs::I5 p ds
 |none::p,d::ds=>d::I5 p ds
 |none::_,[]=>[]
section
variable {E:bB} {S:bV} {Z:Nat->Prop} {ρ:Nat->Value} {w:World} {ob:List (Nat×AO)}
theorem Fr(h:WS E.W S Z w ρ ob){id s lo hi:Nat}{e:TypeId}{xs ys:List (List AD)}(ho:bA ob id=some (.row e s xs))(hf:Fam lo hi xs.flatten ys.flatten)(hyl:ys.length=xs.length)(hys:∀y∈ys,y.length=s):bW w (λb=>bQ (ρ id)=some b\/(lo<=b/\b<hi/\Z b)) (.sl ys) (ρ id):=by
 obtain⟨us,h0,hl,hxs,hus,hown,hd⟩:=h.obj id _ ho;have hlx:xs.flatten.length=xs.length*s:=eh hxs;obtain⟨lF,Q,q,eQ,rQ⟩:=hf.2 Z w us.flatten (by rw[eh hus,hlx,hl]) λi c u hc hu=>by
  have hi:i<xs.length*s:=by rw[<-hlx];exact(List.getElem?_eq_some_iff.1 hc).1
  have hs:0<s:=h0;have hdm:i=i/s*s+i % s:=(Nat.div_add_mod' i s).symm;have hr:i % s<s:=Nat.mod_lt _ hs;have hk:i/s<xs.length:=Nat.div_lt_of_lt_mul (by rw[Nat.mul_comm];exact hi);rw[hdm,dy hxs (List.getElem?_eq_getElem hk) hr]at hc;rw[hdm,dy hus (List.getElem?_eq_getElem ac) hr]at hu;exact hd _ _ _ _ c u (List.getElem?_eq_getElem hk) (List.getElem?_eq_getElem ac) hc hu
 refine .sl _ ys e s us _ Q h0 (by rw[hl,hyl]) hys hus (by rw[hyl];exact hown) (λb hb=>?_) (λi b hb=> .inr (q i b hb)) eQ rQ;exact⟨.inl hb,λi hq=>(h.mine id _ b ho hb).1 (q i b hq).2.2⟩
theorem p7{xs:List (List AD)}(h:∀x∈xs,x.all AD.isBl=true):xs.flatten.all AD.isBl=true:=by
 rw[List.all_eq_true];intro a ha;obtain⟨x,hx,hax⟩:=List.mem_flatten.1 ha;exact List.all_eq_true.1 (h x hx) a hax
def H3(ρ:Nat->Value)(ob:List (Nat×AO))(L:List Nat)(b:Nat):Prop:=∃id o,inL L id=false/\bA ob id=some o/\bQ (ρ id)=some b
theorem pc{L:List Nat}{i j:Nat}(h:inL (i::L) j=false):inL L j=false/\j≠i:=by
 simp only[inL,List.contains_cons,Bool.or_eq_false_iff,beq_eq_false_iff_ne]at h;exact⟨h.2,h.1⟩
theorem wS(h:WS E.W S Z w ρ ob):∀{cs:List AC} {us:List Value} {L:List Nat} {K:List AD->List (Option (List (List AD)))->List (Nat×Nat)->Prop},us.length=cs.length->(∀(i:Nat) c u,cs[i]? =some c->us[i]? =some u->dW Z w ρ c u)->Az ob cs L K->
  ∃cs' pat us' IV,K cs' pat IV/\us'.length=cs'.length/\(∀(i:Nat) c u,cs'[i]? =some c->us'[i]? =some u->bR Z w c u)/\∀(n:Nat) (P:Nat->Prop) ds,ivs n IV->cV w P ds us'->(∀b,P b->Z b/\¬Ah Z IV b)->cV w (λb=>P b\/H3 ρ ob L b\/Ah Z IV b) (I5 pat ds) us
 |[],[],L,K,_,_,hk=>⟨[],[],[],[],hk,rfl,by simp,λn P ds _ hf _=>by
   have:ds=[]:=List.eq_nil_of_length_eq_zero (by simpa using hf.1.symm);subst this;exact cV.nil⟩
 |[],_::_,_,_,hl,_,_=>by simp at hl
 |_::_,[],_,_,hl,_,_=>by simp at hl
 |c::r,u::us,L,K,hl,hr,hk=>by
  have hl':us.length=r.length:=by simpa using hl
  have hr':∀(i:Nat) c u,r[i]? =some c->us[i]? =some u->dW Z w ρ c u:=λi x y h1 h2=>hr (i+1) x y (by simpa using h1) (by simpa using h2);have h0:dW Z w ρ c u:=hr 0 c u rfl rfl;have data:∀x:AD,bR Z w x u->(Az ob r L λcs p IV=>K (x::cs) (none::p) IV)->∃cs' pat us' IV,K cs' pat IV/\us'.length=cs'.length/\(∀(i:Nat) c u,cs'[i]? =some c->us'[i]? =some u->bR Z w c u)/\∀(n:Nat) (P:Nat->Prop) ds,ivs n IV->cV w P ds us'->(∀b,P b->Z b/\¬Ah Z IV b)->cV w (λb=>P b\/H3 ρ ob L b\/Ah Z IV b) (I5 pat ds) (u::us):=λx hx hk=>by
   obtain⟨cs',pat,us',IV,hK,h1,h2,h3⟩:=wS h hl' hr' hk;refine⟨x::cs',none::pat,u::us',IV,hK,by simp[h1],λi y v e1 e2=>?_,λn P ds hiv hf hP=>?_⟩
   ·cases i with
    |zero=>simp at e1 e2;subst e1 e2;exact hx
    |succ i=>exact h2 i y v (by simpa using e1) (by simpa using e2)
   ·cases ds with
    |nil=>have:=hf.1;simp at this
    |cons d ds=>
     obtain⟨u1,u2,P1,P2,eu,dj,a1,a2,f1,f2⟩:=cV.split (d1:=[d]) (d2:=ds) hf;have hu1:u1=[u]/\u2=us':=by
      have:=f1.1;match u1,this with
      |[y],_=>injection eu with e1 e2;exact⟨by rw[e1],e2.symm⟩
     obtain⟨rfl,rfl⟩:=hu1;have:=cV.append (P:=λb=>P b\/H3 ρ ob L b\/Ah Z IV b) f1 (h3 n P2 ds hiv f2 λb hb=>hP b (a2 b hb)) (λb q1 q2=>by
      rcases q2 with q2|⟨id,o,_,ho,hb⟩|q2
      ·exact dj b q1 q2
      ·exact(h.mine id o b ho hb).1 (hP b (a1 b q1)).1
      ·exact(hP b (a1 b q1)).2 q2) (λb q=> .inl (a1 b q)) (λb q=>q.imp (a2 b) id)
     simpa[I5]using this
  cases c with
  |own id=>
   simp only[Az]at hk;split at hk
   ·exact hk.elim
   ·rename_i hin;obtain⟨o,ho,hk⟩:=co hk;split at hk
    ·rename_i e s xs;have hu:u=ρ id:=h0.1;subst hu;rcases hk.h with⟨hb,hk⟩|⟨lo,hi,ys,hF,hyl,hys,hk⟩
     ·obtain⟨cs',pat,us',IV,hK,h1,h2,h3⟩:=wS h hl' hr' hk;refine⟨cs',some xs::pat,us',IV,hK,h1,h2,λn P ds hiv hf hP=>?_⟩;have hxs:=(h.obj id _ ho).choose_spec.2.2.1;have hrel:=Fr (lo:=0) (hi:=0) h ho (Ya (p7 hb)) rfl hxs;have:=cV.append (P:=λb=>P b\/H3 ρ ob L b\/Ah Z IV b) (cV.one hrel) (h3 n P ds hiv hf hP) (λb q1 q2=>by
       rcases q1 with q1|q1
       ·rcases q2 with q2|⟨id2,o2,hin2,ho2,hb2⟩|⟨_,_,_,_,q2⟩
        ·exact(h.mine id _ b ho q1).1 (hP b q2).1
        ·exact h.sep id2 id o2 _ b ho2 ho (pc hin2).2 hb2 q1
        ·exact(h.mine id _ b ho q1).1 q2
       ·omega) (λb q=>by
       rcases q with q|q
       ·exact .inr (.inl ⟨id,_,hin,ho,q⟩)
       ·omega) (λb q=>q.imp (λh=>h) λq=>q.imp (fun⟨id2,o2,a,b,c⟩=>⟨id2,o2,(pc a).1,b,c⟩) λh=>h)
      simpa[I5]using this
     ·obtain⟨cs',pat,us',IV,hK,h1,h2,h3⟩:=wS h hl' hr' hk;refine⟨cs',some ys::pat,us',(lo,hi)::IV,hK,h1,h2,λn P ds hiv hf hP=>?_⟩;have inr:∀b,Ah Z IV b->Ah Z ((lo,hi)::IV) b:=λb ⟨a,ha,q⟩=>⟨a,by simp[ha],q⟩;have hrel:=Fr h ho hF hyl hys;have:=cV.append (P:=λb=>P b\/H3 ρ ob L b\/Ah Z ((lo,hi)::IV) b) (cV.one hrel) (h3 n P ds hiv.2.2 hf λb hb=>⟨(hP b hb).1,λq=>(hP b hb).2 (inr b q)⟩) (λb q1 q2=>by
       rcases q1 with q1|⟨q1,q1',q1z⟩
       ·rcases q2 with q2|⟨id2,o2,hin2,ho2,hb2⟩|⟨_,_,_,_,q2⟩
        ·exact(h.mine id _ b ho q1).1 (hP b q2).1
        ·exact h.sep id2 id o2 _ b ho2 ho (pc hin2).2 hb2 q1
        ·exact(h.mine id _ b ho q1).1 q2
       ·rcases q2 with q2|⟨id2,o2,hin2,ho2,hb2⟩|q2
        ·exact(hP b q2).2 ⟨(lo,hi),by simp,q1,q1',q1z⟩
        ·exact(h.mine id2 _ b ho2 hb2).1 q1z
        ·exact G8 q1 q1' hiv.2.1 q2) (λb q=>by
       rcases q with q|q
       ·exact .inr (.inl ⟨id,_,hin,ho,q⟩)
       ·exact .inr (.inr ⟨(lo,hi),by simp,q⟩)) (λb q=>q.imp (λh=>h) λq=>q.imp (fun⟨id2,o2,a,b,c⟩=>⟨id2,o2,(pc a).1,b,c⟩) (inr b))
      simpa[I5]using this
    ·exact hk.elim
  |d x=>exact data x h0 hk
  |nil=>
   have hu:u= .slice none 0 0:=h0;exact data (.sl []) (by rw[hu];exact .sl [] none 0 0 [] (Nat.le_refl _) (Nat.zero_le _) rfl aj aj (.inl rfl) aj) hk
  |_=>exact hk.elim
theorem MW{n:Nat}{Z:Nat->Prop}{b:Nat}:∀{IV:List (Nat×Nat)},ivs n IV->Ah Z IV b->n<=b/\Z b
 |[],_,⟨_,h,_⟩=>by cases h
 |a::r,hi,⟨x,hx,e1,e2,hz⟩=>by
  rcases List.mem_cons.1 hx with rfl|hx
  ·exact⟨Nat.le_trans hi.1 e1,hz⟩
  ·exact MW hi.2.2 ⟨x,hx,e1,e2,hz⟩
end
def ME(ob:List (Nat×AO))(n:Nat)(x:AV)(res:AP1):Prop:=
 match x with
 | .agg cs=>Az ob cs [] λcs' pat IV=>∃(lo hi:Nat) (ds:List AD),ivs n ((lo,hi)::IV)/\Fam lo hi cs' ds/\res= .agg (I5 pat ds)
 |_=>False
def Ie(E:bB)(st:ASt)(n:Nat)(rs:List ResultVar)(res:AP1):Prop:=
 match rs with
 |[.tmp t]=>aTm st.tm t λv=>ME st.ob n v res
 |[.cell t ty]=>aTm st.tm t λx=>rS E st ty x λv=>ME st.ob n v res
 |_=>False
def Wt(E:bB)(rs:List ResultVar)(n:Nat)(res:AP1):Exit->ASt->Prop
 | .ret,st=>Ie E st n rs res
 | .normal,st=>Ie E st n rs res
 |_,_=>False
section
variable {E:bB} {S:bV}
theorem Ep{st:ASt}{Z:Nat->Prop}{ρ:Nat->Value}{w:World}(h:WS E.W S Z w ρ st.ob)(hO:∀b,¬S.O b){x:AV}{v:Value}{res:AP1}(hv:bX Z w ρ x v)(hk:ME st.ob S.w0.heap.size x res):zH S.w0.heap.size w.heap.size w res v:=by
 unfold ME at hk;split at hk
 ·cases hv with
  |agg _ us hl hr=>
   obtain⟨cs',pat,us',IV,⟨lo,hi,ds,hiv,hf,rfl⟩,h1,h2,h3⟩:=wS h hl hr hk;refine⟨us,rfl,(h3 _ _ ds hiv.2.2 (hf.2 Z w us' h1 h2) λb hb=>⟨hb.2.2,G8 hb.1 hb.2.1 hiv.2.1⟩).mono λb hb=>?_⟩;rcases hb with hb|⟨id,o,_,ho,hbk⟩|hb
   ·exact⟨Nat.le_trans hiv.1 hb.1,h.zlt b hb.2.2⟩
   ·exact⟨(h.mine id o b ho hbk).2.resolve_right (hO b),h.lt ho hbk⟩
   ·have:=MW hiv.2.2 hb;exact⟨this.1,h.zlt b this.2⟩
 ·exact hk.elim
theorem NI{st:ASt}(he:E.Ok){Z:Nat->Prop}{ρ:Nat->Value}{a:Act}{w:World}(h:Sim E.W S Z ρ st a w)(hO:∀b,¬S.O b){fn:Func}{res:AP1}(hk:Ie E st S.w0.heap.size fn.results.toList res):
  ∃v,(results fn a.tmps).run E.P w= .ok v w/\zH S.w0.heap.size w.heap.size w res v:=by
 have hres:∀vs:List Value,(fn.results.toList.mapM (dZ a.tmps)).run E.P w= .ok vs w->(results fn a.tmps).run E.P w= .ok (if h:vs.toArray.size=1 then vs.toArray[0]else .tuple vs.toArray) w:=by
  intro vs hvs;have e:results fn a.tmps=(do let vs<-fn.results.mapM (dZ a.tmps);pure (if h:vs.size=1 then vs[0]else .tuple vs)):=rfl;rw[e,Sem.run_bind,Array.mapM_eq_mapM_toList,Sem.run_map,hvs];rfl
 unfold Ie at hk;split at hk
 ·rename_i t hr;obtain⟨x,hx,hk⟩:=iY hk;have hlt:t<a.tmps.size:=by rw[h.len];exact(List.getElem?_eq_some_iff.1 hx).1
  have hp:=Ep h.ws hO (h.tm t x _ hx (Array.getElem?_eq_getElem hlt)) hk;have h1:(dZ a.tmps (.tmp t)).run E.P w= .ok a.tmps[t] w:=by simp[dZ,hlt]
  have:=hres [a.tmps[t]] (by rw[hr,List.mapM_cons,Sem.run_bind,h1];rfl);exact⟨a.tmps[t],this,hp⟩
 ·rename_i t ty hr;obtain⟨x,hx,hk⟩:=iY hk;have hlt:t<a.tmps.size:=by rw[h.len];exact(List.getElem?_eq_some_iff.1 hx).1
  obtain⟨b,off,v,y,e,hrl,hy,hk⟩:=pg he h (h.tm t x _ hx (Array.getElem?_eq_getElem hlt)) hk;have hp:=Ep h.ws hO hy hk;have h1:(dZ a.tmps (.cell t ty)).run E.P w= .ok v w:=by simp[dZ,hlt,e,asAddr,hrl]
  have:=hres [v] (by rw[hr,List.mapM_cons,Sem.run_bind,h1];rfl);exact⟨v,this,hp⟩
 ·exact hk.elim
theorem cL(he:E.Ok){f:FuncId}{fn:Func}{c:Code}{n:Nat}{rs:List ResultVar}{args:List AP1}{res:AP1}(hf:E.P.funcs[f]? =some fn)(hb:fn.body=some c)
  (enter:∀(us:Array Value) w,(callFunc f us).run E.P w= .ok (.enter f us) w) (hn:fn.ntmps=n) (hrs:fn.results.toList=rs)
  (h:∀S:bV,uS args n λtm=>AWP E S c (Wt E rs S.w0.heap.size res) ⟨tm,[(9997,cH S.w0.heap.size S.w0.heap.size)]⟩):ce E f args res:=by
 refine⟨enter,λZ w us hz hg hl hr=>?_⟩;subst hn hrs;obtain⟨hle,hk⟩:=jL (h ⟨w,λ_=>False,Z⟩);have hs:Sim E.W ⟨w,λ_=>False,Z⟩ Z (λ_=>undef) ⟨args.map AP1.v++List.replicate (fn.ntmps-args.length) (.one .und),[(9997,cH w.heap.size w.heap.size)]⟩ {tmps:=us.toArray++Array.replicate (fn.ntmps-us.toArray.size) undef,defers:=[]} w:=by
  have hw0:WS E.W ⟨w,λ_=>False,Z⟩ Z w (λ_=>undef) []:=⟨rfl,rfl,rfl,Nat.le_refl _,λ_ _ _=>rfl,hz,λid o b ho _=>(by cases ho),λi j oi oj b hi _ _ _ _=>(by cases hi),λid o ho=>(by cases ho),jI.nil,hg,λb hb=>hb,λb hb=> .inl hb⟩;refine⟨hw0.reframe (id:=9997) (je rfl (.inl (Nat.le_refl _))),by simp[hl],λi x v hx hv=>?_,rfl⟩;simp only at hx hv;have hv':(us++List.replicate (fn.ntmps-us.length) undef)[i]? =some v:=by
   have:=hv;rw[<-Array.getElem?_toList]at this;simpa using this
  by_cases hi:i<us.length
  ·rw[List.getElem?_append_left (by simpa[hl]using hi),List.getElem?_map]at hx;obtain⟨p,hp,rfl⟩:=Option.map_eq_some_iff.1 hx;rw[List.getElem?_append_left hi]at hv';exact(hr i p v hp hv').v
  ·rw[List.getElem?_append_right al]at hx;rw[List.getElem?_append_right ac]at hv';have e1:=List.eq_of_mem_replicate (List.mem_of_getElem? hx);have e2:=List.eq_of_mem_replicate (List.mem_of_getElem? hv');subst e1 e2;exact .one _ _ (show dW Z w (λ_=>undef) .und undef from rfl)
 refine calls_of_wp hf hb (wp_mono (hk.run _ w ⟨Z,_,hs⟩) λe a' w' h'=>?_);obtain⟨st',⟨Z',ρ',hs'⟩,hk'⟩:=h';have fin:Ie E st' w.heap.size fn.results.toList res->a'.defers=[]/\∃v,(results fn a'.tmps).run E.P w'= .ok v w'/\∃v0,Ending.returned v= .returned v0/\Below w.heap.size w w'/\zH w.heap.size w'.heap.size w' res v0:=by
  intro hr;obtain⟨v,h1,h2⟩:=NI he hs' (λb h=>h) hr;exact⟨hs'.df,v,h1,v,rfl,⟨hs'.ws.os,hs'.ws.tape,hs'.ws.output,hs'.ws.size,λb hb=>hs'.ws.old b hb (λh=>h)⟩,h2⟩
 cases e with
 |normal=>exact fin hk'
 |ret=>exact fin hk'
 |_=>exact hk'.elim
end
end
section
open Go.RowKit
structure du (P:Nat->Prop) (w w':World):Prop where
 os:w'.os=w.os
 tape:w'.tape=w.tape
 output:w'.output=w.output
 size:w'.heap.size=w.heap.size
 block:∀b,¬P b->w'.heap[b]? =w.heap[b]?
section
variable {P P':Nat->Prop} {w w1 w':World}
theorem du.refl(P:Nat->Prop)(w:World):du P w w:=⟨rfl,rfl,rfl,rfl,λ_ _=>rfl⟩
theorem du.trans(h:du P w w1)(h':du P w1 w'):du P w w':=⟨h'.os.trans h.os,h'.tape.trans h.tape,h'.output.trans h.output,h'.size.trans h.size,λb hb=>(h'.block b hb).trans (h.block b hb)⟩
theorem du.mono(h:du P w w')(hp:∀b,P b->P' b):du P' w w':=⟨h.os,h.tape,h.output,h.size,λb hb=>h.block b λhq=>hb (hp b hq)⟩
theorem du.setCell{a:Addr}(ha:P a.block)(u:Value):du P w (w.setCell a u):=⟨rfl,rfl,rfl,by simp[World.setCell],λb hb=>Below.heap_setCell _ _ _ _ (λe=>hb (e▸ha))⟩
theorem du.below{B:Nat}(h:du P w w')(hp:∀b,P b->B<=b):Below B w w':=⟨h.os,h.tape,h.output,by rw[h.size];exact Nat.le_refl _,λk hk=>h.block k λhq=>by have:=hp k hq;omega⟩
end
theorem cV.set{w:World}{P:Nat->Prop}{x:List AD}{us:List Value}(h:cV w P x us){c:Nat}{u:Value}(h1:u.oneCell'=true):cV w P (x.set c (.pv u)) (us.set c u):=by
 obtain⟨l,Q,q,e,r⟩:=h;refine⟨by simp[l],Q,q,e,λi a y ha hy=>?_⟩;rw[List.getElem?_set]at ha hy;by_cases hi:c=i
 ·subst hi;simp only[if_true]at ha hy;split at ha
  ·split at hy
   ·injection ha with ha;injection hy with hy;subst ha hy;exact .pv _ _ h1
   ·cases hy
  ·cases ha
 ·rw[if_neg hi]at ha hy;exact r i a y ha hy
structure El (w0:World) (b o s:Nat) (Q:Nat->Prop) (w:World) (x:List AD) (us:List Value):Prop where
 len:us.length=s
 fam:cV w Q x us
 cell:∀(c:Nat) u,us[c]? =some u->w.cell? ⟨b,o+c,none⟩=some u
 oth:∀o',(o'<o\/o+s<=o')->w.cell? ⟨b,o',none⟩=w0.cell? ⟨b,o',none⟩
 row:∃cur cur' t,w0.heap[b]? =some (.cells cur t (0,0))/\w.heap[b]? =some (.cells cur' t (0,0))/\cur'.size=cur.size
 turn:du (λg=>g=b\/Q g) w0 w
 nb:¬Q b
section
variable {w0 w:World} {b o s:Nat} {Q:Nat->Prop} {x:List AD} {us:List Value}
theorem El.frozen(h:El w0 b o s Q w x us)(o':Nat):w.frozen? ⟨b,o',none⟩=false:=by
 obtain⟨cur,cur',t,_,h2,_⟩:=h.row;simp[World.frozen?,h2]
theorem El.set(h:El w0 b o s Q w x us){c:Nat}(hc:c<s)(u:Value)(h1:u.oneCell'=true):El w0 b o s Q (w.setCell ⟨b,o+c,none⟩ u) (x.set c (.pv u)) (us.set c u):=by
 have hlt:c<us.length:=by rw[h.len];exact hc
 obtain⟨cur,cur',t,r1,r2,r3⟩:=h.row;refine⟨by simp[h.len],?_,λc' y hy=>?_,λo' ho=>?_,⟨cur,cur'.setIfInBounds (o+c) u,t,r1,by simp[World.setCell,Array.getElem?_modify,r2],by simp[r3]⟩,h.turn.trans (du.setCell (.inl rfl) u),h.nb⟩
 ·exact cV.set (h.fam.keep λg hg=>Below.heap_setCell w ⟨b,o+c,none⟩ u g (λe=>h.nb (by have e2:g=b:=e;subst e2;exact hg))) h1
 ·rw[List.getElem?_set]at hy;by_cases hcc:c=c'
  ·subst hcc;rw[if_pos rfl,if_pos hlt]at hy;injection hy with hy
   subst hy;exact World.cell?_setCell_same _ _ _ (h.cell c _ (getElem?_eq_getElem hlt))
  ·rw[if_neg hcc]at hy;exact(World.cell?_setCell_other _ _ _ _ (by intro e;injection e;omega)).trans (h.cell c' y hy)
 ·exact(World.cell?_setCell_other _ _ _ _ (by intro e;injection e;omega)).trans (h.oth o' ho)
theorem El.sub(h:El w0 b o s Q w x us){c:Nat}{a:AD}{u:Value}(ha:x[c]? =some a)(hu:us[c]? =some u):
  ∃Qc,(∀g,Qc g->Q g)/\bW w Qc a u/\∀w' a',du Qc w w'->bW w' Qc a' u->El w0 b o s Q w' (x.set c a') us:=by
 obtain⟨l,R,q,e,r⟩:=h.fam;refine⟨R c,q c,r c a u ha hu,λw' a' ht hr=>?_⟩;have hb:w'.heap[b]? =w.heap[b]? :=ht.block b λhq=>h.nb (q c b hq);have hcell:∀o',w'.cell? ⟨b,o',none⟩=w.cell? ⟨b,o',none⟩:=λo'=>World.cell?_of_block (a:=⟨b,o',none⟩) hb;obtain⟨cur,cur',t,r1,r2,r3⟩:=h.row;refine⟨h.len,⟨by simp[l],R,q,e,λi a2 y h1 h2=>?_⟩,λc' y hy=>(hcell _).trans (h.cell c' y hy),λo' ho=>(hcell _).trans (h.oth o' ho),⟨cur,cur',t,r1,hb.trans r2,r3⟩,h.turn.trans (ht.mono λg hg=> .inr (q c g hg)),h.nb⟩;rw[List.getElem?_set]at h1;by_cases hi:c=i
 ·subst hi;rw[hu]at h2;injection h2 with h2
  subst h2;rw[if_pos rfl]at h1;split at h1
  ·injection h1 with h1;subst h1;exact hr
  ·cases h1
 ·rw[if_neg hi]at h1;exact(r i a2 y h1 h2).keep λg hg=>ht.block g λhq=>hi (e _ _ g hq hg)
end
theorem bW.lens{w:World}{P:Nat->Prop}{xs:List (List AD)}{v:Value}(h:bW w P (.sl xs) v){j:Nat}{x:List AD}(hj:xs[j]? =some x):
  ∃(b off cap:Nat) (us:List Value) (Q:Nat->Prop),v= .slice (some ⟨b,off,none⟩) xs.length cap/\P b/\(∀g,Q g->P g)/\El w b (off+j*x.length) x.length Q w x us/\
   ∀w' x' us',El w b (off+j*x.length) x.length Q w' x' us'->bW w' P (.sl (xs.set j x')) v:=by
 have hjl:j<xs.length:=(List.getElem?_eq_some_iff.1 hj).1;cases h with
 |emp P A cap hm=>simp at hj
 |sl P xs e s us v R hs hl hx hu hown hb hQ hd hh=>
  have hxs:x.length=s:=hx x (List.mem_of_getElem? hj);have hju:j<us.length:=ac;have hus:us[j].length=s:=hu _ (List.getElem_mem hju);rcases hown.2 with⟨_,hn⟩|⟨g,cap,cur,rfl,_,hg,h1,h2,h3,h4⟩
  ·omega
  have hfl:us.flatten.length=us.length*s:=eh hu;have hcell:∀(i:Nat) y,us.flatten[i]? =some y->w.cell? ⟨g,i,none⟩=some y:=λi y hy=>lO hown rfl hy;rw[hxs];refine⟨g,0,cap,us[j],λb=>∃r,r<s/\R (j*s+r) b,rfl,(hb g rfl).1,λb ⟨r,_,hr⟩=>hQ _ b hr,⟨hus,⟨by rw[hus,hxs],λr b=>r<s/\R (j*s+r) b,λr b hr=>⟨r,hr⟩,λi i' b p q=>by have:=hd _ _ b p.2 q.2;omega,λr a y ha hy=>?_⟩,λc y hy=>?_,λ_ _=>rfl,⟨cur,cur,e,hg,hg,rfl⟩,du.refl _ _,fun⟨r,_,hr⟩=>(hb g rfl).2 _ hr⟩,λw' x' us' hel=>?_⟩
  ·have hr:r<s:=by rw[<-hxs];exact(List.getElem?_eq_some_iff.1 ha).1
   exact(hh (j*s+r) a y (by rw[dy hx hj hr];exact ha) (by rw[dy hu (getElem?_eq_getElem hju) hr];exact hy)).mono λb hb=>⟨hr,hb⟩
  ·have hr:c<s:=by rw[<-hus];exact(List.getElem?_eq_some_iff.1 hy).1
   rw[Nat.zero_add];exact hcell _ _ (by rw[dy hu (getElem?_eq_getElem hju) hr];exact hy)
  ·obtain⟨c1,c2,t,r1,r2,r3⟩:=hel.row;rw[hg]at r1;injection r1 with r1
   injection r1 with e1 e2 e3
   subst e1 e2;obtain⟨lF,R',q',d',f'⟩:=hel.fam;have hx':x'.length=s:=by rw[<-lF,hel.len]
   have hx2:∀y∈xs.set j x',y.length=s:=λy hy=>by rcases List.mem_or_eq_of_mem_set hy with hy|rfl;exact hx y hy;exact hx'
   have hu2:∀y∈us.set j us',y.length=s:=λy hy=>by rcases List.mem_or_eq_of_mem_set hy with hy|rfl;exact hu y hy;exact hel.len
   have hl2:(us.set j us').flatten.length=us.length*s:=by rw[eh hu2,length_set]
   have hc2:∀i:Nat,i<us.length*s->w'.cell? ⟨g,i,none⟩=(us.set j us').flatten[i]? :=by
    intro i hi;have hdm:i=i/s*s+i % s:=(Nat.div_add_mod' i s).symm;have hr:i % s<s:=Nat.mod_lt _ hs;have hk:i/s<us.length:=Nat.div_lt_of_lt_mul (by rw[Nat.mul_comm];exact hi);by_cases hij:i/s=j
    ·have e1:(us.set j us')[i/s]? =some us':=by rw[hij];simp[hju]
     obtain⟨y,hy⟩:∃y,us'[i % s]? =some y:=⟨_,getElem?_eq_getElem (by rw[hel.len];exact hr)⟩;have h5:=hel.cell (i % s) y hy;rw[Nat.zero_add,<-hij,<-hdm]at h5;rw[h5];conv=>rhs;rw[hdm]
     rw[dy hu2 e1 hr,hy]
    ·have e1:(us.set j us')[i/s]? =some us[i/s]:=by rw[List.getElem?_set_ne (λe=>hij e.symm)];exact getElem?_eq_getElem hk
     have hne:i<0+j*s\/0+j*s+s<=i:=by
      rcases Nat.lt_or_gt_of_ne hij with h|h
      ·left;have:(i/s+1)*s<=j*s:=Nat.mul_le_mul_right s h;rw[Nat.add_mul]at this;omega
      ·right;have:(j+1)*s<=i/s*s:=Nat.mul_le_mul_right s h;rw[Nat.add_mul]at this;omega
     rw[hel.oth i hne];have h5:=hcell i us.flatten[i] (getElem?_eq_getElem (by rw[hfl];exact hi));rw[h5,<-getElem?_eq_getElem (by rw[hfl];exact hi)];conv=>lhs;rw[hdm]
     conv=>rhs;rw[hdm]
     rw[dy hu2 e1 hr,dy hu (getElem?_eq_getElem hk) hr]
   have hown':w'.ownsRow 0 e s (.slice (some ⟨g,0,none⟩) xs.length cap) (xs.set j x').length (us.set j us').flatten:=by
    refine⟨by rw[hl2,hl,length_set],.inr ⟨g,cap,c2,by rw[length_set],Nat.zero_le _,r2,by rw[length_set];exact h1,h2,by rw[r3];exact h3,?_⟩⟩;apply List.ext_getElem?;intro i;rw[List.getElem?_take,length_set];by_cases hi:i<xs.length*s
    ·rw[if_pos hi,<-hc2 i (by rw[hl];exact hi),cell_of_row w' g i c2 e (0,0) r2,Array.getElem?_toList]
    ·rw[if_neg hi,List.getElem?_eq_none (by rw[hl2,hl];omega)]
   have:=bW.sl (w:=w') P (xs.set j x') e s (us.set j us') (.slice (some ⟨g,0,none⟩) xs.length cap) (λi b=>if j*s<=i/\i<j*s+s then R' (i-j*s) b else R i b) hs (by simp[hl]) hx2 hu2 hown' ?_ ?_ ?_ ?_
   ·exact this
   ·intro b hbb;refine⟨(hb b hbb).1,λi hi=>?_⟩;split at hi
    ·obtain⟨r,_,hr⟩:=q' _ b hi;exact(hb b hbb).2 _ hr
    ·exact(hb b hbb).2 _ hi
   ·intro i b hi;split at hi
    ·obtain⟨r,_,hr⟩:=q' _ b hi;exact hQ _ b hr
    ·exact hQ _ b hi
   ·intro i i' b hi hi';split at hi<;>split at hi'
    ·have:=d' _ _ b hi hi';omega
    ·obtain⟨r,hr0,hr⟩:=q' _ b hi;have:=hd _ _ b hr hi';omega
    ·obtain⟨r,hr0,hr⟩:=q' _ b hi';have:=hd _ _ b hr hi;omega
    ·exact hd _ _ b hi hi'
   ·intro i a y ha hy;have hi:i<xs.length*s:=by
     have:=(List.getElem?_eq_some_iff.1 ha).1;rwa[eh hx2,length_set]at this
    have hdm:i=i/s*s+i % s:=(Nat.div_add_mod' i s).symm;have hr:i % s<s:=Nat.mod_lt _ hs;have hk:i/s<xs.length:=Nat.div_lt_of_lt_mul (by rw[Nat.mul_comm];exact hi);by_cases hij:i/s=j
    ·have e1:(us.set j us')[i/s]? =some us':=by rw[hij];simp[hju]
     have e2:(xs.set j x')[i/s]? =some x':=by rw[hij];simp[hjl]
     rw[hdm,dy hx2 e2 hr]at ha;rw[hdm,dy hu2 e1 hr]at hy;have hin:j*s<=i/\i<j*s+s:=by rw[<-hij];omega
     simp only[if_pos hin];rw[show i-j*s=i % s by rw[<-hij];omega];exact f' _ a y ha hy
    ·have hne:¬(j*s<=i/\i<j*s+s):=by
      rcases Nat.lt_or_gt_of_ne hij with h|h
      ·have:(i/s+1)*s<=j*s:=Nat.mul_le_mul_right s h;rw[Nat.add_mul]at this;omega
      ·have:(j+1)*s<=i/s*s:=Nat.mul_le_mul_right s h;rw[Nat.add_mul]at this;omega
     have e1:(us.set j us')[i/s]? =some us[i/s]:=by rw[List.getElem?_set_ne (λe=>hij e.symm)];exact getElem?_eq_getElem ac
     have e2:(xs.set j x')[i/s]? =some xs[i/s]:=by rw[List.getElem?_set_ne (λe=>hij e.symm)];exact getElem?_eq_getElem hk
     rw[hdm,dy hx2 e2 hr,<-dy hx (getElem?_eq_getElem hk) hr,<-hdm]at ha;rw[hdm,dy hu2 e1 hr,<-dy hu (getElem?_eq_getElem ac) hr,<-hdm]at hy;simp only[if_neg hne];refine(hh i a y ha hy).keep λb hRb=>hel.turn.block b ?_;rintro(rfl|⟨r,hr0,hr'⟩)
     ·exact(hb _ rfl).2 _ hRb
     ·have:=hd _ _ b hRb hr';omega
theorem bW.form{w:World}{P:Nat->Prop}{xs:List (List AD)}{v:Value}(h:bW w P (.sl xs) v):∃A cap,v= .slice A xs.length cap/\xs.length<=cap/\cap<=maxLen:=by
 cases h with
 |emp P A cap hm=>exact⟨A,cap,rfl,Nat.zero_le _,hm⟩
 |sl P xs e s us v Q hs hl hx hu hown hb hQ hd h=>
  rcases hown.2 with⟨hv,hn⟩|⟨g,cap,cur,hv,_,hg,h1,h2,h3,h4⟩
  ·exact⟨none,0,by rw[hv,hn],ac,Nat.zero_le _⟩
  ·exact⟨_,cap,hv,h1,h2⟩
def j6(k:Int)(P:Nat->Prop)(w:World)(G:World->Prop)(e:Ending)(w':World):Prop:=e= .returned (.int .i64 k)/\du P w w'/\G w'
def mI(k:Int)(_:Int):Int:=k
def mB(k:Int)(_:Bool):Bool:=k % 3==0
def cI{α:Type}(_:α):Int:=1
section
variable {α:Type} {mk:Int->α->α} {cnt:α->Int}
def mkL(mk:Int->α->α)(cnt:α->Int):Int->List α->List α
 |_,[]=>[]
 |k,a::r=>mk k a::mkL mk cnt (k+cnt a) r
def aT(cnt:α->Int):List α->Int
 |[]=>0
 |a::r=>cnt a+aT cnt r
theorem cT:∀(l:List α) (k:Int),(mkL mk cnt k l).length=l.length
 |[],_=>rfl
 |a::r,k=>by simp[mkL,cT r]
theorem EG:∀(l:List α) (a:α),aT cnt (l++[a])=aT cnt l+cnt a
 |[],a=>by simp[aT]
 |b::r,a=>by simp only[List.cons_append,aT,EG r];omega
theorem Ds{l:List α}{k:Nat}(hk:k<l.length):l.take (k+1)=l.take k++[l[k]]:=by rw[List.take_add_one,getElem?_eq_getElem hk];rfl
theorem bh{l:List α}{k:Nat}(hk:k<l.length):aT cnt (l.take (k+1))=aT cnt (l.take k)+cnt l[k]:=by
 rw[Ds hk,EG]
theorem yB:∀(l l':List α),aT cnt (l++l')=aT cnt l+aT cnt l'
 |[],l'=>by simp[aT]
 |b::r,l'=>by simp only[List.cons_append,aT,yB r];omega
theorem aQ(h:∀a,0<=cnt a):∀(l:List α),0<=aT cnt l
 |[]=>by simp[aT]
 |b::r=>by have:=aQ h r;have:=h b;simp only[aT];omega
theorem bC(h:∀a,0<=cnt a)(l:List α)(k:Nat):aT cnt (l.take k)<=aT cnt l:=by
 have e:aT cnt l=aT cnt (l.take k)+aT cnt (l.drop k):=by rw[<-yB,List.take_append_drop]
 have:=aQ h (l.drop k);omega
theorem JB:∀(l:List α) (a:α) (k:Int),mkL mk cnt k (l++[a])=mkL mk cnt k l++[mk (k+aT cnt l) a]
 |[],a,k=>by simp[mkL,aT]
 |b::r,a,k=>by simp only[List.cons_append,mkL,JB r,aT];rw[Int.add_assoc]
theorem M0:∀(l:List α) (k0:Int) {k:Nat} (hk:k<l.length),(mkL mk cnt k0 l)[k]'(by rw[cT];exact hk)=mk (k0+aT cnt (l.take k)) l[k]
 |[],_,k,hk=>absurd hk (Nat.not_lt_zero _)
 |a::r,k0,0,_=>by simp[mkL,aT]
 |a::r,k0,k+1,hk=>by
  have:=M0 r (k0+cnt a) (k:=k) (by simpa using hk);simp only[mkL,List.getElem_cons_succ,List.take_succ_cons,aT];rw[this,Int.add_assoc]
def mkP(mk:Int->α->α)(cnt:α->Int)(k0:Int)(j:Nat)(l:List α):List α:=mkL mk cnt k0 (l.take j)++l.drop j
theorem go(k0:Int)(l:List α):mkP mk cnt k0 0 l=l:=by simp[mkP,mkL]
theorem iK(k0:Int)(l:List α):mkP mk cnt k0 l.length l=mkL mk cnt k0 l:=by simp[mkP]
theorem kz{β:Type}(f:α->β)(k0:Int){j:Nat}{l:List α}(hj:j<l.length):((mkP mk cnt k0 j l).map f)[j]? =some (f l[j]):=by
 rw[List.getElem?_map];simp only[mkP];rw[List.getElem?_append_right (by rw[cT,List.length_take];omega),cT,List.length_take,List.getElem?_drop];rw[show j+(j-min j l.length)=j by omega,getElem?_eq_getElem hj];rfl
theorem gn{β:Type}(f:α->β)(k0:Int){j:Nat}{l:List α}(hj:j<l.length):((mkP mk cnt k0 j l).map f).set j (f (mk (k0+aT cnt (l.take j)) l[j]))=(mkP mk cnt k0 (j+1) l).map f:=by
 have hl:(mkL mk cnt k0 (l.take j)).length=j:=by rw[cT,List.length_take];omega
 rw[<-List.map_set];congr 1;unfold mkP;rw[List.set_append_right _ _ ac,hl,Nat.sub_self,Ds hj,JB,List.append_assoc];congr 1;rw[List.drop_eq_getElem_cons hj];rfl
end
end
section
open Go.RowKit
structure rP (P:Nat->Prop) (w w':World):Prop where
 os:w'.os=w.os
 tape:w'.tape=w.tape
 output:w'.output=w.output
 size:w.heap.size<=w'.heap.size
 block:∀b,b<w.heap.size->¬P b->w'.heap[b]? =w.heap[b]?
theorem du.a{P:Nat->Prop}{w w':World}(h:du P w w'):rP P w w':=⟨h.os,h.tape,h.output,by rw[h.size];exact Nat.le_refl _,λb _ hb=>h.block b hb⟩
theorem rP.mono{P P':Nat->Prop}{w w':World}(h:rP P w w')(hp:∀b,P b->P' b):rP P' w w':=⟨h.os,h.tape,h.output,h.size,λb hl hb=>h.block b hl λhq=>hb (hp b hq)⟩
theorem cV.focusA{w:World}{P:Nat->Prop}{d1 d2 d3:List AD}{u1 u2 u3:List Value}(h:cV w P (d1++d2++d3) (u1++u2++u3))(e1:u1.length=d1.length)(e2:u2.length=d2.length)(hlt:∀b,P b->b<w.heap.size):
  ∃Q,(∀b,Q b->P b)/\cV w Q d2 u2/\∀w' d2',rP Q w w'->cV w' Q d2' u2->cV w' P (d1++d2'++d3) (u1++u2++u3):=by
 obtain⟨v12,v3,P12,P3,ev,dj,a12,a3,f12,f3⟩:=h.split;obtain⟨e12,e3⟩:=List.append_inj ev (by rw[f12.1];simp[e1,e2]);subst e12 e3;obtain⟨v1,v2,P1,P2,ev,dk,b1,b2,f1,f2⟩:=f12.split;obtain⟨e5,e6⟩:=List.append_inj ev (by rw[f1.1];exact e1);subst e5 e6;refine⟨P2,λb hb=>a12 b (b2 b hb),f2,λw' d2' ht hf=>?_⟩;exact cV.append (P1:=P12) (P2:=P3) (cV.append (P1:=P1) (P2:=P2) (f1.keep λb hb=>ht.block b (hlt b (a12 b (b1 b hb))) λhq=>dk b hb hq) hf dk b1 b2) (f3.keep λb hb=>ht.block b (hlt b (a3 b hb)) λhq=>dj b (b2 b hq) hb) dj a12 a3
def gX(u:Nat->Value):Nat->List AD->List Value
 |_,[]=>[]
 |i,.pv v::r=>v::gX u (i+1) r
 |i,_::r=>u i::gX u (i+1) r
def yi(u:Nat->Value):Nat->List AD->List AD
 |_,[]=>[]
 |i,.pv v::r=> .pv v::yi u (i+1) r
 |i,_::r=> .pv (u i)::yi u (i+1) r
def L4(u:Nat->Value)(i:Nat):AP1->AV
 | .one (.pv v)=> .one (.d (.pv v))
 | .one _=> .one (.d (.pv (u i)))
 | .agg ds=> .agg ((yi u i ds).map .d)
def uOf(us:List Value):Nat->Value:=λi=>us.getD i undef
def KF(p:AP1)(us:List Value)(v:Value):Prop:=
 match p with
 | .one _=>us=[v]
 | .agg _=>v= .agg us.toArray
theorem tl(u:Nat->Value):∀(ds:List AD) (i:Nat),(gX u i ds).length=ds.length
 |[],_=>rfl
 | .pv _::r,i=>by simp[gX,tl u r]
 | .sl _::r,i=>by simp[gX,tl u r]
 | .x _::r,i=>by simp[gX,tl u r]
theorem Hy{w:World}{u:Nat->Value}:∀{ds:List AD} {us:List Value} {i:Nat},us.length=ds.length->(∀(j:Nat) a x,ds[j]? =some a->us[j]? =some x->∃P,bW w P a x)->(∀(j:Nat) x,us[j]? =some x->u (i+j)=x)->gX u i ds=us
 |[],[],_,_,_,_=>rfl
 |d::r,x::us,i,hl,hr,hu=>by
  have h0:u i=x:=hu 0 x rfl;have ih:=Hy (ds:=r) (us:=us) (i:=i+1) (by simpa using hl) (λj a y h1 h2=>hr (j+1) a y (by simpa using h1) (by simpa using h2)) λj y hy=>by rw[<-hu (j+1) y (by simpa using hy)];congr 1;omega
  obtain⟨P,ht⟩:=hr 0 d x rfl rfl;cases d with
  |pv v=>cases ht with|pv _ _=>simp only[gX,ih]
  |sl xs=>simp only[gX,ih,h0]
  |x R=>simp only[gX,ih,h0]
 |[],_::_,_,hl,_,_=>by simp at hl
 |_::_,[],_,hl,_,_=>by simp at hl
theorem Fn{Z:Nat->Prop}{w:World}(u:Nat->Value):∀{ds:List AD} {i:Nat} {us:List Value},us.length=ds.length->(∀(j:Nat) c x,(yi u i ds)[j]? =some c->us[j]? =some x->bR Z w c x)->us=gX u i ds
 |[],_,[],_,_=>rfl
 |d::r,i,x::us,hl,hr=>by
  have ih:us=gX u (i+1) r:=Fn u (by simpa using hl) λj c y h1 h2=>hr (j+1) c y (by cases d<;>simpa[yi]using h1) (by simpa using h2);cases d with
  |pv v=>
   have:=hr 0 (.pv v) x rfl rfl;cases this with|pv _ _=>rw[gX,<-ih]
  |sl xs=>
   have:=hr 0 (.pv (u i)) x rfl rfl;cases this with|pv _ _=>show _=u i::gX u (i+1) r;rw[<-ih]
  |x R=>
   have:=hr 0 (.pv (u i)) x rfl rfl;cases this with|pv _ _=>show _=u i::gX u (i+1) r;rw[<-ih]
 |[],_,_::_,hl,_=>by simp at hl
 |_::_,_,[],hl,_=>by simp at hl
theorem pm(u:Nat->Value):∀(ds:List AD) (i:Nat),(yi u i ds).length=ds.length
 |[],_=>rfl
 | .pv _::r,i=>by simp[yi,pm u r]
 | .sl _::r,i=>by simp[yi,pm u r]
 | .x _::r,i=>by simp[yi,pm u r]
theorem M8{Z:Nat->Prop}{w:World}{ρ:Nat->Value}{u:Nat->Value}{i:Nat}{p:AP1}{v:Value}(h:bX Z w ρ (L4 u i p) v):KF p (gX u i (eA p)) v:=by
 cases p with
 |one d=>
  cases d with
  |pv x=>cases h with|one _ _ h=>cases(show bR Z w (.pv x) v from h)with|pv _ _=>rfl
  |sl xs=>cases h with|one _ _ h=>cases(show bR Z w (.pv (u i)) v from h)with|pv _ _=>rfl
  |x R=>cases h with|one _ _ h=>cases(show bR Z w (.pv (u i)) v from h)with|pv _ _=>rfl
 |agg ds=>
  cases h with
  |agg _ us hl h=>
   have:us=gX u i ds:=Fn (Z:=Z) (w:=w) u (by simpa[pm]using hl) λj c x h1 h2=>h j (.d c) x (by rw[List.getElem?_map,h1];rfl) h2;show Value.agg us.toArray= .agg (gX u i ds).toArray;rw[this]
theorem M7{Z:Nat->Prop}{w w':World}{P:Nat->Prop}{ρ:Nat->Value}{u:Nat->Value}{i:Nat}{p:AP1}{v:Value}(hf:cV w' P (eA p) (gX u i (eA p)))(hv:KF p (gX u i (eA p)) v):bX Z w ρ (L4 u i p) v:=by
 have one:∀(j:Nat) a x,(eA p)[j]? =some a->(gX u i (eA p))[j]? =some x->x.oneCell'=true:=λj a x h1 h2=>(hf.get h1 h2).one;cases p with
 |one d=>
  have h1:v.oneCell'=true:=one 0 d v rfl (by rw[show gX u i (eA (.one d))=[v]from hv];rfl);cases d with
  |pv x=>
   have e:[x]=[v]:=hv;injection e with e
   subst e;exact .one _ _ (show bR Z w (.pv x) x from .pv _ h1)
  |sl xs=>
   have e:[u i]=[v]:=hv;injection e with e
   subst e;exact .one _ _ (show bR Z w (.pv (u i)) (u i)from .pv _ h1)
  |x R=>
   have e:[u i]=[v]:=hv;injection e with e
   subst e;exact .one _ _ (show bR Z w (.pv (u i)) (u i)from .pv _ h1)
 |agg ds=>
  have hv:v= .agg (gX u i ds).toArray:=hv;subst hv;refine .agg _ _ (by simp[tl,pm]) λj c x hc hx=>?_;rw[List.getElem?_map]at hc;obtain⟨d,hd,rfl⟩:=Option.map_eq_some_iff.1 hc;have hjl:j<ds.length:=by rw[<-pm u ds i];exact(List.getElem?_eq_some_iff.1 hd).1
  have h1:=one j ds[j] x (List.getElem?_eq_getElem hjl) hx;have same:∀(ds:List AD) (i j:Nat) d x,(yi u i ds)[j]? =some d->(gX u i ds)[j]? =some x->d= .pv x:=by
   intro ds;induction ds with
   |nil=>intro i j d x h;simp[yi]at h
   |cons a r ih=>
    intro i j d x h1 h2;cases j with
    |zero=>cases a<;>(simp[yi]at h1;simp[gX]at h2;subst h1 h2;rfl)
    |succ j=>exact ih (i+1) j d x (by cases a<;>simpa[yi]using h1) (by cases a<;>simpa[gX]using h2)
  rw[same ds i j d x hd hx];exact .pv _ h1
def TS(P:Nat->Prop)(ds:List AD)(us:List Value):World->Prop:=λw=>cV w P ds us
def pG(P:Nat->Prop)(ds:List AD)(us:List Value):AO:= .many P (TS P ds us)
section
variable {T:World->Prop} {S:bV} {Z:Nat->Prop} {w w':World} {ρ:Nat->Value} {ob:List (Nat×AO)}
theorem WS.renewT(h:WS T S Z w ρ ob)(id:Nat){P:Nat->Prop}{Q:World->Prop}(hP:∀b,P b->b<w.heap.size/\¬Z b/\(S.w0.heap.size<=b\/S.O b)/\∀j o,bA ob j=some o->bQ (ρ j)≠some b)
  (hd:∀j P' Q',bA ob j=some (.many P' Q')->∀b,P b->P' b->False) (hq:∀w':World,(∀b,P b->w'.heap[b]? =w.heap[b]?)->Q w'):WS T S Z w (λi=>if i=id then undef else ρ i) (fj (pi id ob) id (.many P Q)):=by
 have old:∀j o,j≠id->bA (fj (pi id ob) id (.many P Q)) j=some o->∃o0,bA ob j=some o0/\o=na id o0:=by
  intro j o hj ho;rw[cz,if_neg (λe=>hj e.symm),ni]at ho;obtain⟨o0,h0,h1⟩:=Option.map_eq_some_iff.1 ho;exact⟨o0,h0,h1.symm⟩
 have blk:∀j b,bQ (if j=id then undef else ρ j)=some b->j≠id/\bQ (ρ j)=some b:=by
  intro j b hb;by_cases hj:j=id
  ·rw[if_pos hj]at hb;cases hb
  ·rw[if_neg hj]at hb;exact⟨hj,hb⟩
 have omany:∀j P' Q',bA (fj (pi id ob) id (.many P Q)) j=some (.many P' Q')->(j=id/\P'=P/\Q'=Q)\/(j≠id/\bA ob j=some (.many P' Q')):=by
  intro j P' Q' ho;by_cases hj:j=id
  ·subst hj;rw[cz,if_pos rfl]at ho;injection ho with ho
   injection ho with e1 e2
   exact .inl ⟨rfl,e1.symm,e2.symm⟩
  ·obtain⟨o0,h0,e⟩:=old j _ hj ho;exact .inr ⟨hj,by rw[h0,vX e.symm]⟩
 refine⟨h.os,h.tape,h.output,h.size,h.old,h.zlt,λj o b ho hb=>?_,λi j oi oj b hi hj hij hbi hbj=>?_,λj o ho=>?_,⟨λj P' Q' ho=>?_,λi j P1 Q1 P2 Q2 hi hj hij b hb1 hb2=>?_⟩,h.g,h.z0,h.znew⟩
 ·obtain⟨hj,hb⟩:=blk j b hb;obtain⟨o0,h0,_⟩:=old j o hj ho;exact h.mine j o0 b h0 hb
 ·obtain⟨hi0,hbi⟩:=blk i b hbi;obtain⟨hj0,hbj⟩:=blk j b hbj;obtain⟨o0,h0,_⟩:=old i oi hi0 hi;obtain⟨o1,h1,_⟩:=old j oj hj0 hj;exact h.sep i j o0 o1 b h0 h1 hij hbi hbj
 ·by_cases hj:j=id
  ·subst hj;rw[cz,if_pos rfl]at ho;injection ho with ho
   subst ho;show(if j=j then undef else ρ j)=undef;rw[if_pos rfl]
  ·obtain⟨o0,h0,rfl⟩:=old j o hj ho;exact Cg hj (h.obj j o0 h0)
 ·have apart:∀b,(∀i o,bA ob i=some o->bQ (ρ i)≠some b)->∀i o,bA (fj (pi id ob) id (.many P Q)) i=some o->bQ (if i=id then undef else ρ i)≠some b:=by
   intro b hb i o hi hbi;obtain⟨hi0,hbi⟩:=blk i b hbi;obtain⟨o0,h0,_⟩:=old i o hi0 hi;exact hb i o0 h0 hbi
  rcases omany j P' Q' ho with⟨_,rfl,rfl⟩|⟨_,ho⟩
  ·exact⟨λb hb=>⟨(hP b hb).1,(hP b hb).2.1,(hP b hb).2.2.1,apart b (hP b hb).2.2.2⟩,hq⟩
  ·obtain⟨h1,h2⟩:=h.many.ok j P' Q' ho;exact⟨λb hb=>⟨(h1 b hb).1,(h1 b hb).2.1,(h1 b hb).2.2.1,apart b (h1 b hb).2.2.2⟩,h2⟩
 ·rcases omany i P1 Q1 hi with⟨e1,e2,e3⟩|⟨hi0,hi1⟩<;>rcases omany j P2 Q2 hj with⟨f1,f2,f3⟩|⟨hj0,hj1⟩
  ·exact hij (e1.trans f1.symm)
  ·exact hd j P2 Q2 hj1 b (e2▸hb1) hb2
  ·exact hd i P1 Q1 hi1 b (f2▸hb2) hb1
  ·exact h.many.sep i j P1 Q1 P2 Q2 hi1 hj1 hij b hb1 hb2
theorem WS.turn(h:WS T S Z w ρ ob){id:Nat}{P:Nat->Prop}{Q Q':World->Prop}(ho:bA ob id=some (.many P Q))(ht:rP P w w')(hq:∀w2:World,(∀b,P b->w2.heap[b]? =w'.heap[b]?)->Q' w2):WS T S Z w' ρ (fj ob id (.many P Q')):=by
 obtain⟨hP,_⟩:=h.many.ok id P Q ho;have hρ:ρ id=undef:=h.obj id _ ho;have hz:∀b,Z b->w'.heap[b]? =w.heap[b]? :=λb hb=>ht.block b (h.zlt b hb) λhp=>(hP b hp).2.1 hb;have hob:∀j o b,bA ob j=some o->bQ (ρ j)=some b->w'.heap[b]? =w.heap[b]? :=λj o b hj hb=>ht.block b (h.lt hj hb) λhp=>(hP b hp).2.2.2 j o hj hb;have old:∀j o1,bA (fj ob id (.many P Q')) j=some o1->∃o0,bA ob j=some o0/\(j≠id->o1=o0):=by
  intro j o1 h1;rw[cz]at h1;split at h1
  ·rename_i e;subst e;exact⟨_,ho,λh=>absurd rfl h⟩
  ·exact⟨o1,h1,λ_=>rfl⟩
 have omany:∀j P1 Q1,bA (fj ob id (.many P Q')) j=some (.many P1 Q1)->(j=id/\P1=P/\Q1=Q')\/(j≠id/\bA ob j=some (.many P1 Q1)):=by
  intro j P1 Q1 h1;by_cases hj:j=id
  ·subst hj;rw[cz,if_pos rfl]at h1;injection h1 with h1
   injection h1 with e1 e2
   exact .inl ⟨rfl,e1.symm,e2.symm⟩
  ·obtain⟨o0,h0,e⟩:=old j _ h1;exact .inr ⟨hj,by rw[h0,<-e hj]⟩
 refine⟨ht.os.trans h.os,ht.tape.trans h.tape,ht.output.trans h.output,Nat.le_trans h.size ht.size,λb hb hO=>?_,λb hb=>Nat.lt_of_lt_of_le (h.zlt b hb) ht.size,λj o b hj hb=>?_,λi j oi oj b hi hj hij hbi hbj=>?_,λj o hj=>?_,⟨λj P1 Q1 hj=>?_,λi j P1 Q1 P2 Q2 hi hj hij b hb1 hb2=>?_⟩,?_,h.z0,h.znew⟩
 ·refine(ht.block b (Nat.lt_of_lt_of_le hb h.size) λhp=>?_).trans (h.old b hb hO);rcases(hP b hp).2.2.1 with h3|h3
  ·omega
  ·exact hO h3
 ·obtain⟨o0,h0,_⟩:=old j o hj;exact h.mine j o0 b h0 hb
 ·obtain⟨o0,h0,_⟩:=old i oi hi;obtain⟨o1,h1,_⟩:=old j oj hj;exact h.sep i j o0 o1 b h0 h1 hij hbi hbj
 ·by_cases hjd:j=id
  ·subst hjd;rw[cz,if_pos rfl]at hj;injection hj with hj
   subst hj;exact hρ
  ·obtain⟨o0,h0,e⟩:=old j o hj;rw[e hjd];exact(h.obj j o0 h0).mono (λ_ h=>h) hz λb hb=>hob j o0 b h0 hb
 ·have apart:∀b,(∀i o,bA ob i=some o->bQ (ρ i)≠some b)->∀i o,bA (fj ob id (.many P Q')) i=some o->bQ (ρ i)≠some b:=by
   intro b hb i o hi hbi;obtain⟨o0,h0,_⟩:=old i o hi;exact hb i o0 h0 hbi
  rcases omany j P1 Q1 hj with⟨_,rfl,rfl⟩|⟨hjd,hj⟩
  ·exact⟨λb hb=>⟨Nat.lt_of_lt_of_le (hP b hb).1 ht.size,(hP b hb).2.1,(hP b hb).2.2.1,apart b (hP b hb).2.2.2⟩,hq⟩
  ·obtain⟨h1,h2⟩:=h.many.ok j P1 Q1 hj;refine⟨λb hb=>⟨Nat.lt_of_lt_of_le (h1 b hb).1 ht.size,(h1 b hb).2.1,(h1 b hb).2.2.1,apart b (h1 b hb).2.2.2⟩,λw2 hw=>h2 w2 λb hb=>(hw b hb).trans (ht.block b (h1 b hb).1 λhp=>h.many.sep j id P1 Q1 P Q hj ho hjd b hb hp)⟩
 ·rcases omany i P1 Q1 hi with⟨e1,e2,e3⟩|⟨hi0,hi1⟩<;>rcases omany j P2 Q2 hj with⟨f1,f2,f3⟩|⟨hj0,hj1⟩
  ·exact hij (e1.trans f1.symm)
  ·exact h.many.sep id j P Q P2 Q2 ho hj1 (λe=>hj0 e.symm) b (e2▸hb1) hb2
  ·exact h.many.sep i id P1 Q1 P Q hi1 ho hi0 b hb1 (f2▸hb2)
  ·exact h.many.sep i j P1 Q1 P2 Q2 hi1 hj1 hij b hb1 hb2
 ·obtain⟨w1,g1,g2,g3⟩:=h.g;exact⟨w1,g1,⟨ht.os.trans g2.os,ht.tape.trans g2.tape,ht.output.trans g2.output,Nat.le_trans g2.size ht.size,λk hk=>(hz k (g3 k hk)).trans (g2.block k hk)⟩,g3⟩
end
section
variable {E:bB} {S:bV}
theorem aaG{T:World->Prop}{ob:List (Nat×AO)}{args:List AV}{ps:List AP1}(h:aRs ob args (· =ps)):vu T ob args ps:=by
 refine⟨λS Z ρ w us hs hl hr=>?_⟩;obtain⟨ps',h1,h2,rfl⟩:=fX (E:=⟨default,.leaf,T⟩) (st:=⟨[],ob⟩) hs hl hr h;exact⟨gG Z ρ ob,λb hb=> .inl hb,gG.lt hs,h1,h2⟩
theorem dE.up{Z Z':Nat->Prop}{w:World}(hz:∀b,Z b->Z' b){p:AP1}{v:Value}(h:dE Z w p v):dE Z' w p v:=by
 cases p with
 |one d=>exact bR.mono hz (λ_ _=>rfl) h
 |agg ds=>obtain⟨us,e,hl,hr⟩:=h;exact⟨us,e,hl,λi d u h5 h6=>(hr i d u h5 h6).mono hz λ_ _=>rfl⟩
theorem RE{P:Nat->Prop}{w:World}{p:AP1}{us:List Value}{v:Value}(h:cV w P (eA p) us)(hv:KF p us v):dE P w p v:=by
 cases p with
 |one d=>have hv:us=[v]:=hv;subst hv;exact(h.relD λ_ h=>h).2 0 d v rfl rfl
 |agg ds=>exact⟨us,hv,(h.relD λ_ h=>h).1,(h.relD λ_ h=>h).2⟩
theorem YO{T:World->Prop}{ob:List (Nat×AO)}{x:AV}{rest:List AV}{p0:AP1}{psr:List AP1}(id:Nat){P:Nat->Prop}{u:Nat->Value}(hx:x=L4 u 0 p0)(hob:aOb ob id λo=>o=pG P (eA p0) (gX u 0 (eA p0)))(hrest:aRs ob rest (· =psr)):vu T ob (x::rest) (p0::psr):=by
 refine⟨λS Z ρ w us hs hl hr=>?_⟩;subst hx;obtain⟨o,ho,rfl⟩:=co hob;obtain⟨hP,hQ⟩:=hs.many.ok id P _ ho;have hF:cV w P (eA p0) (gX u 0 (eA p0)):=hQ w λ_ _=>rfl;cases us with
 |nil=>simp at hl
 |cons v us=>
  obtain⟨ps',h1,h2,rfl⟩:=fX (E:=⟨default,.leaf,T⟩) (st:=⟨[],ob⟩) hs (xs:=rest) (us:=us) (by simpa using hl) (λi y z h1 h2=>hr (i+1) y z (by simpa using h1) (by simpa using h2)) hrest;have hv:=M8 (hr 0 _ v rfl rfl);refine⟨λb=>gG Z ρ ob b\/P b,λb hb=> .inl (.inl hb),λb hb=>?_,by simp[h1],λi p y h3 h4=>?_⟩
  ·rcases hb with hb|hb
   ·exact gG.lt hs b hb
   ·exact(hP b hb).1
  ·cases i with
   |zero=>simp at h3 h4;subst h3 h4;exact(RE hF hv).up λb hb=> .inr hb
   |succ i=>exact(h2 i p y (by simpa using h3) (by simpa using h4)).up λb hb=> .inl hb
theorem Y1{f:FuncId}{args:List AV}{st:ASt}{K:AV->ASt->Prop}{ps:List AP1}{res:AP}(hc:aM E f ps res)(hx:vu E.W st.ob args ps)(hsc:res.scalar=true)(hk:K res.v st):aG E S f args st K:=by
 refine⟨hc.enter,λZ ρ a w us hs hl hr=>?_⟩;obtain⟨Z2,z1,z2,h1,h2⟩:=hx.h S Z ρ w us hs.ws hl hr;refine(hc.run Z2 w us z2 ?_ h1 h2).mono ?_
 ·obtain⟨w1,g1,g2,g3⟩:=hs.ws.g;exact⟨w1,g1,g2,λb hb=>z1 b (g3 b hb)⟩
 ·rintro e w' ⟨v,Z',rfl,hb,hz,hz2,hv⟩;exact⟨v,res.v,st,Z,ρ,rfl,hs.grow (dL hb) (λ_ h=>h) (λ_ h=> .inl h),(hv.any hsc).v,hk⟩
theorem ZN{f:FuncId}{args:List AV}{st:ASt}{K:AV->ASt->Prop}{ps:List AP1}{res:AP1}(id:Nat)(hc:ce E f ps res)(hx:vu E.W st.ob args ps)(hk:∀(P:Nat->Prop) (u:Nat->Value),wq st id (pG P (eA res) (gX u 0 (eA res))) (K (L4 u 0 res))):aG E S f args st K:=by
 refine⟨hc.enter,λZ ρ a w us hs hl hr=>?_⟩;obtain⟨Z2,z1,z2,h1,h2⟩:=hx.h S Z ρ w us hs.ws hl hr;refine(hc.run Z2 w us z2 ?_ h1 h2).mono ?_
 ·obtain⟨w1,g1,g2,g3⟩:=hs.ws.g;exact⟨w1,g1,g2,λb hb=>z1 b (g3 b hb)⟩
 ·rintro e w' ⟨v,rfl,hb,hv⟩;obtain⟨us',hf,hvu⟩:∃us',cV w' (λb=>w.heap.size<=b/\b<w'.heap.size) (eA res) us'/\KF res us' v:=by
   cases res with
   |one d=>exact⟨[v],hv,rfl⟩
   |agg ds=>obtain⟨us',e,h⟩:=hv;exact⟨us',h,e⟩
  have hU:gX (uOf us') 0 (eA res)=us':=Hy (w:=w') hf.1 (λj a x h1 h2=>⟨_,hf.get h1 h2⟩) λj x hj=>by simp[uOf,List.getD_eq_getElem?_getD,hj]
  have hg:=hs.grow (Z':=Z) (dL hb) (λ_ h=>h) (λ_ h=> .inl h);have hsz:=hs.ws.size;have hws:=hg.ws.renewT id (P:=λb=>w.heap.size<=b/\b<w'.heap.size) (Q:=TS (λb=>w.heap.size<=b/\b<w'.heap.size) (eA res) us') (λb hb=>⟨hb.2,λhz=>by have:=hs.ws.zlt b hz;omega,.inl ac,λj o ho hbj=>by have:=hs.ws.lt ho hbj;omega⟩)
   (λj P' Q' ho b hb hb'=>by have:=((hs.ws.many.ok j P' Q' ho).1 b hb').1;omega) λw2 hw=>hf.keep hw
  have h3:=io (hk (λb=>w.heap.size<=b/\b<w'.heap.size) (uOf us'));rw[hU]at h3;refine⟨v,_,_,Z,_,rfl,⟨hws,by simp[fv,hg.len],λi x y hx hy=>?_,hg.df⟩,M7 (w':=w') (by rw[hU];exact hf) (by rw[hU];exact hvu),h3⟩;simp only[fv,List.getElem?_map]at hx;obtain⟨x0,h0,rfl⟩:=Option.map_eq_some_iff.1 hx;exact lg (hg.tm i x0 y h0 hy)
structure dF (E:bB) (f:FuncId) (p:AP1) (k:Int) (p':AP1) (k':Int):Prop where
 enter:∀(us:Array Value) w,(callFunc f us).run E.P w= .ok (.enter f us) w
 run:∀(P Z:Nat->Prop) (w:World) (us:List Value) (v:Value),(∀b,Z b->b<w.heap.size)->GZ E.W Z w->(∀b,P b->b<w.heap.size/\¬Z b)->cV w P (eA p) us->KF p us v->
  Calls E.P f #[v,.int .i64 k] w λe w'=>e= .returned (.int .i64 k')/\rP P w w'/\cV w' P (eA p') us
theorem YI{f:FuncId}{d d':AD}{k k':Int}(enter:∀(us:Array Value) w,(callFunc f us).run E.P w= .ok (.enter f us) w)
  (h:∀P w v,bW w P d v->Calls E.P f #[v,.int .i64 k] w (j6 k' P w λw'=>bW w' P d' v)):dF E f (.one d) k (.one d') k':=by
 refine⟨enter,λP Z w us v hz hg hP hf hv=>?_⟩;have hv:us=[v]:=hv;subst hv;refine(h P w v (hf.get (i:=0) rfl rfl)).mono ?_;rintro e w' ⟨rfl,ht,hr⟩;exact⟨rfl,ht.a,.one hr⟩
theorem Yi{f:FuncId}{x:AV}{tm:List AV}{ob:List (Nat×AO)}{K:AV->ASt->Prop}{p p':AP1}{k k':Int}(id:Nat)(j:Nat)(d1 d3:List AD)(u1 u3:List Value){P:Nat->Prop}{u:Nat->Value}{D:List AD}{U:List Value}(hc:dF E f p k p' k')(hx:x=L4 u j p)
  (hob:aOb ob id λo=>o=pG P D U) (hD:D=d1++eA p++d3) (hU:U=u1++gX u j (eA p)++u3) (hl:u1.length=d1.length)
  (hk:gH id (pG P (d1++eA p'++d3) (u1++gX u j (eA p)++u3)) ob λob=>K (vI .i64 k') ⟨tm,ob⟩):aG E S f [x,vI .i64 k] ⟨tm,ob⟩ K:=by
 refine⟨hc.enter,λZ ρ a w us hs hln hr=>?_⟩;subst hx hD hU;obtain⟨o,ho,rfl⟩:=co hob;obtain⟨hP,hQ⟩:=hs.ws.many.ok id P _ ho;have hF:cV w P (d1++eA p++d3) (u1++gX u j (eA p)++u3):=hQ w λ_ _=>rfl;obtain⟨Q,hQP,hfq,hcl⟩:=hF.focusA hl (tl _ _ _) λb hb=>(hP b hb).1;match us,hln with
 |[v,y],_=>
  have hv:=M8 (hr 0 _ v rfl rfl);have hy:y= .int .i64 k:=by
   have:=hr 1 _ y rfl rfl;cases this with|one _ _ h=>cases(show bR Z w (.pv (.int .i64 k)) y from h)with|pv _ _=>rfl
  subst hy;refine(hc.run Q Z w _ v hs.ws.zlt hs.ws.g (λb hb=>⟨(hP b (hQP b hb)).1,(hP b (hQP b hb)).2.1⟩) hfq hv).mono ?_;rintro e w' ⟨rfl,ht,hf'⟩;have hF':=hcl w' (eA p') ht hf';have hws:=hs.ws.turn (Q':=TS P (d1++eA p'++d3) (u1++gX u j (eA p)++u3)) ho (ht.mono hQP) λw2 hw=>hF'.keep hw;refine⟨_,_,⟨tm,fj ob id (pG P (d1++eA p'++d3) (u1++gX u j (eA p)++u3))⟩,Z,ρ,rfl,⟨hws,hs.len,λi z q hz hq=>(hs.tm i z q hz hq).mono (λ_ h=>h) λb hb=>ht.block b (hs.ws.zlt b hb) λhq=>(hP b (hQP b hq)).2.1 hb,hs.df⟩,.one (.d (.pv (.int .i64 k'))) _ (show bR Z w' (.pv (.int .i64 k')) (.int .i64 k')from .pv _ rfl),dl hk⟩
def Wx(E:bB)(rs:List ResultVar)(k':Int)(P:Nat->Prop)(D:List AD)(U:List Value):Exit->ASt->Prop
 | .ret,st=>A8 E st rs (· = .val (pI k'))/\aOb st.ob 9001 λo=>o=pG P D U
 | .normal,st=>A8 E st rs (· = .val (pI k'))/\aOb st.ob 9001 λo=>o=pG P D U
 |_,_=>False
theorem gW(he:E.Ok){f:FuncId}{fn:Func}{c:Code}{n:Nat}{rs:List ResultVar}{p p':AP1}{k k':Int}(hf:E.P.funcs[f]? =some fn)(hb:fn.body=some c)
  (enter:∀(us:Array Value) w,(callFunc f us).run E.P w= .ok (.enter f us) w) (hn:fn.ntmps=n+2) (hrs:fn.results.toList=rs)
  (h:∀(S:bV) (P:Nat->Prop) (u:Nat->Value),AWP E S c (Wx E rs k' P (eA p') (gX u 0 (eA p))) ⟨L4 u 0 p::vI .i64 k::List.replicate n (.one .und),[(9001,pG P (eA p) (gX u 0 (eA p)))]⟩):dF E f p k p' k':=by
 refine⟨enter,λP Z w us v hz hg hP hF hv=>?_⟩;subst hrs;have hU:gX (uOf us) 0 (eA p)=us:=Hy (w:=w) hF.1 (λj a x h1 h2=>⟨_,hF.get h1 h2⟩) λj x hj=>by simp[uOf,List.getD_eq_getElem?_getD,hj]
 have hk:=h ⟨w,P,Z⟩ P (uOf us);have hw0:WS E.W ⟨w,P,Z⟩ Z w (λ_=>undef) [(9001,pG P (eA p) us)]:=by
  have only:∀i o,bA [(9001,pG P (eA p) us)] i=some o->i=9001/\o=pG P (eA p) us:=by
   intro i o ho;simp only[bA]at ho;split at ho
   ·rename_i e;injection ho with ho;exact⟨e.symm,ho.symm⟩
   ·cases ho
  refine⟨rfl,rfl,rfl,Nat.le_refl _,λ_ _ _=>rfl,hz,λid o b ho hb=>(by cases hb),λi j oi oj b hi hj hij hbi _=>(by cases hbi),λid o ho=>?_,⟨λid P' Q' ho=>?_,λi j P1 Q1 P2 Q2 hi hj hij=>?_⟩,hg,λb hb=>hb,λb hb=> .inl hb⟩
  ·obtain⟨rfl,rfl⟩:=only id o ho;rfl
  ·obtain⟨rfl,e⟩:=only id _ ho;injection e with e1 e2
   subst e1 e2;exact⟨λb hb=>⟨(hP b hb).1,(hP b hb).2,.inr hb,λj o _ hbj=>by cases hbj⟩,λw' hw=>hF.keep hw⟩
  ·exact absurd ((only i _ hi).1.trans (only j _ hj).1.symm) hij
 have hs:Sim E.W ⟨w,P,Z⟩ Z (λ_=>undef) ⟨L4 (uOf us) 0 p::vI .i64 k::List.replicate n (.one .und),[(9001,pG P (eA p) (gX (uOf us) 0 (eA p)))]⟩ {tmps:= #[v,.int .i64 k]++Array.replicate (fn.ntmps- #[v,.int .i64 k].size) undef,defers:=[]} w:=by
  refine⟨by rw[hU];exact hw0,by simp[hn];omega,λi x y hx hy=>?_,rfl⟩;simp only at hx hy;have hy':(v:: .int .i64 k::List.replicate n undef)[i]? =some y:=by
   rw[<-Array.getElem?_toList]at hy;simpa[hn]using hy
  match i,hx,hy' with
  |0,hx,hy'=>
   simp at hx hy';subst hx hy';exact M7 (w':=w) (by rw[hU];exact hF) (by rw[hU];exact hv)
  |1,hx,hy'=>
   simp at hx hy';subst hx hy';exact .one _ _ (show bR Z w (.pv (.int .i64 k)) (.int .i64 k)from .pv _ rfl)
  |i+2,hx,hy'=>
   have e1:=List.eq_of_mem_replicate (List.mem_of_getElem? (by simpa using hx));have e2:=List.eq_of_mem_replicate (List.mem_of_getElem? (by simpa using hy'));subst e1 e2;exact .one _ _ (show dW Z w (λ_=>undef) .und undef from rfl)
 refine calls_of_wp hf hb (wp_mono (hk.run _ w ⟨Z,_,hs⟩) λe a' w' h'=>?_);obtain⟨st',⟨Z',ρ',hs'⟩,hk'⟩:=h';have fin:(A8 E st' fn.results.toList (· = .val (pI k'))/\aOb st'.ob 9001 λo=>o=pG P (eA p') (gX (uOf us) 0 (eA p)))->a'.defers=[]/\∃v,(results fn a'.tmps).run E.P w'= .ok v w'/\Ending.returned v= .returned (.int .i64 k')/\rP P w w'/\cV w' P (eA p') us:=by
  rintro⟨hr,ho⟩;obtain⟨v,q,h1,h2,h3⟩:=Bc he hs' hr;subst h3;obtain⟨o,ho,rfl⟩:=co ho;rw[hU]at ho;cases(show bR _ _ (.pv (.int .i64 k')) v from h2)with
  |pv _ _=>exact⟨hs'.df,_,h1,rfl,⟨hs'.ws.os,hs'.ws.tape,hs'.ws.output,hs'.ws.size,λb hb hp=>hs'.ws.old b hb hp⟩,(hs'.ws.many.ok 9001 P _ ho).2 w' λ_ _=>rfl⟩
 cases e with
 |normal=>exact fin hk'
 |ret=>exact fin hk'
 |_=>exact hk'.elim
end
end
section
open Go.RowKit
structure Um (E:bB) (f:FuncId) (e:TypeId) (s:Nat) (xs xs':List (List AD)) (ps:List AP1):Prop where
 enter:∀(us:Array Value) w,(callFunc f us).run E.P w= .ok (.enter f us) w
 run:∀(Z:Nat->Prop) (w:World) (v:Value) (us:List Value),(∀b,Z b->b<w.heap.size)->GZ E.W Z w->cQ Z w (λ_=>v) 0 (.row e s xs)->(∀b,bQ v=some b->¬Z b)->us.length=ps.length->(∀(i:Nat) p u,ps[i]? =some p->us[i]? =some u->dE Z w p u)->
  Calls E.P f (v::us).toArray w λen w'=>en= .returned (.tuple #[])/\rP (λb=>bQ v=some b) w w'/\cQ Z w' (λ_=>v) 0 (.row e s xs')
theorem WS.turnRow{T:World->Prop}{S:bV}{Z:Nat->Prop}{w w':World}{ρ:Nat->Value}{ob:List (Nat×AO)}(h:WS T S Z w ρ ob){id s:Nat}{e:TypeId}{xs xs':List (List AD)}(ho:bA ob id=some (.row e s xs))(ht:rP (λb=>bQ (ρ id)=some b) w w')
  (hr:cQ Z w' (λ_=>ρ id) 0 (.row e s xs')):WS T S Z w' ρ (fj ob id (.row e s xs')):=by
 have hz:∀b,Z b->w'.heap[b]? =w.heap[b]? :=λb hb=>ht.block b (h.zlt b hb) λhp=>(h.mine id _ b ho hp).1 hb;have far:∀j o b,j≠id->bA ob j=some o->bQ (ρ j)=some b->w'.heap[b]? =w.heap[b]? :=λj o b hj hjo hb=>ht.block b (h.lt hjo hb) λhp=>h.sep j id o _ b hjo ho hj hb hp;have old:∀j o1,bA (fj ob id (.row e s xs')) j=some o1->∃o0,bA ob j=some o0/\(j≠id->o1=o0):=by
  intro j o1 h1;rw[cz]at h1;split at h1
  ·rename_i e;subst e;exact⟨_,ho,λh=>absurd rfl h⟩
  ·exact⟨o1,h1,λ_=>rfl⟩
 refine⟨ht.os.trans h.os,ht.tape.trans h.tape,ht.output.trans h.output,Nat.le_trans h.size ht.size,λb hb hO=>?_,λb hb=>Nat.lt_of_lt_of_le (h.zlt b hb) ht.size,λj o b hj hb=>?_,λi j oi oj b hi hj hij hbi hbj=>?_,λj o hj=>?_,⟨λj P Q hj=>?_,λi j P Q P' Q' hi hj hij=>?_⟩,?_,h.z0,h.znew⟩
 ·refine(ht.block b (Nat.lt_of_lt_of_le hb h.size) λhp=>?_).trans (h.old b hb hO);rcases(h.mine id _ b ho hp).2 with h3|h3
  ·omega
  ·exact hO h3
 ·obtain⟨o0,h0,_⟩:=old j o hj;exact h.mine j o0 b h0 hb
 ·obtain⟨o0,h0,_⟩:=old i oi hi;obtain⟨o1,h1,_⟩:=old j oj hj;exact h.sep i j o0 o1 b h0 h1 hij hbi hbj
 ·by_cases hjd:j=id
  ·subst hjd;rw[cz,if_pos rfl]at hj;injection hj with hj
   subst hj;exact hr
  ·obtain⟨o0,h0,e⟩:=old j o hj;rw[e hjd];exact(h.obj j o0 h0).mono (λ_ h=>h) hz λb hb=>far j o0 b hjd h0 hb
 ·have hjd:j≠id:=by
   rintro rfl;rw[cz,if_pos rfl]at hj;cases hj
  obtain⟨o0,h0,e⟩:=old j _ hj;have:=e hjd;subst this;obtain⟨h1,h2⟩:=h.many.ok j P Q h0;refine⟨λb hb=>⟨Nat.lt_of_lt_of_le (h1 b hb).1 ht.size,(h1 b hb).2.1,(h1 b hb).2.2.1,λi o hi hbi=>?_⟩,λw2 hw=>h2 w2 λb hb=>(hw b hb).trans (ht.block b (h1 b hb).1 λhp=>(h1 b hb).2.2.2 id _ ho hp)⟩;obtain⟨o1,h3,_⟩:=old i o hi;exact(h1 b hb).2.2.2 i o1 h3 hbi
 ·have hid:∀k P Q,bA (fj ob id (.row e s xs')) k=some (.many P Q)->bA ob k=some (.many P Q):=by
   intro k P Q hk;rw[cz]at hk;split at hk
   ·cases hk
   ·exact hk
  exact h.many.sep i j P Q P' Q' (hid i P Q hi) (hid j P' Q' hj) hij
 ·obtain⟨w1,g1,g2,g3⟩:=h.g;exact⟨w1,g1,⟨ht.os.trans g2.os,ht.tape.trans g2.tape,ht.output.trans g2.output,Nat.le_trans g2.size ht.size,λk hk=>(hz k (g3 k hk)).trans (g2.block k hk)⟩,g3⟩
section
variable {E:bB} {S:bV}
theorem aG.row{f:FuncId}{rest:List AV}{tm:List AV}{ob:List (Nat×AO)}{K:AV->ASt->Prop}{id s:Nat}{e:TypeId}{xs xs':List (List AD)}{ps:List AP1}(hc:Um E f e s xs xs' ps)(hob:aOb ob id λo=>o= .row e s xs)(hps:aPs rest (· =ps))
  (hk:gH id (.row e s xs') ob λob=>K (.tup []) ⟨tm,ob⟩):aG E S f (.one (.own id)::rest) ⟨tm,ob⟩ K:=by
 refine⟨hc.enter,λZ ρ a w us hs hl hr=>?_⟩;obtain⟨o,ho,rfl⟩:=co hob;cases us with
 |nil=>simp at hl
 |cons v us=>
  have hv:v=ρ id:=by
   have:=hr 0 _ v rfl rfl;cases this with|one _ _ h=>exact h.1
  subst hv;have hws0:WS E.W S Z w ρ []:=hs.ws.sub X4;obtain⟨ps',h1,h2,rfl⟩:=fX (st:=⟨[],[]⟩) hws0 (xs:=rest) (us:=us) (by simpa using hl) (λi y z h1 h2=>hr (i+1) y z (by simpa using h1) (by simpa using h2)) (AZ hps);have hz0:∀b,gG Z ρ [] b->Z b:=by rintro b (hb|⟨id,o,ho,_⟩);exact hb;cases ho
  refine(hc.run Z w (ρ id) us hs.ws.zlt hs.ws.g (hs.ws.obj id _ ho) (λb hb=>(hs.ws.mine id _ b ho hb).1) h1 λi p u h3 h4=>(h2 i p u h3 h4).up hz0).mono ?_;rintro en w' ⟨rfl,ht,hr'⟩;have hz:∀b,Z b->w'.heap[b]? =w.heap[b]? :=λb hb=>ht.block b (hs.ws.zlt b hb) λhp=>(hs.ws.mine id _ b ho hp).1 hb;refine⟨_,.tup [],⟨tm,fj ob id (.row e s xs')⟩,Z,ρ,rfl,⟨hs.ws.turnRow ho ht hr',hs.len,λi z q hz' hq=>(hs.tm i z q hz' hq).mono (λ_ h=>h) hz,hs.df⟩,.tup [] [] rfl aj,dl hk⟩
end
end
section
open Go.RowKit
structure XX (E:bB) (f:FuncId) (n j:Nat) (e:TypeId) (s:Nat) (xs xs':List (List AD)):Prop where
 enter:∀(us:Array Value) w,(callFunc f us).run E.P w= .ok (.enter f us) w
 run:∀(Z:Nat->Prop) (w:World) (v:Value) (us:List Value),(∀b,Z b->b<w.heap.size)->GZ E.W Z w->us.length=n->(∀u∈us,u.oneCell'=true)->us[j]? =some v->cQ Z w (λ_=>v) 0 (.row e s xs)->(∀b,bQ v=some b->¬Z b)->
  Calls E.P f #[.agg us.toArray] w λen w'=>en= .returned (.agg us.toArray)/\rP (λb=>bQ v=some b) w w'/\cQ Z w' (λ_=>v) 0 (.row e s xs')
section
variable {E:bB} {S:bV}
theorem WS.widen{T:World->Prop}{S:bV}{Z Z':Nat->Prop}{w:World}{ρ:Nat->Value}{ob:List (Nat×AO)}(h:WS T S Z w ρ ob)(hz:∀b,Z b->Z' b)(hn:∀b,Z' b->Z b\/(b<w.heap.size/\S.w0.heap.size<=b/\(∀i o,bA ob i=some o->bQ (ρ i)≠some b)/\∀i P Q,bA ob i=some (.many P Q)->¬P b)):WS T S Z' w ρ ob:=by
 refine⟨h.os,h.tape,h.output,h.size,h.old,λb hb=>?_,λid o b ho hb=>⟨λhzb=>?_,(h.mine id o b ho hb).2⟩,h.sep,λid o ho=>(h.obj id o ho).mono hz (λ_ _=>rfl) λ_ _=>rfl,⟨λid P Q ho=>⟨λb hb=>?_,(h.many.ok id P Q ho).2⟩,h.many.sep⟩,?_,λb hb=>hz b (h.z0 b hb),λb hb=>?_⟩
 ·rcases hn b hb with hb|hb
  ·exact h.zlt b hb
  ·exact hb.1
 ·rcases hn b hzb with hb'|hb'
  ·exact(h.mine id o b ho hb).1 hb'
  ·exact hb'.2.2.1 id o ho hb
 ·obtain⟨h1,h2,h3,h4⟩:=(h.many.ok id P Q ho).1 b hb;refine⟨h1,λhzb=>?_,h3,h4⟩;rcases hn b hzb with hb'|hb'
  ·exact h2 hb'
  ·exact hb'.2.2.2 id P Q ho hb
 ·obtain⟨w1,g1,g2,g3⟩:=h.g;exact⟨w1,g1,g2,λb hb=>hz b (g3 b hb)⟩
 ·rcases hn b hb with hb|hb
  ·exact h.znew b hb
  ·exact .inr (.inl hb.2.1)
theorem YG{c:Code}{K:Exit->ASt->Prop}{tm:List AV}{ob:List (Nat×AO)}(oid j id:Nat)(e:TypeId)(s:Nat)(hs:0<s)
  (h : wq ⟨tm, ob⟩ id (.row e s []) fun st => aOb st.ob oid fun o => match o with
   | .cells t cs=>And (cs[j]? =some .nil) (gH oid (.cells t (cs.set j (.own id))) st.ob λob=>AWP E S c K ⟨st.tm,ob⟩)
   |_=>False):AWP E S c K ⟨tm,ob⟩:=by
 refine⟨λa w hw=>?_⟩;obtain⟨Z,ρ,hw⟩:=hw;have h1:=hw.renew id (.slice none 0 0) (.row e s []) (row:=none) (World.grownBy.refl w _) aj (λb hb=>by cases hb) ⟨[],hs,rfl,by simp,by simp,by simp[World.ownsRow],by simp⟩;have h:=io h;obtain⟨o,ho,h⟩:=co h;cases o with
 |cells t cs=>
  simp only at h;obtain⟨hj,h⟩:=h;have h:=dl h;obtain⟨b,us,hp,hg,hl,hc⟩:=(show cQ Z w (λi=>if i=id then .slice none 0 0 else ρ i) oid (.cells t cs)from h1.ws.obj oid _ ho);refine h.run a w ⟨Z,_,h1.upd oid _ (.cells t (cs.set j (.own id))) (g:=b) ho (by show bQ ((λi=>if i=id then Value.slice none 0 0 else ρ i) oid)=some b;rw[hp];rfl) (World.grownBy.refl w _) ⟨b,us,hp,hg,by simpa using hl,λi c u hi hu=>?_⟩⟩;rw[List.getElem?_set]at hi;split at hi
  ·rename_i e;subst e;split at hi
   ·injection hi with hi
    subst hi;have:=hc j .nil u hj hu;have hu0:u= .slice none 0 0:=this;subst hu0;exact⟨by simp,rfl⟩
   ·cases hi
  ·exact hc i c u hi hu
 |_=>exact h.elim
end
end
section
open Go.RowKit
def zK(id:Nat)(xs:List (List AD)):AC->AC
 | .own i=>match Nat.beq i id with
  |true=> .d (.sl xs)
  |false=> .own i
 | .ref i k s off=>match Nat.beq i id with
  |true=> .dead
  |false=> .ref i k s off
 |c=>c
def Oa(id:Nat)(xs:List (List AD)):AV->AV
 | .one c=> .one (zK id xs c)
 | .agg cs=> .agg (cs.map (zK id xs))
 | .tup _=> .one .dead
def RX(id:Nat)(xs:List (List AD)):AO->AO
 | .cells t cs=> .cells t (cs.map (zK id xs))
 | .frame vs us=> .frame (vs.map (Oa id xs)) us
 |o=>o
def sT(id:Nat)(xs:List (List AD)):List (Nat×AO)->List (Nat×AO)
 |[]=>[]
 |(i,o)::r=>match Nat.beq i id with
  |true=>sT id xs r
  |false=>(i,RX id xs o)::sT id xs r
def H7(id:Nat)(xs:List (List AD))(c:AC)(K:AC->Prop):Prop:=
 match c with
 | .own i=>match Nat.beq i id with
  |true=>K (.d (.sl xs))
  |false=>K (.own i)
 | .ref i k s off=>match Nat.beq i id with
  |true=>K .dead
  |false=>K (.ref i k s off)
 |c=>K c
theorem Eh{id:Nat}{xs:List (List AD)}{c:AC}{K:AC->Prop}(h:H7 id xs c K):K (zK id xs c):=by
 cases c with
 |own i=>simp only[H7]at h;simp only[zK];split at h<;>simp_all
 |ref i k s off=>simp only[H7]at h;simp only[zK];split at h<;>simp_all
 |_=>exact h
def Gs(id:Nat)(xs:List (List AD)):List AC->(List AC->Prop)->Prop
 |[],K=>K []
 |c::r,K=>H7 id xs c λc=>Gs id xs r λr=>K (c::r)
theorem vD{id:Nat}{xs:List (List AD)}:∀{l:List AC} {K:List AC->Prop},Gs id xs l K->K (l.map (zK id xs))
 |[],_,h=>h
 |c::r,K,h=>vD (l:=r) (K:=λr'=>K (zK id xs c::r')) (Eh h)
def Tx(id:Nat)(xs:List (List AD))(x:AV)(K:AV->Prop):Prop:=
 match x with
 | .one c=>H7 id xs c λc=>K (.one c)
 | .agg cs=>Gs id xs cs λcs=>K (.agg cs)
 | .tup _=>K (.one .dead)
theorem NA{id:Nat}{xs:List (List AD)}{x:AV}{K:AV->Prop}(h:Tx id xs x K):K (Oa id xs x):=by
 cases x with
 |one c=>exact Eh (K:=λc=>K (.one c)) h
 |agg cs=>exact vD (K:=λcs=>K (.agg cs)) h
 |tup vs=>exact h
def Ay(id:Nat)(xs:List (List AD)):List AV->(List AV->Prop)->Prop
 |[],K=>K []
 |x::r,K=>Tx id xs x λx=>Ay id xs r λr=>K (x::r)
theorem oJ{id:Nat}{xs:List (List AD)}:∀{l:List AV} {K:List AV->Prop},Ay id xs l K->K (l.map (Oa id xs))
 |[],_,h=>h
 |x::r,K,h=>oJ (l:=r) (K:=λr'=>K (Oa id xs x::r')) (NA h)
def iM(id:Nat)(xs:List (List AD)):List (Nat×AO)->(List (Nat×AO)->Prop)->Prop
 |[],K=>K []
 |(i,.cells t cs)::r,K=>match Nat.beq i id with
  |true=>iM id xs r K
  |false=>Gs id xs cs λcs=>iM id xs r λr=>K ((i,.cells t cs)::r)
 |(i,.row e s ys)::r,K=>match Nat.beq i id with
  |true=>iM id xs r K
  |false=>iM id xs r λr=>K ((i,.row e s ys)::r)
 |(i,.frame vs us)::r,K=>match Nat.beq i id with
  |true=>iM id xs r K
  |false=>Ay id xs vs λvs=>iM id xs r λr=>K ((i,.frame vs us)::r)
 |(i,.any Q)::r,K=>match Nat.beq i id with
  |true=>iM id xs r K
  |false=>iM id xs r λr=>K ((i,.any Q)::r)
 |(i,.many P Q)::r,K=>match Nat.beq i id with
  |true=>iM id xs r K
  |false=>iM id xs r λr=>K ((i,.many P Q)::r)
theorem fR{id:Nat}{xs:List (List AD)}:∀{l:List (Nat×AO)} {K:List (Nat×AO)->Prop},iM id xs l K->K (sT id xs l)
 |[],_,h=>h
 |(i,.cells t cs)::r,K,h=>by
  simp only[iM]at h;simp only[sT];split at h
  ·exact fR h
  ·exact fR (l:=r) (K:=λr'=>K ((i,.cells t (cs.map (zK id xs)))::r')) (vD (K:=λcs=>iM id xs r λr=>K ((i,.cells t cs)::r)) h)
 |(i,.row e s ys)::r,K,h=>by
  simp only[iM]at h;simp only[sT];split at h
  ·exact fR h
  ·exact fR (l:=r) (K:=λr'=>K ((i,.row e s ys)::r')) h
 |(i,.frame vs us)::r,K,h=>by
  simp only[iM]at h;simp only[sT];split at h
  ·exact fR h
  ·exact fR (l:=r) (K:=λr'=>K ((i,.frame (vs.map (Oa id xs)) us)::r')) (oJ (K:=λvs=>iM id xs r λr=>K ((i,.frame vs us)::r)) h)
 |(i,.any Q)::r,K,h=>by
  simp only[iM]at h;simp only[sT];split at h
  ·exact fR h
  ·exact fR (l:=r) (K:=λr'=>K ((i,.any Q)::r')) h
 |(i,.many P Q)::r,K,h=>by
  simp only[iM]at h;simp only[sT];split at h
  ·exact fR h
  ·exact fR (l:=r) (K:=λr'=>K ((i,.many P Q)::r')) h
theorem iz{id:Nat}{xs:List (List AD)}:∀{ob:List (Nat×AO)} {j:Nat} {o:AO},bA (sT id xs ob) j=some o->j≠id/\∃o0,bA ob j=some o0/\o=RX id xs o0
 |[],_,_,h=>by cases h
 |(i,o1)::r,j,o,h=>by
  simp only[sT]at h;cases hb:Nat.beq i id with
  |true=>
   rw[hb]at h;obtain⟨h1,o0,h2,h3⟩:=iz h;refine⟨h1,o0,?_,h3⟩;have:i≠j:=λe=>h1 (e▸Nat.eq_of_beq_eq_true hb);simp only[bA];rw[if_neg this];exact h2
  |false=>
   rw[hb]at h;simp only[bA]at h⊢;split at h
   ·rename_i e;injection h with h
    subst e;exact⟨Nat.ne_of_beq_eq_false hb,o1,by rw[if_pos rfl],h.symm⟩
   ·rename_i e;obtain⟨h1,o0,h2,h3⟩:=iz h;exact⟨h1,o0,by rw[if_neg e];exact h2,h3⟩
section
variable {T:World->Prop} {S:bV} {Z:Nat->Prop} {w:World} {ρ:Nat->Value} {ob:List (Nat×AO)}
def Dz(Z:Nat->Prop)(ρ:Nat->Value)(id:Nat)(b:Nat):Prop:=Z b\/bQ (ρ id)=some b
theorem QY{e:TypeId}{s id:Nat}{xs:List (List AD)}(h:cQ Z w ρ id (.row e s xs)):bR (Dz Z ρ id) w (.sl xs) (ρ id):=by
 obtain⟨us,h0,hl,hxs,hus,hown,hd⟩:=h;have up:∀{d:AD} {v:Value},bR Z w d v->bR (Dz Z ρ id) w d v:=λhd=>hd.mono (λb hb=> .inl hb) λ_ _=>rfl;rcases hown.2 with⟨hv,hn⟩|⟨g,cap,cur,hv,_,hg,h1,h2,h3,h4⟩
 ·have:xs=[]:=List.eq_nil_of_length_eq_zero hn;subst this;rw[hv];exact .sl [] none 0 0 [] (Nat.le_refl _) (Nat.zero_le _) rfl aj aj (.inl rfl) aj
 ·rw[hv];refine .sl xs _ cap s us h1 h2 hl hxs hus (.inr ⟨g,0,rfl,.inr (by rw[hv];rfl),λi u hu=>?_⟩) λi j x u a b e1 e2 e3 e4=>up (hd i j x u a b e1 e2 e3 e4);rw[Nat.zero_add];exact lO hown (by rw[hv];rfl) hu
theorem BG{e:TypeId}{s id:Nat}{xs:List (List AD)}(hr:cQ Z w ρ id (.row e s xs)){c:AC}{v:Value}(h:dW Z w ρ c v):dW (Dz Z ρ id) w ρ (zK id xs c) v:=by
 have up:∀b,Z b->Dz Z ρ id b:=λb hb=> .inl hb;cases c with
 |own i=>
  simp only[zK];split
  ·rename_i hb;have hi:=Nat.eq_of_beq_eq_true hb;subst hi;have hv:v=ρ i:=h.1;subst hv;exact QY hr
  ·exact h
 |ref i k s off=>
  simp only[zK];split
  ·trivial
  ·exact h
 |d x=>exact dW.mono up (λ_ _=>rfl) (c:= .d x) h
 |ptr cs=>exact dW.mono up (λ_ _=>rfl) (c:= .ptr cs) h
 |dead=>trivial
 |und=>exact h
 |nil=>exact h
theorem wR{e:TypeId}{s id:Nat}{xs:List (List AD)}(hr:cQ Z w ρ id (.row e s xs)){x:AV}{v:Value}(h:bX Z w ρ x v):bX (Dz Z ρ id) w ρ (Oa id xs x) v:=by
 cases h with
 |one c v h=>exact .one _ _ (BG hr h)
 |agg cs us hl h=>
  refine .agg _ us (by simp[hl]) λi c u hc hu=>?_;rw[List.getElem?_map]at hc;obtain⟨c0,h0,rfl⟩:=Option.map_eq_some_iff.1 hc;exact BG hr (h i c0 u h0 hu)
 |tup vs us hl h=>exact .one _ _ trivial
theorem P5{e:TypeId}{s id j:Nat}{xs:List (List AD)}(hr:cQ Z w ρ id (.row e s xs)){o:AO}(h:jJ Z w ρ j o):jJ (Dz Z ρ id) w ρ j (RX id xs o):=by
 have up:∀b,Z b->Dz Z ρ id b:=λb hb=> .inl hb;cases o with
 |cells t cs=>
  obtain⟨b,us,hp,hg,hl,hc⟩:=(show cQ Z w ρ j (.cells t cs)from h);show cQ _ w ρ j (.cells t _);refine⟨b,us,hp,hg,by simp[hl],λi c u h1 h2=>?_⟩;rw[List.getElem?_map]at h1;obtain⟨c0,h0,rfl⟩:=Option.map_eq_some_iff.1 h1;exact BG hr (hc i c0 u h0 h2)
 |frame vs us=>
  obtain⟨h1,hl,h⟩:=(show cQ Z w ρ j (.frame vs us)from h);show cQ _ w ρ j (.frame _ us);refine⟨h1,by simp[hl],λi x u hx hu=>?_⟩;rw[List.getElem?_map]at hx;obtain⟨x0,h0,rfl⟩:=Option.map_eq_some_iff.1 hx;exact wR hr (h i x0 u h0 hu)
 |row e2 s2 ys=>exact jJ.mono up (λ_ _=>rfl) (λ_ _=>rfl) (o:= .row e2 s2 ys) h
 |any Q=>exact jJ.mono up (λ_ _=>rfl) (λ_ _=>rfl) (o:= .any Q) h
 |many P Q=>exact h
theorem xX{id:Nat}{xs:List (List AD)}{o:AO}{P:Nat->Prop}{Q:World->Prop}(h:AO.many P Q=RX id xs o):o= .many P Q:=by
 cases o<;>first|exact h.symm|cases h
theorem WS.freeze(h:WS T S Z w ρ ob){id s:Nat}{e:TypeId}{xs:List (List AD)}(ho:bA ob id=some (.row e s xs)):WS T S (Dz Z ρ id) w ρ (sT id xs ob):=by
 have hr:cQ Z w ρ id (.row e s xs):=h.obj id _ ho;refine⟨h.os,h.tape,h.output,h.size,h.old,?_,λj o b hj hb=>?_,λi j oi oj b hi hj hij hbi hbj=>?_,λj o hj=>?_,⟨λj P Q hj=>?_,λi j P Q P' Q' hi hj hij=>?_⟩,?_,λb hb=> .inl (h.z0 b hb),?_⟩
 ·rintro b (hb|hb)
  ·exact h.zlt b hb
  ·exact h.lt ho hb
 ·obtain⟨hne,o0,h0,_⟩:=iz hj;obtain⟨h1,h2⟩:=h.mine j o0 b h0 hb;refine⟨?_,h2⟩;rintro(hz|hz)
  ·exact h1 hz
  ·exact h.sep j id o0 _ b h0 ho hne hb hz
 ·obtain⟨_,o0,h0,_⟩:=iz hi;obtain⟨_,o1,h1,_⟩:=iz hj;exact h.sep i j o0 o1 b h0 h1 hij hbi hbj
 ·obtain⟨_,o0,h0,rfl⟩:=iz hj;exact P5 hr (h.obj j o0 h0)
 ·obtain⟨_,o0,h0,e0⟩:=iz hj;have:=xX e0;subst this;obtain⟨h1,h2⟩:=h.many.ok j P Q h0;refine⟨λb hb=>⟨(h1 b hb).1,?_,(h1 b hb).2.2.1,λi o hi=>?_⟩,h2⟩
  ·rintro(hz|hz)
   ·exact(h1 b hb).2.1 hz
   ·exact(h1 b hb).2.2.2 id _ ho hz
  ·obtain⟨_,o1,h3,_⟩:=iz hi;exact(h1 b hb).2.2.2 i o1 h3
 ·obtain⟨_,o0,h0,e0⟩:=iz hi;obtain⟨_,o1,h1,e1⟩:=iz hj;have:=xX e0;subst this;have:=xX e1;subst this;exact h.many.sep i j P Q P' Q' h0 h1 hij
 ·obtain⟨w1,g1,g2,g3⟩:=h.g;exact⟨w1,g1,g2,λb hb=> .inl (g3 b hb)⟩
 ·rintro b (hb|hb)
  ·exact h.znew b hb
  ·exact .inr (h.mine id _ b ho hb).2
end
theorem AWP.freeze{E:bB}{S:bV}{c:Code}{K:Exit->ASt->Prop}{tm:List AV}{ob:List (Nat×AO)}(id:Nat)(e:TypeId)(s:Nat)(xs:List (List AD))(ho:aOb ob id λo=>o= .row e s xs)
  (h:Ay id xs tm λtm=>iM id xs ob λob=>AWP E S c K ⟨tm,ob⟩):AWP E S c K ⟨tm,ob⟩:=by
 obtain⟨o,hob,rfl⟩:=co ho;have h:=fR (K:=λob=>AWP E S c K ⟨_,ob⟩) (oJ (K:=λtm=>iM id xs ob λob=>AWP E S c K ⟨tm,ob⟩) h);refine⟨λa w hs=>h.run a w ?_⟩;obtain⟨Z,ρ,hs⟩:=hs;have hr:cQ Z w ρ id (.row e s xs):=hs.ws.obj id _ hob;refine⟨Dz Z ρ id,ρ,hs.ws.freeze hob,by simp[hs.len],λi x v hx hv=>?_,hs.df⟩;simp only[List.getElem?_map]at hx;obtain⟨x0,h0,rfl⟩:=Option.map_eq_some_iff.1 hx;exact wR hr (hs.tm i x0 v h0 hv)
end
open Go.RowKit
def Af{α:Type}(R:Rep α)(enc:α->List AD):Prop:=∀{w cs a F} {Z:Nat->Prop},(∀b∈F,Z b)->R.rd w cs a F->uQ Z w (enc a) cs
theorem Af.int{k:IntKind}:Af (Rep.int k) λn=>[.pv (.int k n)]:=by
 rintro w cs a F Z _ ⟨rfl,_,_⟩;exact .one (.pv _ rfl)
theorem Af.all{α:Type}{R:Rep α}{f:α->List AD}(h:Af R f){w:World}{Z:Nat->Prop}:∀{l:List α} {xs:List Value} {F:List Nat},(∀b∈F,Z b)->R.all w xs l F->∃us:List (List Value),us.flatten=xs/\us.length=l.length/\(∀u∈us,u.length=R.size)/\
  ∀(i:Nat) a u,l[i]? =some a->us[i]? =some u->uQ Z w (f a) u
 |[],_,_,_,⟨rfl,_⟩=>⟨[],rfl,rfl,by simp,by simp⟩
 |a::l,xs,F,hz,h0=>by
  obtain⟨c1,c2,F1,F2,e1,e2,h1,h2⟩:=h0;subst e1 e2;obtain⟨us,e1,e2,e3,e4⟩:=Af.all h (λb hb=>hz b (List.mem_append_right _ hb)) h2;refine⟨c1::us,by simp[e1],by simp[e2],λu hu=>?_,λi b u hb hu=>?_⟩
  ·rcases List.mem_cons.1 hu with rfl|hu
   ·exact R.len h1
   ·exact e3 u hu
  ·cases i with
   |zero=>simp at hb hu;subst hb hu;exact h (λb hb=>hz b (List.mem_append_left _ hb)) h1
   |succ i=>exact e4 i b u (by simpa using hb) (by simpa using hu)
theorem Af.sl{α:Type}{R:Rep α}{f:α->List AD}(h:Af R f):Af (Rep.sl R) λl=>[.sl (l.map f)]:=by
 rintro w cs l F Z hz ⟨A,cap,xs,F1,rfl,hc,hm,hrow,hall,rfl⟩;obtain⟨us,rfl,e2,e3,e4⟩:=Af.all h (λb hb=>hz b (List.mem_append_right _ hb)) hall;refine .one ?_;have:=bR.sl (Z:=Z) (w:=w) (l.map f) A cap R.size us (by simpa using hc) hm (by simpa using e2) (λx hx=>?_) e3 ?_ λi j x u a b hx hu ha hb=>?_
 ·simpa using this
 ·obtain⟨a,ha,rfl⟩:=List.mem_map.1 hx;obtain⟨i,hi,rfl⟩:=List.getElem_of_mem ha;have hlt:i<us.length:=ac;have h1:=(e4 i l[i] us[i] (List.getElem?_eq_getElem hi) (List.getElem?_eq_getElem hlt)).1;rw[<-h1];exact e3 _ (List.getElem_mem hlt)
 ·by_cases h0:us.flatten=[]
  ·exact .inl h0
  ·obtain⟨b,off,hA,hlt,hcell⟩:=hrow 0 (List.length_pos_iff.2 h0);refine .inr ⟨b,off,hA,hz b (List.mem_append_left _ ?_),hcell⟩;rw[hA];simp[BI,h0]
 ·rw[List.getElem?_map]at hx;obtain⟨y,hy,rfl⟩:=Option.map_eq_some_iff.1 hx;exact(e4 i y u hy hu).2 j a b ha hb
theorem Af.bool:Af Rep.bool λb=>[.pv (.bool b)]:=by
 rintro w cs a F Z _ ⟨rfl,_⟩;exact .one (.pv _ rfl)
end Go.Proofs.YtknefkdcokgpbaaGreat
