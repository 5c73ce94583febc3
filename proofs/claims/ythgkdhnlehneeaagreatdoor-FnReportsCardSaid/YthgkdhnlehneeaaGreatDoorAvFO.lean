/- AvFO -/
import Derived.Test.YthgkdhnlehneeaaGreatDoorAvFC
import Derived.Test.YthgkdhnlehneeaaGreatDoorAvDT
import Derived.Test.YthgkdhnlehneeaaGreatDoorAvJ3
import Derived.Lib.BufferWrite
import Derived.OpenShut
set_option maxHeartbeats 8000000
set_option linter.unusedVariables false
set_option linter.unusedSimpArgs false
set_option maxRecDepth 100000
open List (all_eq_true getElem?_map map_cons map_map mem_cons mem_map mem_of_getElem? nodup_cons)
open Option (map_eq_some_iff)
namespace Go.Proofs.YthgkdhnlehneeaaGreatDoor
section
open Go.RowKit
theorem bls{xs:List (List AD)}(h:∀x∈xs,x.all AD.isBl=true:=by(intro y hy;obtain⟨a,_,rfl⟩:=List.mem_map.1 hy;rfl)):∀x∈xs,x.all AD.isBl=true:=h
structure A5 (s:Nat) (xs:List (List AD)) (K:List (List AD)->List (Nat×Nat)->Prop):Prop where
 h:((∀x∈xs,x.all AD.isBl=true)/\K xs [])\/∃(lo hi:Nat) (ys:List (List AD)),Fam lo hi xs.flatten ys.flatten/\ys.length=xs.length/\(∀y∈ys,y.length=s)/\K ys [(lo,hi)]
theorem abo{s:Nat}{xs:List (List AD)}{K:List (List AD)->List (Nat×Nat)->Prop}(hb:∀x∈xs,x.all AD.isBl=true)(hk:K xs []):A5 s xs K:=⟨.inl ⟨hb,hk⟩⟩
theorem A5.fam{s:Nat}{xs ys:List (List AD)}{K:List (List AD)->List (Nat×Nat)->Prop}{lo hi:Nat}(F:Fam lo hi xs.flatten ys.flatten)(hl:ys.length=xs.length)(hs:∀y∈ys,y.length=s)(hk:K ys [(lo,hi)]):A5 s xs K:=⟨.inr ⟨lo,hi,ys,F,hl,hs,hk⟩⟩
def DZ(ob:List (Nat×AO)):List AC->List Nat->(List AD->List (Option (List (List AD)))->List (Nat×Nat)->Prop)->Prop
 |[],_,K=>K [] [] []
 | .own id::r,L,K=>match inL L id with
  |true=>False
  |false=>aOb ob id λo=>match o with
   | .row _ s xs=>A5 s xs λys iv=>DZ ob r (id::L) λcs p IV=>K cs (some ys::p) (iv++IV)
   |_=>False
 | .d x::r,L,K=>DZ ob r L λcs p IV=>K (x::cs) (none::p) IV
 | .nil::r,L,K=>DZ ob r L λcs p IV=>K (.sl []::cs) (none::p) IV
 |_::_,_,_=>False
def ivD(a:Nat×Nat):List (Nat×Nat)->Prop
 |[]=>True
 |b::r=>(a.2<=b.1\/b.2<=a.1)/\ivD a r
def ivs(n:Nat):List (Nat×Nat)->Prop
 |[]=>True
 |a::r=>n<=a.1/\ivD a r/\ivs n r
def DK(Z:Nat->Prop)(IV:List (Nat×Nat))(b:Nat):Prop:=∃a∈IV,a.1<=b/\b<a.2/\Z b
theorem JW{a:Nat×Nat}{Z:Nat->Prop}{b:Nat}(h1:a.1<=b)(h2:b<a.2):∀{IV:List (Nat×Nat)},ivD a IV->¬DK Z IV b
 |[],_,⟨x,hx,_⟩=>by cases hx
 |c::r,hd,⟨x,hx,e1,e2,hz⟩=>by
  rcases List.mem_cons.1 hx with rfl|hx
  ·rcases hd.1 with h|h<;>omega
  ·exact JW h1 h2 hd.2 ⟨x,hx,e1,e2,hz⟩
def LQ:List (Option (List (List AD)))->List AD->List AD
 |[],_=>[]
 |some xs::p,ds=> .sl xs::LQ p ds
 |none::p,d::ds=>d::LQ p ds
 |none::_,[]=>[]
section
variable {E:bx} {S:bZ} {Z:Nat->Prop} {ρ:Nat->Value} {w:World} {ob:List (Nat×AO)}
theorem Iw(h:WS E.W S Z w ρ ob){id s lo hi:Nat}{e:TypeId}{xs ys:List (List AD)}(ho:bw ob id=some (.row e s xs))(hf:Fam lo hi xs.flatten ys.flatten)(hyl:ys.length=xs.length)(hys:∀y∈ys,y.length=s):nD w (λb=>ch (ρ id)=some b\/(lo<=b/\b<hi/\Z b)) (.sl ys) (ρ id):=by
 obtain⟨us,h0,hl,hxs,hus,hown,hd⟩:=h.obj id _ ho;have hlx:xs.flatten.length=xs.length*s:=wS hxs;obtain⟨lF,Q,q,eQ,rQ⟩:=hf.2 Z w us.flatten (by rw[wS hus,hlx,hl]) λi c u hc hu=>by
  have hi:i<xs.length*s:=by rw[<-hlx];exact(List.getElem?_eq_some_iff.1 hc).1
  have hs:0<s:=h0;have hdm:i=i/s*s+i % s:=(Nat.div_add_mod' i s).symm;have hr:i % s<s:=Nat.mod_lt _ hs;have hk:i/s<xs.length:=Nat.div_lt_of_lt_mul (by rw[Nat.mul_comm];exact hi);rw[hdm,qe hxs (List.getElem?_eq_getElem hk) hr]at hc;rw[hdm,qe hus (List.getElem?_eq_getElem ac) hr]at hu;exact hd _ _ _ _ c u (List.getElem?_eq_getElem hk) (List.getElem?_eq_getElem ac) hc hu
 refine .sl _ ys e s us _ Q h0 (by rw[hl,hyl]) hys hus (by rw[hyl];exact hown) (λb hb=>?_) (λi b hb=> .inr (q i b hb)) eQ rQ;exact⟨.inl hb,λi hq=>(h.mine id _ b ho hb).1 (q i b hq).2.2⟩
theorem P8{xs:List (List AD)}(h:∀x∈xs,x.all AD.isBl=true):xs.flatten.all AD.isBl=true:=by
 rw[List.all_eq_true];intro a ha;obtain⟨x,hx,hax⟩:=List.mem_flatten.1 ha;exact List.all_eq_true.1 (h x hx) a hax
def SO(ρ:Nat->Value)(ob:List (Nat×AO))(L:List Nat)(b:Nat):Prop:=∃id o,inL L id=false/\bw ob id=some o/\ch (ρ id)=some b
theorem zQ{L:List Nat}{i j:Nat}(h:inL (i::L) j=false):inL L j=false/\j≠i:=by
 simp only[inL,List.contains_cons,Bool.or_eq_false_iff,beq_eq_false_iff_ne]at h;exact⟨h.2,h.1⟩
theorem zF(h:WS E.W S Z w ρ ob):∀{cs:List AC} {us:List Value} {L:List Nat} {K:List AD->List (Option (List (List AD)))->List (Nat×Nat)->Prop},us.length=cs.length->(∀(i:Nat) c u,cs[i]? =some c->us[i]? =some u->fp Z w ρ c u)->DZ ob cs L K->
  ∃cs' pat us' IV,K cs' pat IV/\us'.length=cs'.length/\(∀(i:Nat) c u,cs'[i]? =some c->us'[i]? =some u->co Z w c u)/\∀(n:Nat) (P:Nat->Prop) ds,ivs n IV->fm w P ds us'->(∀b,P b->Z b/\¬DK Z IV b)->fm w (λb=>P b\/SO ρ ob L b\/DK Z IV b) (LQ pat ds) us
 |[],[],L,K,_,_,hk=>⟨[],[],[],[],hk,rfl,by simp,λn P ds _ hf _=>by
   have:ds=[]:=List.eq_nil_of_length_eq_zero (by simpa using hf.1.symm);subst this;exact fm.nil⟩
 |[],_::_,_,_,hl,_,_=>by simp at hl
 |_::_,[],_,_,hl,_,_=>by simp at hl
 |c::r,u::us,L,K,hl,hr,hk=>by
  have hl':us.length=r.length:=by simpa using hl
  have hr':∀(i:Nat) c u,r[i]? =some c->us[i]? =some u->fp Z w ρ c u:=λi x y h1 h2=>hr (i+1) x y (by simpa using h1) (by simpa using h2);have h0:fp Z w ρ c u:=hr 0 c u rfl rfl;have data:∀x:AD,co Z w x u->(DZ ob r L λcs p IV=>K (x::cs) (none::p) IV)->∃cs' pat us' IV,K cs' pat IV/\us'.length=cs'.length/\(∀(i:Nat) c u,cs'[i]? =some c->us'[i]? =some u->co Z w c u)/\∀(n:Nat) (P:Nat->Prop) ds,ivs n IV->fm w P ds us'->(∀b,P b->Z b/\¬DK Z IV b)->fm w (λb=>P b\/SO ρ ob L b\/DK Z IV b) (LQ pat ds) (u::us):=λx hx hk=>by
   obtain⟨cs',pat,us',IV,hK,h1,h2,h3⟩:=zF h hl' hr' hk;refine⟨x::cs',none::pat,u::us',IV,hK,by simp[h1],λi y v e1 e2=>?_,λn P ds hiv hf hP=>?_⟩
   ·cases i with
    |zero=>simp at e1 e2;subst e1 e2;exact hx
    |succ i=>exact h2 i y v (by simpa using e1) (by simpa using e2)
   ·cases ds with
    |nil=>have:=hf.1;simp at this
    |cons d ds=>
     obtain⟨u1,u2,P1,P2,eu,dj,a1,a2,f1,f2⟩:=fm.split (d1:=[d]) (d2:=ds) hf;have hu1:u1=[u]/\u2=us':=by
      have:=f1.1;match u1,this with
      |[y],_=>injection eu with e1 e2;exact⟨by rw[e1],e2.symm⟩
     obtain⟨rfl,rfl⟩:=hu1;have:=fm.append (P:=λb=>P b\/SO ρ ob L b\/DK Z IV b) f1 (h3 n P2 ds hiv f2 λb hb=>hP b (a2 b hb)) (λb q1 q2=>by
      rcases q2 with q2|⟨id,o,_,ho,hb⟩|q2
      ·exact dj b q1 q2
      ·exact(h.mine id o b ho hb).1 (hP b (a1 b q1)).1
      ·exact(hP b (a1 b q1)).2 q2) (λb q=> .inl (a1 b q)) (λb q=>q.imp (a2 b) id)
     simpa[LQ]using this
  cases c with
  |own id=>
   simp only[DZ]at hk;split at hk
   ·exact hk.elim
   ·rename_i hin;obtain⟨o,ho,hk⟩:=da hk;split at hk
    ·rename_i e s xs;have hu:u=ρ id:=h0.1;subst hu;rcases hk.h with⟨hb,hk⟩|⟨lo,hi,ys,hF,hyl,hys,hk⟩
     ·obtain⟨cs',pat,us',IV,hK,h1,h2,h3⟩:=zF h hl' hr' hk;refine⟨cs',some xs::pat,us',IV,hK,h1,h2,λn P ds hiv hf hP=>?_⟩;have hxs:=(h.obj id _ ho).choose_spec.2.2.1;have hrel:=Iw (lo:=0) (hi:=0) h ho (aaU (P8 hb)) rfl hxs;have:=fm.append (P:=λb=>P b\/SO ρ ob L b\/DK Z IV b) (fm.one hrel) (h3 n P ds hiv hf hP) (λb q1 q2=>by
       rcases q1 with q1|q1
       ·rcases q2 with q2|⟨id2,o2,hin2,ho2,hb2⟩|⟨_,_,_,_,q2⟩
        ·exact(h.mine id _ b ho q1).1 (hP b q2).1
        ·exact h.sep id2 id o2 _ b ho2 ho (zQ hin2).2 hb2 q1
        ·exact(h.mine id _ b ho q1).1 q2
       ·omega) (λb q=>by
       rcases q with q|q
       ·exact .inr (.inl ⟨id,_,hin,ho,q⟩)
       ·omega) (λb q=>q.imp (λh=>h) λq=>q.imp (fun⟨id2,o2,a,b,c⟩=>⟨id2,o2,(zQ a).1,b,c⟩) λh=>h)
      simpa[LQ]using this
     ·obtain⟨cs',pat,us',IV,hK,h1,h2,h3⟩:=zF h hl' hr' hk;refine⟨cs',some ys::pat,us',(lo,hi)::IV,hK,h1,h2,λn P ds hiv hf hP=>?_⟩;have inr:∀b,DK Z IV b->DK Z ((lo,hi)::IV) b:=λb ⟨a,ha,q⟩=>⟨a,by simp[ha],q⟩;have hrel:=Iw h ho hF hyl hys;have:=fm.append (P:=λb=>P b\/SO ρ ob L b\/DK Z ((lo,hi)::IV) b) (fm.one hrel) (h3 n P ds hiv.2.2 hf λb hb=>⟨(hP b hb).1,λq=>(hP b hb).2 (inr b q)⟩) (λb q1 q2=>by
       rcases q1 with q1|⟨q1,q1',q1z⟩
       ·rcases q2 with q2|⟨id2,o2,hin2,ho2,hb2⟩|⟨_,_,_,_,q2⟩
        ·exact(h.mine id _ b ho q1).1 (hP b q2).1
        ·exact h.sep id2 id o2 _ b ho2 ho (zQ hin2).2 hb2 q1
        ·exact(h.mine id _ b ho q1).1 q2
       ·rcases q2 with q2|⟨id2,o2,hin2,ho2,hb2⟩|q2
        ·exact(hP b q2).2 ⟨(lo,hi),by simp,q1,q1',q1z⟩
        ·exact(h.mine id2 _ b ho2 hb2).1 q1z
        ·exact JW q1 q1' hiv.2.1 q2) (λb q=>by
       rcases q with q|q
       ·exact .inr (.inl ⟨id,_,hin,ho,q⟩)
       ·exact .inr (.inr ⟨(lo,hi),by simp,q⟩)) (λb q=>q.imp (λh=>h) λq=>q.imp (fun⟨id2,o2,a,b,c⟩=>⟨id2,o2,(zQ a).1,b,c⟩) (inr b))
      simpa[LQ]using this
    ·exact hk.elim
  |d x=>exact data x h0 hk
  |nil=>
   have hu:u= .slice none 0 0:=h0;exact data (.sl []) (by rw[hu];exact .sl [] none 0 0 [] (Nat.le_refl _) (Nat.zero_le _) rfl ah ah (.inl rfl) ah) hk
  |_=>exact hk.elim
theorem Qm{n:Nat}{Z:Nat->Prop}{b:Nat}:∀{IV:List (Nat×Nat)},ivs n IV->DK Z IV b->n<=b/\Z b
 |[],_,⟨_,h,_⟩=>by cases h
 |a::r,hi,⟨x,hx,e1,e2,hz⟩=>by
  rcases List.mem_cons.1 hx with rfl|hx
  ·exact⟨Nat.le_trans hi.1 e1,hz⟩
  ·exact Qm hi.2.2 ⟨x,hx,e1,e2,hz⟩
end
def PL(ob:List (Nat×AO))(n:Nat)(x:AV)(res:AP1):Prop:=
 match x with
 | .agg cs=>DZ ob cs [] λcs' pat IV=>∃(lo hi:Nat) (ds:List AD),ivs n ((lo,hi)::IV)/\Fam lo hi cs' ds/\res= .agg (LQ pat ds)
 |_=>False
def K2(E:bx)(st:ASt)(n:Nat)(rs:List ResultVar)(res:AP1):Prop:=
 match rs with
 |[.tmp t]=>aTm st.tm t λv=>PL st.ob n v res
 |[.cell t ty]=>aTm st.tm t λx=>xP E st ty x λv=>PL st.ob n v res
 |_=>False
def Zr(E:bx)(rs:List ResultVar)(n:Nat)(res:AP1):Exit->ASt->Prop
 | .ret,st=>K2 E st n rs res
 | .normal,st=>K2 E st n rs res
 |_,_=>False
section
variable {E:bx} {S:bZ}
theorem Hv{st:ASt}{Z:Nat->Prop}{ρ:Nat->Value}{w:World}(h:WS E.W S Z w ρ st.ob)(hO:∀b,¬S.O b){x:AV}{v:Value}{res:AP1}(hv:cu Z w ρ x v)(hk:PL st.ob S.w0.heap.size x res):Ji S.w0.heap.size w.heap.size w res v:=by
 unfold PL at hk;split at hk
 ·cases hv with
  |agg _ us hl hr=>
   obtain⟨cs',pat,us',IV,⟨lo,hi,ds,hiv,hf,rfl⟩,h1,h2,h3⟩:=zF h hl hr hk;refine⟨us,rfl,(h3 _ _ ds hiv.2.2 (hf.2 Z w us' h1 h2) λb hb=>⟨hb.2.2,JW hb.1 hb.2.1 hiv.2.1⟩).mono λb hb=>?_⟩;rcases hb with hb|⟨id,o,_,ho,hbk⟩|hb
   ·exact⟨Nat.le_trans hiv.1 hb.1,h.zlt b hb.2.2⟩
   ·exact⟨(h.mine id o b ho hbk).2.resolve_right (hO b),h.lt ho hbk⟩
   ·have:=Qm hiv.2.2 hb;exact⟨this.1,h.zlt b this.2⟩
 ·exact hk.elim
theorem Q7{st:ASt}(he:E.Ok){Z:Nat->Prop}{ρ:Nat->Value}{a:Act}{w:World}(h:Sim E.W S Z ρ st a w)(hO:∀b,¬S.O b){fn:Func}{res:AP1}(hk:K2 E st S.w0.heap.size fn.results.toList res):
  ∃v,(results fn a.tmps).run E.P w= .ok v w/\Ji S.w0.heap.size w.heap.size w res v:=by
 have hres:∀vs:List Value,(fn.results.toList.mapM (fJ a.tmps)).run E.P w= .ok vs w->(results fn a.tmps).run E.P w= .ok (if h:vs.toArray.size=1 then vs.toArray[0]else .tuple vs.toArray) w:=by
  intro vs hvs;have e:results fn a.tmps=(do let vs<-fn.results.mapM (fJ a.tmps);pure (if h:vs.size=1 then vs[0]else .tuple vs)):=rfl;rw[e,Sem.run_bind,Array.mapM_eq_mapM_toList,Sem.run_map,hvs];rfl
 unfold K2 at hk;split at hk
 ·rename_i t hr;obtain⟨x,hx,hk⟩:=jU hk;have hlt:t<a.tmps.size:=by rw[h.len];exact(List.getElem?_eq_some_iff.1 hx).1
  have hp:=Hv h.ws hO (h.tm t x _ hx (Array.getElem?_eq_getElem hlt)) hk;have h1:(fJ a.tmps (.tmp t)).run E.P w= .ok a.tmps[t] w:=by simp[fJ,hlt]
  have:=hres [a.tmps[t]] (by rw[hr,List.mapM_cons,Sem.run_bind,h1];rfl);exact⟨a.tmps[t],this,hp⟩
 ·rename_i t ty hr;obtain⟨x,hx,hk⟩:=jU hk;have hlt:t<a.tmps.size:=by rw[h.len];exact(List.getElem?_eq_some_iff.1 hx).1
  obtain⟨b,off,v,y,e,hrl,hy,hk⟩:=vH he h (h.tm t x _ hx (Array.getElem?_eq_getElem hlt)) hk;have hp:=Hv h.ws hO hy hk;have h1:(fJ a.tmps (.cell t ty)).run E.P w= .ok v w:=by simp[fJ,hlt,e,asAddr,hrl]
  have:=hres [v] (by rw[hr,List.mapM_cons,Sem.run_bind,h1];rfl);exact⟨v,this,hp⟩
 ·exact hk.elim
theorem lR(he:E.Ok){f:FuncId}{fn:Func}{c:Code}{n:Nat}{rs:List ResultVar}{args:List AP1}{res:AP1}(hf:E.P.funcs[f]? =some fn)(hb:fn.body=some c)
  (enter:∀(us:Array Value) w,(callFunc f us).run E.P w= .ok (.enter f us) w) (hn:fn.ntmps=n) (hrs:fn.results.toList=rs)
  (h:∀S:bZ,BW args n λtm=>AWP E S c (Zr E rs S.w0.heap.size res) ⟨tm,[(9997,sR S.w0.heap.size S.w0.heap.size)]⟩):jt E f args res:=by
 refine⟨enter,λZ w us hz hg hl hr=>?_⟩;subst hn hrs;obtain⟨hle,hk⟩:=ng (h ⟨w,λ_=>False,Z⟩);have hs:Sim E.W ⟨w,λ_=>False,Z⟩ Z (λ_=>undef) ⟨args.map AP1.v++List.replicate (fn.ntmps-args.length) (.one .und),[(9997,sR w.heap.size w.heap.size)]⟩ {tmps:=us.toArray++Array.replicate (fn.ntmps-us.toArray.size) undef,defers:=[]} w:=by
  have hw0:WS E.W ⟨w,λ_=>False,Z⟩ Z w (λ_=>undef) []:=⟨rfl,rfl,rfl,Nat.le_refl _,λ_ _ _=>rfl,hz,λid o b ho _=>(by cases ho),λi j oi oj b hi _ _ _ _=>(by cases hi),λid o ho=>(by cases ho),kj.nil,hg,λb hb=>hb,λb hb=> .inl hb⟩;refine⟨hw0.reframe (id:=9997) (BE rfl (.inl (Nat.le_refl _))),by simp[hl],λi x v hx hv=>?_,rfl⟩;simp only at hx hv;have hv':(us++List.replicate (fn.ntmps-us.length) undef)[i]? =some v:=by
   have:=hv;rw[<-Array.getElem?_toList]at this;simpa using this
  by_cases hi:i<us.length
  ·rw[List.getElem?_append_left (by simpa[hl]using hi),List.getElem?_map]at hx;obtain⟨p,hp,rfl⟩:=Option.map_eq_some_iff.1 hx;rw[List.getElem?_append_left hi]at hv';exact(hr i p v hp hv').v
  ·rw[List.getElem?_append_right al]at hx;rw[List.getElem?_append_right ac]at hv';have e1:=List.eq_of_mem_replicate (List.mem_of_getElem? hx);have e2:=List.eq_of_mem_replicate (List.mem_of_getElem? hv');subst e1 e2;exact .one _ _ (show fp Z w (λ_=>undef) .und undef from rfl)
 refine calls_of_wp hf hb (wp_mono (hk.run _ w ⟨Z,_,hs⟩) λe a' w' h'=>?_);obtain⟨st',⟨Z',ρ',hs'⟩,hk'⟩:=h';have fin:K2 E st' w.heap.size fn.results.toList res->a'.defers=[]/\∃v,(results fn a'.tmps).run E.P w'= .ok v w'/\∃v0,Ending.returned v= .returned v0/\Below w.heap.size w w'/\Ji w.heap.size w'.heap.size w' res v0:=by
  intro hr;obtain⟨v,h1,h2⟩:=Q7 he hs' (λb h=>h) hr;exact⟨hs'.df,v,h1,v,rfl,⟨hs'.ws.os,hs'.ws.tape,hs'.ws.output,hs'.ws.size,λb hb=>hs'.ws.old b hb (λh=>h)⟩,h2⟩
 cases e with
 |normal=>exact fin hk'
 |ret=>exact fin hk'
 |_=>exact hk'.elim
end
end
section
section
open Go.RowKit
inductive AA where
 |one (c:AC)
 |agg (cs:List AC)
inductive AR where
 |val (a:AA)
 |tup (l:List AA)
def AA.v:AA->AV
 | .one c=> .one c
 | .agg cs=> .agg cs
def AR.v:AR->AV
 | .val a=>a.v
 | .tup l=> .tup (l.map AA.v)
def gV(w:World)(Z:Nat->Prop)(ρ:Nat->Value)(pre:List (Nat×AO)):bZ:=⟨w,λb=>∃id o,bw pre id=some o/\ch (ρ id)=some b,Z⟩
structure dd (E:bx) (f:FuncId) (args:List AA) (pre post:List (Nat×AO)) (keep:List Nat) (res:AR):Prop where
 enter:∀(us:Array Value) w,(callFunc f us).run E.P w= .ok (.enter f us) w
 run:∀(Z:Nat->Prop) (w:World) (ρ:Nat->Value) (us:List Value),WS E.W (gV w Z ρ pre) Z w ρ pre->us.length=args.length->(∀(i:Nat) x u,args[i]? =some x->us[i]? =some u->cu Z w ρ x.v u)->
  Calls E.P f us.toArray w λe w'=>∃v Z' ρ',e= .returned v/\WS E.W (gV w Z ρ pre) Z' w' ρ' post/\(∀id∈keep,ρ' id=ρ id)/\cu Z' w' ρ' res.v v
def fi:List (Nat×AO)->Nat->Bool
 |[],_=>false
 |(k,_)::r,i=>match Nat.beq k i with
  |true=>true
  |false=>fi r i
theorem dl:∀{l:List (Nat×AO)} {i:Nat},fi l i=true↔∃o,bw l i=some o
 |[],i=>by simp[fi,bw]
 |(k,o)::r,i=>by
  simp only[fi,bw];cases e:Nat.beq k i with
  |true=>rw[if_pos (Nat.eq_of_beq_eq_true e)];simp
  |false=>rw[if_neg (Nat.ne_of_beq_eq_false e)];exact dl
theorem KW{l:List (Nat×AO)}{i:Nat}(h:fi l i=false):bw l i=none:=by
 cases e:bw l i with
 |none=>rfl
 |some o=>rw[dl.2 ⟨o,e⟩]at h;cases h
def Eb(post ob:List (Nat×AO))(c:AC)(K:AC->Prop):Prop:=
 match c with
 | .own id=>match fi post id with
  |true=>K (.own id)
  |false=>aOb ob id λo=>match o with
   | .row _ _ xs=>K (.d (.sl xs))
   |_=>False
 | .ref id k s off=>match fi post id with
  |true=>K (.ref id k s off)
  |false=>False
 |c=>K c
def NK(post ob:List (Nat×AO)):List AC->(List AC->Prop)->Prop
 |[],K=>K []
 |c::r,K=>Eb post ob c λc=>NK post ob r λr=>K (c::r)
def SV(post ob:List (Nat×AO))(x:AV)(K:AA->Prop):Prop:=
 match x with
 | .one c=>Eb post ob c λc=>K (.one c)
 | .agg cs=>NK post ob cs λcs=>K (.agg cs)
 | .tup _=>False
def yq(Z:Nat->Prop)(ρ:Nat->Value)(ob post:List (Nat×AO))(b:Nat):Prop:=Z b\/∃id o,bw ob id=some o/\fi post id=false/\ch (ρ id)=some b
section
variable {T:World->Prop} {S:bZ} {Z:Nat->Prop} {w:World} {ρ:Nat->Value} {ob post:List (Nat×AO)}
theorem Ho(h:WS T S Z w ρ ob){c:AC}{K:AC->Prop}{v:Value}(hv:fp Z w ρ c v)(hk:Eb post ob c K):∃c',fp (yq Z ρ ob post) w ρ c' v/\K c':=by
 have upb:∀b,Z b->yq Z ρ ob post b:=λb hb=> .inl hb;have up:∀{d:AD} {v:Value},co Z w d v->co (yq Z ρ ob post) w d v:=λhd=>hd.mono upb λ_ _=>rfl;cases c with
 |own id=>
  cases e:fi post id with
  |true=>simp only[Eb,e]at hk;exact⟨.own id,hv,hk⟩
  |false=>
   simp only[Eb,e]at hk;obtain⟨o,ho,hk⟩:=da hk;split at hk
   ·rename_i e' s xs;obtain⟨us,h0,hl,hxs,hus,hown,hd⟩:=h.obj id _ ho;refine⟨.d (.sl xs),?_,hk⟩;have hv:v=ρ id:=hv.1;subst hv;show co (yq Z ρ ob post) w (.sl xs) (ρ id);rcases hown.2 with⟨hv,hn⟩|⟨g,cap,cur,hv,_,hg,h1,h2,h3,h4⟩
    ·have:xs=[]:=List.eq_nil_of_length_eq_zero hn;subst this;rw[hv];exact .sl [] none 0 0 [] (Nat.le_refl _) (Nat.zero_le _) rfl ah ah (.inl rfl) ah
    ·rw[hv];refine .sl xs _ cap s us h1 h2 hl hxs hus (.inr ⟨g,0,rfl,.inr ⟨id,_,ho,e,by rw[hv];rfl⟩,λi u hu=>?_⟩) λi j x u a b e1 e2 e3 e4=>up (hd i j x u a b e1 e2 e3 e4);rw[Nat.zero_add];exact qt hown (by rw[hv];rfl) hu
   ·exact hk.elim
 |ref id k s off=>
  cases e:fi post id with
  |true=>simp only[Eb,e]at hk;exact⟨.ref id k s off,hv,hk⟩
  |false=>simp only[Eb,e]at hk
 |_=>exact⟨_,fp.mono upb (λ_ _=>rfl) hv,hk⟩
theorem Ec(h:WS T S Z w ρ ob):∀{cs:List AC} {us:List Value} {K:List AC->Prop},DL Z w ρ cs us->NK post ob cs K->∃ds,us.length=ds.length/\(∀(i:Nat) d u,ds[i]? =some d->us[i]? =some u->fp (yq Z ρ ob post) w ρ d u)/\K ds
 |[],us,K,hr,hk=>⟨[],hr.1,by simp,hk⟩
 |c::r,[],K,hr,hk=>by have:=hr.1;simp at this
 |c::r,u::us,K,hr,hk=>by
  obtain⟨d,hd,hk⟩:=Ho h (hr.2 0 c u rfl rfl) hk;obtain⟨ds,hl,hds,hk⟩:=Ec h (cs:=r) (us:=us) ⟨by simpa using hr.1,λi c u h1 h2=>hr.2 (i+1) c u (by simpa using h1) (by simpa using h2)⟩ hk;refine⟨d::ds,by simp[hl],λi x y h1 h2=>?_,hk⟩;cases i with
  |zero=>simp at h1 h2;subst h1 h2;exact hd
  |succ i=>exact hds i x y (by simpa using h1) (by simpa using h2)
theorem Hp(h:WS T S Z w ρ ob){x:AV}{K:AA->Prop}{v:Value}(hv:cu Z w ρ x v)(hk:SV post ob x K):∃p,cu (yq Z ρ ob post) w ρ p.v v/\K p:=by
 cases hv with
 |one c v hv=>obtain⟨d,hd,hk⟩:=Ho (K:=λc=>K (.one c)) h hv hk;exact⟨.one d,.one _ _ hd,hk⟩
 |agg cs us hl hr=>obtain⟨ds,h1,h2,hk⟩:=Ec (K:=λcs=>K (.agg cs)) h ⟨hl,hr⟩ hk;exact⟨.agg ds,.agg _ _ h1 h2,hk⟩
 |tup vs us hl hr=>exact hk.elim
theorem WS.out(h:WS T S Z w ρ ob)(hs:aK ob post):WS T S (yq Z ρ ob post) w ρ post:=by
 have h':=h.sub hs;refine⟨h.os,h.tape,h.output,h.size,h.old,?_,λid o b ho hb=>⟨?_,(h'.mine id o b ho hb).2⟩,h'.sep,λid o ho=>(h'.obj id o ho).mono (λb hb=> .inl hb) (λ_ _=>rfl) λ_ _=>rfl,⟨λid P Q ho=>⟨λb hb=>?_,(h.many.ok id P Q (hs _ _ ho)).2⟩,λi j P Q P' Q' hi hj=>h.many.sep i j P Q P' Q' (hs _ _ hi) (hs _ _ hj)⟩,?_,λb hb=> .inl (h.z0 b hb),?_⟩
 ·rintro b (hb|⟨id,o,ho,_,hb⟩)
  ·exact h.zlt b hb
  ·exact h.lt ho hb
 ·rintro(hz|⟨id2,o2,ho2,hn,hb2⟩)
  ·exact(h'.mine id o b ho hb).1 hz
  ·refine h.sep id id2 o o2 b (hs id o ho) ho2 (λe=>?_) hb hb2;subst e;rw[dl.2 ⟨o,ho⟩]at hn;cases hn
 ·obtain⟨h1,h2,h3,h4⟩:=(h.many.ok id P Q (hs _ _ ho)).1 b hb;refine⟨h1,?_,h3,λj o hj=>h4 j o (hs _ _ hj)⟩;rintro(hz|⟨id2,o2,ho2,_,hb2⟩)
  ·exact h2 hz
  ·exact h4 id2 o2 ho2 hb2
 ·obtain⟨w1,g1,g2,g3⟩:=h.g;exact⟨w1,g1,g2,λb hb=> .inl (g3 b hb)⟩
 ·rintro b (hb|⟨id,o,ho,_,hb⟩)
  ·exact h.znew b hb
  ·exact .inr (h.mine id o b ho hb).2
end
section
variable {E:bx} {S:bZ} {st:ASt}
def NL(E:bx)(st:ASt)(post:List (Nat×AO))(r:ResultVar)(K:AA->Prop):Prop:=
 match r with
 | .tmp t=>aTm st.tm t λv=>SV post st.ob v K
 | .cell t ty=>aTm st.tm t λx=>xP E st ty x λv=>SV post st.ob v K
def NM(E:bx)(st:ASt)(post:List (Nat×AO)):List ResultVar->(List AA->Prop)->Prop
 |[],K=>K []
 |r::rs,K=>NL E st post r λp=>NM E st post rs λps=>K (p::ps)
def B3(E:bx)(st:ASt)(post:List (Nat×AO))(rs:List ResultVar)(K:AR->Prop):Prop:=
 match rs with
 |[r]=>NL E st post r λp=>K (.val p)
 |rs=>NM E st post rs λps=>K (.tup ps)
def BV(ob:List (Nat×AO)):List (Nat×AO)->Prop
 |[]=>True
 |(i,o)::r=>aOb ob i λo'=>o'=o/\BV ob r
theorem pD{ob:List (Nat×AO)}:∀{l:List (Nat×AO)},BV ob l->aK ob l
 |[],_=>aaE
 |(i,o)::r,h=>by
  obtain⟨o',ho,rfl,hr⟩:=da h;exact aaC ho (pD hr)
def dC(keep:List Nat):List AV:=keep.map λid=> .one (.ref id 0 0 0)
def Zs(E:bx)(rs:List ResultVar)(post:List (Nat×AO))(keep:List Nat)(pv:List Value)(res:AR):Exit->ASt->Prop
 | .ret,st=>B3 E st post rs λv=>v=res/\BV st.ob ((9999,.frame (dC keep) pv)::post)
 | .normal,st=>B3 E st post rs λv=>v=res/\BV st.ob ((9999,.frame (dC keep) pv)::post)
 |_,_=>False
theorem Ek(he:E.Ok){post:List (Nat×AO)}{Z:Nat->Prop}{ρ:Nat->Value}{a:Act}{w:World}(h:Sim E.W S Z ρ st a w){r:ResultVar}{K:AA->Prop}(hk:NL E st post r K):
  ∃(v:Value) (p:AA),(fJ a.tmps r).run E.P w= .ok v w/\cu (yq Z ρ st.ob post) w ρ p.v v/\K p:=by
 cases r with
 |tmp t=>
  obtain⟨x,hx,hk⟩:=jU hk;have hlt:t<a.tmps.size:=by rw[h.len];exact(List.getElem?_eq_some_iff.1 hx).1
  obtain⟨p,hp,hk⟩:=Hp h.ws (h.tm t x _ hx (Array.getElem?_eq_getElem hlt)) hk;exact⟨a.tmps[t],p,by simp[fJ,hlt],hp,hk⟩
 |cell t ty=>
  obtain⟨x,hx,hk⟩:=jU hk;have hlt:t<a.tmps.size:=by rw[h.len];exact(List.getElem?_eq_some_iff.1 hx).1
  obtain⟨b,off,v,y,e,hr,hy,hk⟩:=vH he h (h.tm t x _ hx (Array.getElem?_eq_getElem hlt)) hk;obtain⟨p,hp,hk⟩:=Hp h.ws hy hk;refine⟨v,p,?_,hp,hk⟩;simp[fJ,hlt,e,asAddr,hr]
theorem Em(he:E.Ok){post:List (Nat×AO)}{Z:Nat->Prop}{ρ:Nat->Value}{a:Act}{w:World}(h:Sim E.W S Z ρ st a w):∀{rs:List ResultVar} {K:List AA->Prop},NM E st post rs K->
  ∃(vs:List Value) (ps:List AA),(rs.mapM (fJ a.tmps)).run E.P w= .ok vs w/\vs.length=ps.length/\(∀(i:Nat) p u,ps[i]? =some p->vs[i]? =some u->cu (yq Z ρ st.ob post) w ρ p.v u)/\ps.length=rs.length/\K ps
 |[],K,hk=>⟨[],[],rfl,rfl,by simp,rfl,hk⟩
 |r::rs,K,hk=>by
  obtain⟨v,p,h1,h2,hk⟩:=Ek he h hk;obtain⟨vs,ps,h3,h4,h5,h6,hk⟩:=Em he h (rs:=rs) hk;refine⟨v::vs,p::ps,?_,by simp[h4],λi q u h7 h8=>?_,by simp[h6],hk⟩
  ·rw[List.mapM_cons,Sem.run_bind,h1];simp only[Result.andThen_ok];rw[Sem.run_bind,h3];rfl
  ·cases i with
   |zero=>simp at h7 h8;subst h7 h8;exact h2
   |succ i=>exact h5 i q u (by simpa using h7) (by simpa using h8)
theorem Hx(he:E.Ok){post:List (Nat×AO)}{Z:Nat->Prop}{ρ:Nat->Value}{a:Act}{w:World}(h:Sim E.W S Z ρ st a w){fn:Func}{K:AR->Prop}(hk:B3 E st post fn.results.toList K):
  ∃v p,(results fn a.tmps).run E.P w= .ok v w/\cu (yq Z ρ st.ob post) w ρ p.v v/\K p:=by
 unfold B3 at hk;have hres:∀vs:List Value,(fn.results.toList.mapM (fJ a.tmps)).run E.P w= .ok vs w->(results fn a.tmps).run E.P w= .ok (if h:vs.toArray.size=1 then vs.toArray[0]else .tuple vs.toArray) w:=by
  intro vs hvs;have e:results fn a.tmps=(do let vs<-fn.results.mapM (fJ a.tmps);pure (if h:vs.size=1 then vs[0]else .tuple vs)):=rfl;rw[e,Sem.run_bind,Array.mapM_eq_mapM_toList,Sem.run_map,hvs];rfl
 split at hk
 ·rename_i r hr;obtain⟨v,p,h1,h2,hk⟩:=Ek he h hk;refine⟨v,.val p,?_,h2,hk⟩;have:=hres [v] (by rw[hr,List.mapM_cons,Sem.run_bind,h1];rfl);rw[this];rfl
 ·rename_i hne;obtain⟨vs,ps,h1,h2,h3,h4,hk⟩:=Em he h hk;refine⟨_,.tup ps,hres vs h1,?_,hk⟩;have:¬vs.toArray.size=1:=by
   intro e;have:fn.results.toList.length=1:=by simp at e;omega
   obtain⟨r,hr⟩:=List.length_eq_one_iff.1 this;exact hne r hr
  rw[dif_neg this];refine .tup _ vs (by simp[h2]) λi x u hx hu=>?_;rw[getElem?_map]at hx;obtain⟨p,hp,rfl⟩:=map_eq_some_iff.1 hx;exact h3 i p u hp hu
end
def HG(p:AA)(K:AV->Prop):Prop:=
 match p with
 | .one c=>K (.one c)
 | .agg cs=>K (.agg cs)
theorem Bi{p:AA}{K:AV->Prop}(h:HG p K):K p.v:=by cases p<;>exact h
def Js:List AA->Nat->(List AV->Prop)->Prop
 |[],n,K=>PR n K
 |_::_,0,_=>False
 |p::r,n+1,K=>HG p λv=>Js r n λtm=>K (v::tm)
theorem yw:∀{args:List AA} {n:Nat} {K:List AV->Prop},Js args n K->args.length<=n/\K (args.map AA.v++List.replicate (n-args.length) (.one .und))
 |[],n,K,h=>⟨Nat.zero_le _,by simpa using Bh h⟩
 |_::_,0,_,h=>h.elim
 |p::r,n+1,K,h=>by
  obtain⟨h1,h2⟩:=yw (args:=r) (n:=n) (K:=λtm=>K (p.v::tm)) (Bi h);refine⟨by simp;omega,?_⟩;simpa[Nat.succ_sub_succ]using h2
def isCells(ob:List (Nat×AO))(i:Nat):Bool:=match bw ob i with
 |some (.cells _ _)=>true
 |_=>false
def V0(id:Nat):AA->Bool
 | .one c=>sU id c
 | .agg cs=>cs.all (sU id)
theorem Qt{id:Nat}{a:AA}(h:V0 id a=true):yd id a.v=true:=by cases a<;>exact h
def Qx(args:List AA)(pre post:List (Nat×AO))(keep:List Nat):Bool:=
 args.all (V0 9999)&&pre.all (λp=>Ik 9999 p.2)&& !fi pre 9999&&keep.all (λi=>isCells pre i&&isCells post i)
theorem kD{ob:List (Nat×AO)}{i:Nat}(h:isCells ob i=true):∃t cs,bw ob i=some (.cells t cs):=by
 unfold isCells at h;split at h
 ·rename_i t cs e;exact⟨t,cs,e⟩
 ·cases h
theorem cH{E:bx}(he:E.Ok){f:FuncId}{fn:Func}{c:Code}{n:Nat}{rs:List ResultVar}{args:List AA}{pre post:List (Nat×AO)}{keep:List Nat}{res:AR}(hf:E.P.funcs[f]? =some fn)(hb:fn.body=some c)
  (enter:∀(us:Array Value) w,(callFunc f us).run E.P w= .ok (.enter f us) w) (hn:fn.ntmps=n) (hrs:fn.results.toList=rs)
  (hck:Qx args pre post keep=true)
  (h:∀S pv,Js args n λtm=>AWP E S c (Zs E rs post keep pv res) ⟨tm,(9999,.frame (dC keep) pv)::pre⟩):dd E f args pre post keep res:=by
 refine⟨enter,λZ w ρ us hws hl hr=>?_⟩;subst hn hrs;simp only[Qx,Bool.and_eq_true,all_eq_true,Bool.not_eq_true']at hck;obtain⟨⟨⟨hna,hnp⟩,hnh⟩,hkk⟩:=hck;have hp9:=KW hnh;obtain⟨hle,hk⟩:=yw (h (gV w Z ρ pre) (keep.map ρ));have relV:∀{x:AV} {v:Value},yd 9999 x=true->cu Z w ρ x v->cu Z w (λi=>if i=9999 then undef else ρ i) x v:=by
  intro x v hn hv;have:=qo (id:=9999) (y:=undef) hv;rwa[nV hn]at this
 have hs:Sim E.W (gV w Z ρ pre) Z (λi=>if i=9999 then undef else ρ i) ⟨args.map AA.v++List.replicate (fn.ntmps-args.length) (.one .und),(9999,.frame (dC keep) (keep.map ρ))::pre⟩ {tmps:=us.toArray++Array.replicate (fn.ntmps-us.toArray.size) undef,defers:=[]} w:=by
  have key:∀id o,bw ((9999,AO.frame (dC keep) (keep.map ρ))::pre) id=some o->(id=9999/\o= .frame (dC keep) (keep.map ρ))\/(id≠9999/\bw pre id=some o):=by
   intro id o ho;unfold bw at ho;split at ho
   ·rename_i e;subst e;injection ho with ho;exact .inl ⟨rfl,ho.symm⟩
   ·rename_i e;exact .inr ⟨λe'=>e e'.symm,ho⟩
  refine⟨⟨hws.os,hws.tape,hws.output,hws.size,hws.old,hws.zlt,λid o b ho hb=>?_,λi j oi oj b hi hj hij hbi hbj=>?_,λid o ho=>?_,⟨λid P Q ho=>?_,λi j P Q P' Q' hi hj=>?_⟩,hws.g,hws.z0,hws.znew⟩,by simp[hl],λi x v hx hv=>?_,rfl⟩
  ·rcases key id o ho with⟨rfl,rfl⟩|⟨hne,ho⟩
   ·simp only[if_true]at hb;cases hb
   ·simp only[if_neg hne]at hb;exact hws.mine id o b ho hb
  ·rcases key i oi hi with⟨rfl,rfl⟩|⟨hne,hi⟩
   ·simp only[if_true]at hbi;cases hbi
   ·rcases key j oj hj with⟨rfl,rfl⟩|⟨hne2,hj⟩
    ·simp only[if_true]at hbj;cases hbj
    ·simp only[if_neg hne]at hbi;simp only[if_neg hne2]at hbj;exact hws.sep i j oi oj b hi hj hij hbi hbj
  ·rcases key id o ho with⟨rfl,rfl⟩|⟨hne,ho⟩
   ·refine⟨by simp,by simp[dC],λi x u hx hu=>?_⟩;simp only[dC,getElem?_map]at hx hu;obtain⟨k,hk1,rfl⟩:=map_eq_some_iff.1 hx;rw[hk1]at hu;simp only[Option.map_some]at hu;injection hu with hu
    subst hu;have hkm:=hkk k (mem_of_getElem? hk1);obtain⟨t,cs,hc⟩:=kD hkm.1;obtain⟨b,us',hp,_⟩:=hws.obj k _ hc;have hk9:k≠9999:=by rintro rfl;rw[hp9]at hc;cases hc
    refine .one _ _ ⟨b,by simp only[if_neg hk9];rw[hp];rfl,by rw[hp]⟩
   ·have hob:=hws.obj id o ho;have hnk:=rV (hnp (id,o) (dc ho));cases o with
    |many P Q=>
     show(if id=9999 then undef else ρ id)=undef;rw[if_neg hne];exact hob
    |cells t cs=>
     have:=gd (id:=9999) (y:=undef) hne (show cZ Z w ρ id (.cells t cs)from hob);rw[hnk]at this;exact this
    |row e s xs=>
     have:=gd (id:=9999) (y:=undef) hne (show cZ Z w ρ id (.row e s xs)from hob);rw[hnk]at this;exact this
    |frame vs us=>
     have:=gd (id:=9999) (y:=undef) hne (show cZ Z w ρ id (.frame vs us)from hob);rw[hnk]at this;exact this
    |any Q=>
     have:=gd (id:=9999) (y:=undef) hne (show cZ Z w ρ id (.any Q)from hob);rw[hnk]at this;exact this
  ·rcases key id _ ho with⟨_,h0⟩|⟨hne,ho⟩
   ·cases h0
   ·obtain⟨h1,h2⟩:=hws.many.ok id P Q ho;refine⟨λb hb=>⟨(h1 b hb).1,(h1 b hb).2.1,(h1 b hb).2.2.1,λj o hj=>?_⟩,h2⟩;rcases key j o hj with⟨rfl,_⟩|⟨hne,hj⟩
    ·simp only[if_true];intro h0;cases h0
    ·simp only[if_neg hne];exact(h1 b hb).2.2.2 j o hj
  ·rcases key i _ hi with⟨_,h0⟩|⟨_,hi⟩
   ·cases h0
   ·rcases key j _ hj with⟨_,h0⟩|⟨_,hj⟩
    ·cases h0
    ·exact hws.many.sep i j P Q P' Q' hi hj
  ·simp only at hx hv;have hv':(us++List.replicate (fn.ntmps-us.length) undef)[i]? =some v:=by
    have:=hv;rw[<-Array.getElem?_toList]at this;simpa using this
   by_cases hi:i<us.length
   ·rw[List.getElem?_append_left (by simpa[hl]using hi),getElem?_map]at hx;obtain⟨p,hp,rfl⟩:=map_eq_some_iff.1 hx;rw[List.getElem?_append_left hi]at hv';exact relV (Qt (hna p (mem_of_getElem? hp))) (hr i p v hp hv')
   ·rw[List.getElem?_append_right al]at hx;rw[List.getElem?_append_right ac]at hv';have e1:=List.eq_of_mem_replicate (mem_of_getElem? hx);have e2:=List.eq_of_mem_replicate (mem_of_getElem? hv');subst e1 e2;exact .one _ _ (show fp Z w _ .und undef from rfl)
 refine calls_of_wp hf hb (wp_mono (hk.run _ w ⟨Z,_,hs⟩) λe a' w' h'=>?_);obtain⟨st',⟨Z',ρ',hs'⟩,hk'⟩:=h';have fin:(B3 E st' post fn.results.toList λv=>v=res/\BV st'.ob ((9999,.frame (dC keep) (keep.map ρ))::post))->a'.defers=[]/\∃v,(results fn a'.tmps).run E.P w'= .ok v w'/\∃v0 Z' ρ',Ending.returned v= .returned v0/\WS E.W (gV w Z ρ pre) Z' w' ρ' post/\(∀id∈keep,ρ' id=ρ id)/\cu Z' w' ρ' res.v v0:=by
  intro hr;obtain⟨v,p,h1,h2,h3,h4⟩:=Hx he hs' hr;subst h3;have hsub:=pD h4;have hsubp:aK st'.ob post:=by
   obtain⟨_,_,_,h5⟩:=da h4;exact pD h5
  refine⟨hs'.df,v,h1,v,yq Z' ρ' st'.ob post,ρ',rfl,hs'.ws.out hsubp,λid hid=>?_,h2⟩;have hkm:=hkk id hid;obtain⟨t,cs,hc⟩:=kD hkm.1;obtain⟨t',cs',hc'⟩:=kD hkm.2;obtain⟨b,us1,hp,_⟩:=hws.obj id _ hc;obtain⟨b',us2,hp',_⟩:=hs'.ws.obj id _ (hsubp id _ hc');obtain⟨_,hfl,hfr⟩:=hs'.ws.obj 9999 _ (hsub 9999 (.frame (dC keep) (keep.map ρ)) (by simp[bw]));obtain⟨i,hi,hid'⟩:=List.getElem_of_mem hid;have hx:(dC keep)[i]? =some (.one (.ref id 0 0 0)):=by simp[dC,hi,hid']
  have hu:(keep.map ρ)[i]? =some (ρ id):=by simp[hi,hid']
  cases hfr i _ _ hx hu with
  |one _ _ hrel=>
   obtain⟨b2,hb2,hv2⟩:=hrel;rw[hp']at hb2;injection hb2 with hb2
   rw[hp',hv2,<-hb2]
 cases e with
 |normal=>exact fin hk'
 |ret=>exact fin hk'
 |_=>exact hk'.elim
end
section
open Go.RowKit
def bj:List (Nat×Nat)->Nat->Nat
 |[],i=>i
 |(a,b)::r,i=>match Nat.beq a i with
  |true=>b
  |false=>bj r i
def D6:List (Nat×Nat)->Nat->(Nat->Prop)->Prop
 |[],i,K=>K i
 |(a,b)::r,i,K=>match Nat.beq a i with
  |true=>K b
  |false=>D6 r i K
theorem wF{K:Nat->Prop}{i:Nat}:∀{m:List (Nat×Nat)},D6 m i K->K (bj m i)
 |[],h=>h
 |(a,b)::r,h=>by
  unfold D6 at h;unfold bj;cases e:Nat.beq a i with
  |true=>rw[e]at h;exact h
  |false=>rw[e]at h;exact wF (m:=r) h
def GR(m:Nat->Nat):AC->AC
 | .own i=> .own (m i)
 | .ref i k s off=> .ref (m i) k s off
 |c=>c
def BF(m:Nat->Nat):AA->AA
 | .one c=> .one (GR m c)
 | .agg cs=> .agg (cs.map (GR m))
def My(m:Nat->Nat):AR->AR
 | .val a=> .val (BF m a)
 | .tup ls=> .tup (ls.map (BF m))
def lg(m:Nat->Nat):AO->AO
 | .cells t cs=> .cells t (cs.map (GR m))
 |o=>o
def SY(m:List (Nat×Nat))(c:AC)(K:AC->Prop):Prop:=
 match c with
 | .own i=>D6 m i λi=>K (.own i)
 | .ref i k s off=>D6 m i λi=>K (.ref i k s off)
 |c=>K c
theorem Hr{m:List (Nat×Nat)}{c:AC}{K:AC->Prop}(h:SY m c K):K (GR (bj m) c):=by
 cases c with
 |own i=>exact wF (K:=λi=>K (.own i)) h
 |ref i k s off=>exact wF (K:=λi=>K (.ref i k s off)) h
 |_=>exact h
def Jw(m:List (Nat×Nat)):List AC->(List AC->Prop)->Prop
 |[],K=>K []
 |c::r,K=>SY m c λc=>Jw m r λr=>K (c::r)
theorem yx{m:List (Nat×Nat)}:∀{l:List AC} {K:List AC->Prop},Jw m l K->K (l.map (GR (bj m)))
 |[],_,h=>h
 |c::r,K,h=>yx (l:=r) (K:=λr=>K (GR (bj m) c::r)) (Hr h)
def SX(m:List (Nat×Nat))(a:AA)(K:AA->Prop):Prop:=
 match a with
 | .one c=>SY m c λc=>K (.one c)
 | .agg cs=>Jw m cs λcs=>K (.agg cs)
theorem Hq{m:List (Nat×Nat)}{a:AA}{K:AA->Prop}(h:SX m a K):K (BF (bj m) a):=by
 cases a with
 |one c=>exact Hr (K:=λc=>K (.one c)) h
 |agg cs=>exact yx (K:=λcs=>K (.agg cs)) h
def Eg(m:List (Nat×Nat)):List AA->(List AV->Prop)->Prop
 |[],K=>K []
 |c::r,K=>SX m c λc=>HG c λc=>Eg m r λr=>K (c::r)
theorem Eh{m:List (Nat×Nat)}:∀{l:List AA} {K:List AV->Prop},Eg m l K->K (l.map λa=>(BF (bj m) a).v)
 |[],_,h=>h
 |c::r,K,h=>Eh (l:=r) (K:=λr=>K ((BF (bj m) c).v::r)) (Bi (K:=λc=>Eg m r λr=>K (c::r)) (Hq (K:=λc=>HG c λc=>Eg m r λr=>K (c::r)) h))
def PJ(m:List (Nat×Nat))(r:AR)(K:AV->Prop):Prop:=
 match r with
 | .val a=>SX m a λa=>HG a K
 | .tup ls=>Eg m ls λl=>K (.tup l)
theorem Hs{m:List (Nat×Nat)}{r:AR}{K:AV->Prop}(h:PJ m r K):K (My (bj m) r).v:=by
 cases r with
 |val a=>exact Bi (Hq (K:=λa=>HG a K) h)
 |tup ls=>
  have:=Eh (K:=λl=>K (.tup l)) h;have e:(My (bj m) (.tup ls)).v= .tup (ls.map λa=>(BF (bj m) a).v):=by simp[My,AR.v,Function.comp_def]
  rw[e];exact this
def SZ(m:List (Nat×Nat))(o:AO)(K:AO->Prop):Prop:=
 match o with
 | .cells t cs=>Jw m cs λcs=>K (.cells t cs)
 |o=>K o
theorem Q5{m:List (Nat×Nat)}{o:AO}{K:AO->Prop}(h:SZ m o K):K (lg (bj m) o):=by
 cases o with
 |cells t cs=>exact yx (K:=λcs=>K (.cells t cs)) h
 |_=>exact h
section
variable {Z:Nat->Prop} {w:World} {ρ ρ1:Nat->Value} {m:Nat->Nat}
theorem Kj{c:AC}{v:Value}(h:fp Z w ρ (GR m c) v):fp Z w (λi=>ρ (m i)) c v:=by cases c<;>exact h
theorem QB{a:AA}{v:Value}(h:cu Z w ρ (BF m a).v v):cu Z w (λi=>ρ (m i)) a.v v:=by
 cases a with
 |one c=>cases h with|one _ _ h=>exact .one _ _ (Kj h)
 |agg cs=>
  cases h with
  |agg _ us hl h=>
   refine .agg _ _ (by simpa using hl) λi c u hc hu=>Kj (h i _ u ?_ hu);rw[getElem?_map,hc];rfl
def l9:AO->Bool
 | .frame _ _=>false
 | .many _ _=>false
 |_=>true
theorem QC{id:Nat}{o:AO}(hf:l9 o=true)(h:cZ Z w ρ (m id) (lg m o)):cZ Z w (λi=>ρ (m i)) id o:=by
 cases o with
 |cells t cs=>
  obtain⟨b,us,hp,hg,hl,hc⟩:=h;refine⟨b,us,hp,hg,by simpa using hl,λi c u h1 h2=>Kj (hc i _ u ?_ h2)⟩;rw[getElem?_map,h1];rfl
 |row e s xs=>exact h
 |frame vs us=>cases hf
 |any Q=>exact h
 |many P Q=>cases hf
def inC(post:List (Nat×AO)):AC->Bool
 | .own i=>fi post i
 | .ref i _ _ _=>fi post i
 |_=>true
def inA(post:List (Nat×AO)):AA->Bool
 | .one c=>inC post c
 | .agg cs=>cs.all (inC post)
def inR(post:List (Nat×AO)):AR->Bool
 | .val a=>inA post a
 | .tup ls=>ls.all (inA post)
def inO(post:List (Nat×AO)):AO->Bool
 | .cells _ cs=>cs.all (inC post)
 | .row _ _ _=>true
 | .frame [] []=>true
 | .frame _ _=>false
 | .any _=>false
 | .many _ _=>false
variable {post:List (Nat×AO)}
theorem BG(hag:∀i,fi post i=true->ρ1 (m i)=ρ i){c:AC}{v:Value}(hin:inC post c=true)(h:fp Z w ρ c v):fp Z w ρ1 (GR m c) v:=by
 cases c with
 |own i=>simpa only[GR,fp,hag i hin]using h
 |ref i k s off=>simpa only[GR,fp,hag i hin]using h
 |_=>exact h
theorem Iy(hag:∀i,fi post i=true->ρ1 (m i)=ρ i){a:AA}{v:Value}(hin:inA post a=true)(h:cu Z w ρ a.v v):cu Z w ρ1 (BF m a).v v:=by
 cases a with
 |one c=>cases h with|one _ _ h=>exact .one _ _ (BG hag hin h)
 |agg cs=>
  cases h with
  |agg _ us hl h=>
   refine .agg _ _ (by simpa using hl) λi c u hc hu=>?_;rw[getElem?_map]at hc;obtain⟨c0,h0,rfl⟩:=map_eq_some_iff.1 hc;exact BG hag (all_eq_true.1 hin c0 (mem_of_getElem? h0)) (h i c0 u h0 hu)
theorem IA(hag:∀i,fi post i=true->ρ1 (m i)=ρ i){r:AR}{v:Value}(hin:inR post r=true)(h:cu Z w ρ r.v v):cu Z w ρ1 (My m r).v v:=by
 cases r with
 |val a=>exact Iy hag hin h
 |tup ls=>
  cases h with
  |tup _ us hl h=>
   refine .tup _ _ (by simpa using hl) λi c u hc hu=>?_;rw[map_map,getElem?_map]at hc;obtain⟨c0,h0,rfl⟩:=map_eq_some_iff.1 hc;refine Iy hag (all_eq_true.1 hin c0 (mem_of_getElem? h0)) (h i _ u ?_ hu);rw[getElem?_map,h0];rfl
theorem Iz(hag:∀i,fi post i=true->ρ1 (m i)=ρ i){id:Nat}(hid:fi post id=true){o:AO}(hin:inO post o=true)(h:cZ Z w ρ id o):cZ Z w ρ1 (m id) (lg m o):=by
 cases o with
 |cells t cs=>
  obtain⟨b,us,hp,hg,hl,hc⟩:=h;refine⟨b,us,(hag id hid).trans hp,hg,by simpa using hl,λi c u h1 h2=>?_⟩;rw[getElem?_map]at h1;obtain⟨c0,h0,rfl⟩:=map_eq_some_iff.1 h1;exact BG hag (all_eq_true.1 hin c0 (mem_of_getElem? h0)) (hc i c0 u h0 h2)
 |row e s xs=>
  obtain⟨us,hs,hl,hx,hu,hown,hd⟩:=h;refine⟨us,hs,hl,hx,hu,?_,hd⟩;rw[hag id hid];exact hown
 |frame vs us=>
  have:vs=[]/\us=[]:=by
   revert hin;unfold inO;split<;>simp_all
  obtain⟨rfl,rfl⟩:=this;exact⟨(hag id hid).trans h.1,rfl,by simp⟩
 |any Q=>cases hin
 |many P Q=>cases hin
theorem Kg{id:Nat}{o:AO}(hf:l9 o=true)(h:km Z w ρ id o):cZ Z w ρ id o:=by cases o<;>first|exact h|cases hf
theorem Cw(f:Nat->Nat)(o:AO):l9 (lg f o)=l9 o:=by cases o<;>rfl
theorem Mx{id:Nat}{o:AO}(hf:inO post o=true)(h:km Z w ρ id o):cZ Z w ρ id o:=by
 cases o<;>first|exact h|cases hf
theorem Mw{f:Nat->Nat}{id:Nat}{o:AO}(hf:inO post o=true)(h:cZ Z w ρ id (lg f o)):km Z w ρ id (lg f o):=by
 cases o<;>first|exact h|cases hf
theorem Mv{id:Nat}{o:AO}(hf:l9 o=true)(h:cZ Z w ρ id o):km Z w ρ id o:=by cases o<;>first|exact h|cases hf
end
def rJ(ks:List Nat)(x:AV):AV:=ks.foldl (λx k=>nP k x) x
def vE(ks:List Nat)(o:AO):AO:=ks.foldl (λo k=>ql k o) o
section
variable {Z:Nat->Prop} {w:World} {ρ1:Nat->Value}
theorem yN:∀{ks:List Nat} {ρ:Nat->Value} {x:AV} {v:Value},(∀i,i∉ks->ρ1 i=ρ i)->cu Z w ρ x v->cu Z w ρ1 (rJ ks x) v
 |[],ρ,x,v,hag,h=>by
  have:ρ1=ρ:=funext λi=>hag i ah;subst this;exact h
 |k::r,ρ,x,v,hag,h=>by
  refine yN (ks:=r) (λi hi=>?_) (qo (id:=k) (y:=ρ1 k) h);by_cases e:i=k
  ·subst e;simp
  ·simp only[if_neg e];exact hag i (by simp[e,hi])
theorem nQ:∀{ks:List Nat} {ρ:Nat->Value} {j:Nat} {o:AO},j∉ks->(∀i,i∉ks->ρ1 i=ρ i)->cZ Z w ρ j o->cZ Z w ρ1 j (vE ks o)
 |[],ρ,j,o,_,hag,h=>by
  have:ρ1=ρ:=funext λi=>hag i ah;subst this;exact h
 |k::r,ρ,j,o,hj,hag,h=>by
  refine nQ (ks:=r) (λe=>hj (by simp[e])) (λi hi=>?_) (gd (id:=k) (λe=>hj (by simp[e])) (y:=ρ1 k) h);by_cases e:i=k
  ·subst e;simp
  ·simp only[if_neg e];exact hag i (by simp[e,hi])
theorem i6:∀{ks:List Nat} {o:AO} {P:Nat->Prop} {Q:World->Prop},vE ks o= .many P Q->o= .many P Q
 |[],o,P,Q,h=>h
 |k::r,o,P,Q,h=>by
  have h2:=i6 (ks:=r) (o:=ql k o) h;cases o<;>first|exact h2|(simp[ql]at h2;done)
theorem zZ:∀(ks:List Nat) (P:Nat->Prop) (Q:World->Prop),vE ks (.many P Q)= .many P Q
 |[],P,Q=>rfl
 |k::r,P,Q=>zZ r P Q
theorem Ag{ρ:Nat->Value}{id:Nat}{o:AO}(hn:∀P Q,o≠ .many P Q)(h:cZ Z w ρ id o):km Z w ρ id o:=by
 cases o<;>first|exact h|exact absurd rfl (hn _ _)
theorem Cr{ks:List Nat}{ρ:Nat->Value}{j:Nat}{o:AO}(hj:j∉ks)(hag:∀i,i∉ks->ρ1 i=ρ i)(h:km Z w ρ j o):km Z w ρ1 j (vE ks o):=by
 cases o with
 |many P Q=>rw[zZ];exact(hag j hj).trans h
 |cells t cs=>exact Ag (λP Q e=>by cases i6 e) (nQ hj hag (show cZ Z w ρ j (.cells t cs)from h))
 |row e s xs=>exact Ag (λP Q e=>by cases i6 e) (nQ hj hag (show cZ Z w ρ j (.row e s xs)from h))
 |frame vs us=>exact Ag (λP Q e=>by cases i6 e) (nQ hj hag (show cZ Z w ρ j (.frame vs us)from h))
 |any R=>exact Ag (λP Q e=>by cases i6 e) (nQ hj hag (show cZ Z w ρ j (.any R)from h))
end
def nW(ks:List Nat)(ob:List (Nat×AO)):List (Nat×AO):=ks.foldl (λob k=>ye k ob) ob
theorem vT:∀{ks:List Nat} {ob:List (Nat×AO)} {j:Nat},bw (nW ks ob) j=(bw ob j).map (vE ks)
 |[],ob,j=>by
  have:vE []=id:=rfl;simp[nW,this]
 |k::r,ob,j=>by
  have:=vT (ks:=r) (ob:=ye k ob) (j:=j);rw[yP,Option.map_map]at this;exact this
def wD:List Nat->ASt->(ASt->Prop)->Prop
 |[],st,K=>K st
 |k::r,st,K=>D3 k st.tm λtm=>mH k st.ob λob=>wD r ⟨tm,ob⟩ K
theorem Og(k:Nat)(r:List Nat)(l:List AV):(l.map (nP k)).map (rJ r)=l.map (rJ (k::r)):=by
 rw[map_map];rfl
theorem uk:∀{ks:List Nat} {st:ASt} {K:ASt->Prop},wD ks st K->K ⟨st.tm.map (rJ ks),nW ks st.ob⟩
 |[],st,K,h=>by
  have:rJ []=id:=rfl;rw[this,List.map_id];exact h
 |k::r,st,K,h=>by
  have h1:=j5 (K:=λob=>wD r ⟨st.tm.map (nP k),ob⟩ K) (qL (K:=λtm=>mH k st.ob λob=>wD r ⟨tm,ob⟩ K) h);have h2:=uk (ks:=r) h1;simp only[Og]at h2;exact h2
def vU(ob l:List (Nat×AO)):List (Nat×AO):=l.foldl (λob p=>jG ob p.1 p.2) ob
def yz(m:List (Nat×Nat)):List (Nat×AO)->List (Nat×AO)->(List (Nat×AO)->Prop)->Prop
 |ob,[],K=>K ob
 |ob,(i,o)::r,K=>SZ m o λo=>D6 m i λi=>ju i o ob λob=>yz m ob r K
theorem yA{m:List (Nat×Nat)}:∀{l ob:List (Nat×AO)} {K:List (Nat×AO)->Prop},yz m ob l K->K (vU ob (l.map λp=>(bj m p.1,lg (bj m) p.2)))
 |[],ob,K,h=>h
 |(i,o)::r,ob,K,h=>yA (l:=r) (fK (K:=λob=>yz m ob r K) (wF (K:=λi=>ju i (lg (bj m) o) ob λob=>yz m ob r K) (Q5 (K:=λo=>D6 m i λi=>ju i o ob λob=>yz m ob r K) h)))
theorem J8{l:List (Nat×AO)}{k:Nat}(h:k∉l.map (·.1)):bw l k=none:=by
 cases e:bw l k with
 |none=>rfl
 |some o=>exact absurd (mem_map.2 ⟨(k,o),dc e,rfl⟩) h
theorem yQ:∀{l ob:List (Nat×AO)} {i:Nat},(l.map (·.1)).Nodup->bw (vU ob l) i=match bw l i with|some o=>some o|none=>bw ob i
 |[],ob,i,_=>rfl
 |(k,o)::r,ob,i,hn=>by
  obtain⟨h1,h2⟩:=nodup_cons.1 (by rw[map_cons]at hn;exact hn);have:=yQ (l:=r) (ob:=jG ob k o) (i:=i) h2;rw[dy]at this;show bw (vU (jG ob k o) r) i=_;rw[this];simp only[bw];by_cases e:k=i
  ·subst e;simp only[if_true,J8 h1]
  ·simp only[if_neg e]
theorem ja:∀{l:List (Nat×AO)} {i:Nat} {o:AO},(l.map (·.1)).Nodup->(i,o)∈l->bw l i=some o
 |[],_,_,_,h=>by cases h
 |(k,x)::r,i,o,hn,h=>by
  obtain⟨h1,h2⟩:=nodup_cons.1 (by rw[map_cons]at hn;exact hn);unfold bw;rcases mem_cons.1 h with h|h
  ·injection h with e1 e2;subst e1 e2;simp
  ·have:k≠i:=by rintro rfl;exact h1 (mem_map.2 ⟨_,h,rfl⟩)
   rw[if_neg this];exact ja h2 h
theorem rX{α β:Type}{f:α->β}:∀{l:List α},(l.map f).Nodup->l.Nodup
 |[],_=>List.nodup_nil
 |x::r,h=>by
  obtain⟨h1,h2⟩:=nodup_cons.1 (by rw[map_cons]at h;exact h);exact nodup_cons.2 ⟨λhm=>h1 (mem_map.2 ⟨x,hm,rfl⟩),rX h2⟩
theorem nO{α β:Type}{f:α->β}:∀{l:List α},(l.map f).Nodup->∀{x y:α},x∈l->y∈l->f x=f y->x=y
 |[],_,_,_,h,_,_=>by cases h
 |a::r,h,x,y,hx,hy,e=>by
  obtain⟨h1,h2⟩:=nodup_cons.1 (by rw[map_cons]at h;exact h);rcases mem_cons.1 hx with ex|hx'
  ·rcases mem_cons.1 hy with ey|hy'
   ·rw[ex,ey]
   ·rw[ex]at e;exact absurd (mem_map.2 ⟨y,hy',e.symm⟩) h1
  ·rcases mem_cons.1 hy with ey|hy'
   ·rw[ey]at e;exact absurd (mem_map.2 ⟨x,hx',e⟩) h1
   ·exact nO h2 hx' hy' e
def nU(m:List (Nat×Nat))(pre post:List (Nat×AO))(res:AR):Bool:=
 nodupB (post.map λp=>bj m p.1)&&pre.all (λp=>fi post p.1&&l9 p.2)&&post.all (λp=>inO post p.2)&&inR post res
where nodupB:List Nat->Bool
 |[]=>true
 |x::r=> !r.any (Nat.beq x)&&nodupB r
theorem rW:∀{l:List Nat},nU.nodupB l=true->l.Nodup
 |[],_=>List.nodup_nil
 |x::r,h=>by
  simp only[nU.nodupB,Bool.and_eq_true,Bool.not_eq_true',List.any_eq_false]at h;refine nodup_cons.2 ⟨λhm=>h.1 x hm (Nat.beq_refl x),rW h.2⟩
def vL(m:List (Nat×Nat))(post:List (Nat×AO))(keep:List Nat):List Nat:=(post.filter λp=> !keep.any (Nat.beq p.1)).map λp=>bj m p.1
def UJ(m:List (Nat×Nat))(ob:List (Nat×AO)):List (Nat×AO)->Prop->Prop
 |[],X=>X
 |(i,o)::r,X=>aOb ob (bj m i) λo'=>o'=lg (bj m) o/\UJ m ob r X
theorem Ee{m:List (Nat×Nat)}{ob:List (Nat×AO)}{X:Prop}:∀{l:List (Nat×AO)},UJ m ob l X->(∀i o,(i,o)∈l->bw ob (bj m i)=some (lg (bj m) o))/\X
 |[],h=>⟨by simp,h⟩
 |(i,o)::r,h=>by
  obtain⟨o',ho,rfl,hr⟩:=da h;obtain⟨h1,h2⟩:=Ee hr;refine⟨λj x hx=>?_,h2⟩;rcases mem_cons.1 hx with e|hx
  ·injection e with e1 e2;subst e1 e2;exact ho
  ·exact h1 j x hx
def RQ(m:Nat->Nat)(ids:List Nat)(ρ' ρ:Nat->Value)(j:Nat):Value:=match ids.find? (λc=>Nat.beq (m c) j)with
 |some c=>ρ' c
 |none=>ρ j
theorem QD{m:Nat->Nat}{ids:List Nat}{ρ' ρ:Nat->Value}(hn:(ids.map m).Nodup){c:Nat}(hc:c∈ids):RQ m ids ρ' ρ (m c)=ρ' c:=by
 unfold RQ;cases e:ids.find? (λx=>Nat.beq (m x) (m c))with
 |none=>exact absurd (Nat.beq_refl (m c)) (List.find?_eq_none.1 e c hc)
 |some d=>
  have h1:=List.mem_of_find?_eq_some e;have h2:=List.find?_some (p:=λx=>Nat.beq (m x) (m c)) e;rw[nO hn h1 hc (Nat.eq_of_beq_eq_true h2)]
theorem MB{m:Nat->Nat}{ids:List Nat}{ρ' ρ:Nat->Value}{j:Nat}(hj:j∉ids.map m):RQ m ids ρ' ρ j=ρ j:=by
 unfold RQ;cases e:ids.find? (λx=>Nat.beq (m x) j)with
 |none=>rfl
 |some d=>exact absurd (mem_map.2 ⟨d,List.mem_of_find?_eq_some e,Nat.eq_of_beq_eq_true (List.find?_some (p:=λx=>Nat.beq (m x) j) e)⟩) hj
def Xk(m:List (Nat×Nat))(st:ASt)(pre post:List (Nat×AO))(keep:List Nat)(res:AR)(K:AV->ASt->Prop):Prop:=
 UJ m st.ob pre (wD (vL m post keep) st λst=>yz m st.ob post λob=>PJ m res λr=>K r ⟨st.tm,ob⟩)
theorem abU{E:bx}{S:bZ}{st:ASt}{f:FuncId}{args:List AA}{pre post:List (Nat×AO)}{keep:List Nat}{res:AR}{K:AV->ASt->Prop}{cargs:List AV}(hc:dd E f args pre post keep res)(m:List (Nat×Nat))
  (hck:nU m pre post res=true) (hargs:(args.map λa=>(BF (bj m) a).v)=cargs) (hpre:∀i o,(i,o)∈pre->bw st.ob (bj m i)=some (lg (bj m) o))
  (hk:K (My (bj m) res).v ⟨st.tm.map (rJ (vL m post keep)),vU (nW (vL m post keep) st.ob) (post.map λp=>(bj m p.1,lg (bj m) p.2))⟩):aI E S f cargs st K:=by
 subst hargs;refine⟨hc.enter,λZ ρ a w us hs hl hr=>?_⟩;simp only[nU,Bool.and_eq_true,all_eq_true]at hck;obtain⟨⟨⟨hnd,hpp⟩,hpo⟩,hres⟩:=hck;have hnd:=rW hnd;have hnd1:((post.map (·.1)).map (bj m)).Nodup:=by rw[map_map];exact hnd
 have hnd2:(post.map (·.1)).Nodup:=rX hnd1;have hndm:((post.map λp=>(bj m p.1,lg (bj m) p.2)).map (·.1)).Nodup:=by rw[map_map];exact hnd
 have hinj:∀{i j},fi post i=true->fi post j=true->bj m i=bj m j->i=j:=by
  intro i j hi hj e;obtain⟨oi,hoi⟩:=dl.1 hi;obtain⟨oj,hoj⟩:=dl.1 hj;exact nO hnd1 (mem_map.2 ⟨_,dc hoi,rfl⟩) (mem_map.2 ⟨_,dc hoj,rfl⟩) e
 have hhas:∀{i},fi post i=true↔i∈post.map (·.1):=by
  intro i;rw[dl];constructor
  ·rintro⟨o,ho⟩;exact mem_map.2 ⟨_,dc ho,rfl⟩
  ·intro h;obtain⟨p,hp,rfl⟩:=mem_map.1 h;exact⟨p.2,ja hnd2 hp⟩
 have hget:∀i o,bw pre i=some o->bw st.ob (bj m i)=some (lg (bj m) o)/\fi post i=true/\l9 o=true:=by
  intro i o ho;have:=hpp _ (dc ho);simp only[Bool.and_eq_true]at this;exact⟨hpre i o (dc ho),this.1,this.2⟩
 have hws0:WS E.W (gV w Z (λi=>ρ (bj m i)) pre) Z w (λi=>ρ (bj m i)) pre:=by
  refine⟨rfl,rfl,rfl,Nat.le_refl _,λ_ _ _=>rfl,hs.ws.zlt,λid o b ho hb=>⟨(hs.ws.mine _ _ b (hget id o ho).1 hb).1,.inr ⟨id,o,ho,hb⟩⟩,λi j oi oj b hi hj hij hbi hbj=>?_,λid o ho=>Mv (hget id o ho).2.2 (QC (hget id o ho).2.2 (Kg (by rw[Cw];exact(hget id o ho).2.2) (hs.ws.obj _ _ (hget id o ho).1))),abs (λid P Q ho=>by have:=(hget id _ ho).2.2;cases this),hs.ws.g,λb hb=>hb,λb hb=> .inl hb⟩;exact hs.ws.sep _ _ _ _ b (hget i oi hi).1 (hget j oj hj).1 (λe=>hij (hinj (hget i oi hi).2.1 (hget j oj hj).2.1 e)) hbi hbj
 refine(hc.run Z w (λi=>ρ (bj m i)) us hws0 (by simpa using hl) λi p u h3 h4=>?_).mono ?_
 ·refine QB (hr i _ u ?_ h4);rw[getElem?_map,h3];rfl
 rintro e w' ⟨v,Z',ρ',rfl,hw,hkeep,hv⟩;let ids:=post.map (·.1)
 let ρ1:=RQ (bj m) ids ρ' ρ
 let ks:=vL m post keep
 have hin:∀i,fi post i=true->ρ1 (bj m i)=ρ' i:=λi hi=>QD hnd1 (hhas.1 hi);have hout:∀j,j∉ids.map (bj m)->ρ1 j=ρ j:=λj hj=>MB hj;have hag:∀i,i∉ks->ρ1 i=ρ i:=by
  intro i hi;by_cases h:i∈ids.map (bj m)
  ·obtain⟨c,hc1,rfl⟩:=mem_map.1 h;rw[hin c (hhas.2 hc1)];refine hkeep c ?_;obtain⟨p,hp,rfl⟩:=mem_map.1 hc1;refine Classical.byContradiction λhn=>hi (mem_map.2 ⟨p,List.mem_filter.2 ⟨hp,?_⟩,rfl⟩);simp only[Bool.not_eq_true',List.any_eq_false];intro k hk2 e;rw[Nat.eq_of_beq_eq_true e]at hn;exact hn hk2
  ·exact hout i h
 have hksub:∀i,i∈ks->i∈ids.map (bj m):=by
  intro i hi;obtain⟨p,hp,rfl⟩:=mem_map.1 hi;exact mem_map.2 ⟨p.1,mem_map.2 ⟨p,(List.mem_filter.1 hp).1,rfl⟩,rfl⟩
 have hob:∀j o,bw (vU (nW ks st.ob) (post.map λp=>(bj m p.1,lg (bj m) p.2))) j=some o->
   (∃c o',bw post c=some o'/\j=bj m c/\o=lg (bj m) o')\/(j∉ids.map (bj m)/\∃o',bw st.ob j=some o'/\o=vE ks o'):=by
  intro j o ho;rw[yQ hndm]at ho;split at ho
  ·rename_i o1 h1;injection ho with ho
   subst ho;obtain⟨p,hp,e⟩:=mem_map.1 (dc h1);injection e with e1 e2
   exact .inl ⟨p.1,p.2,ja hnd2 hp,e1.symm,e2.symm⟩
  ·rename_i h1;rw[vT]at ho;obtain⟨o',h2,rfl⟩:=map_eq_some_iff.1 ho;refine .inr ⟨λhm=>?_,o',h2,rfl⟩;obtain⟨c,hc1,rfl⟩:=mem_map.1 hm;obtain⟨p,hp,rfl⟩:=mem_map.1 hc1;rw[ja hndm (mem_map.2 ⟨p,hp,rfl⟩)]at h1;cases h1
 have hmany:∀j P Q,bw (vU (nW ks st.ob) (post.map λp=>(bj m p.1,lg (bj m) p.2))) j=some (.many P Q)->j∉ids.map (bj m)/\bw st.ob j=some (.many P Q):=by
  intro j P Q ho;rcases hob j _ ho with⟨c,o',hc1,_,e⟩|⟨hj,o',ho',e⟩
  ·have:=hpo _ (dc hc1);cases o'<;>first|(cases e;done)|(cases this;done)
  ·exact⟨hj,by rw[ho',i6 e.symm]⟩
 have hO:∀b,(gV w Z (λi=>ρ (bj m i)) pre).O b->∃i o,bw st.ob (bj m i)=some o/\fi post i=true/\ch (ρ (bj m i))=some b:=by
  rintro b ⟨i,o,ho,hb⟩;exact⟨i,_,(hget i o ho).1,(hget i o ho).2.1,hb⟩
 have hfar:∀j o b,j∉ids.map (bj m)->bw st.ob j=some o->ch (ρ j)=some b->¬(gV w Z (λi=>ρ (bj m i)) pre).O b:=by
  intro j o b hj ho hb hOb;obtain⟨i,o2,ho2,hi,hb2⟩:=hO b hOb;refine hs.ws.sep j (bj m i) o o2 b ho ho2 (λe=>hj ?_) hb hb2;rw[e];exact mem_map.2 ⟨i,hhas.1 hi,rfl⟩
 have hsame:∀b,b<w.heap.size->¬(gV w Z (λi=>ρ (bj m i)) pre).O b->w'.heap[b]? =w.heap[b]? :=hw.old;have hzn:∀b,Z b->w'.heap[b]? =w.heap[b]? :=by
  intro b hb;refine hsame b (hs.ws.zlt b hb) λhOb=>?_;obtain⟨i,o2,ho2,_,hb2⟩:=hO b hOb;exact(hs.ws.mine _ _ b ho2 hb2).1 hb
 have hsz:w.heap.size<=w'.heap.size:=hw.size;have hobase:∀b,(gV w Z (λi=>ρ (bj m i)) pre).O b->S.w0.heap.size<=b\/S.O b:=by
  intro b hOb;obtain⟨i,o2,ho2,_,hb2⟩:=hO b hOb;exact(hs.ws.mine _ _ b ho2 hb2).2
 refine⟨v,(My (bj m) res).v,⟨st.tm.map (rJ ks),vU (nW ks st.ob) (post.map λp=>(bj m p.1,lg (bj m) p.2))⟩,Z',ρ1,rfl,⟨?_,by simp[hs.len],λi x u hx hu=>?_,hs.df⟩,IA hin hres hv,hk⟩
 ·refine⟨hw.os.trans hs.ws.os,hw.tape.trans hs.ws.tape,hw.output.trans hs.ws.output,Nat.le_trans hs.ws.size hsz,λb hb hno=>?_,hw.zlt,λj o b ho hb=>?_,λi j oi oj b hi hj hij hbi hbj=>?_,λj o ho=>?_,⟨λid P Q ho=>?_,λi j P Q P' Q' hi hj=>?_⟩,hw.g,λb hb=>hw.z0 b (hs.ws.z0 b hb),λb hb=>?_⟩
  ·refine(hsame b (Nat.lt_of_lt_of_le hb hs.ws.size) λhOb=>?_).trans (hs.ws.old b hb hno);rcases hobase b hOb with h|h
   ·omega
   ·exact hno h
  ·rcases hob j o ho with⟨c,o',hc1,rfl,rfl⟩|⟨hj,o',ho',rfl⟩
   ·have hcp:=dl.2 ⟨o',hc1⟩;rw[hin c hcp]at hb;obtain⟨h1,h2⟩:=hw.mine c o' b hc1 hb;refine⟨h1,?_⟩;rcases h2 with h2|h2
    ·exact .inl (Nat.le_trans hs.ws.size h2)
    ·exact hobase b h2
   ·rw[hout j hj]at hb;obtain⟨h1,h2⟩:=hs.ws.mine j o' b ho' hb;refine⟨λhz=>?_,h2⟩;rcases hw.znew b hz with h3|h3|h3
    ·exact h1 h3
    ·have:=hs.ws.lt ho' hb;exact absurd (show w.heap.size<=b from h3) ac
    ·exact hfar j o' b hj ho' hb h3
  ·rcases hob i oi hi with⟨c,o',hc1,rfl,rfl⟩|⟨hi',o',ho',rfl⟩
   ·have hcp:=dl.2 ⟨o',hc1⟩;rw[hin c hcp]at hbi;rcases hob j oj hj with⟨c2,o2,hc2,rfl,rfl⟩|⟨hj',o2,ho2,rfl⟩
    ·have hcp2:=dl.2 ⟨o2,hc2⟩;rw[hin c2 hcp2]at hbj;exact hw.sep c c2 o' o2 b hc1 hc2 (λe=>hij (by rw[e])) hbi hbj
    ·rw[hout j hj']at hbj;rcases(hw.mine c o' b hc1 hbi).2 with h|h
     ·have:=hs.ws.lt ho2 hbj;exact absurd (show w.heap.size<=b from h) ac
     ·exact hfar j o2 b hj' ho2 hbj h
   ·rw[hout i hi']at hbi;rcases hob j oj hj with⟨c2,o2,hc2,rfl,rfl⟩|⟨hj',o2,ho2,rfl⟩
    ·have hcp2:=dl.2 ⟨o2,hc2⟩;rw[hin c2 hcp2]at hbj;rcases(hw.mine c2 o2 b hc2 hbj).2 with h|h
     ·have:=hs.ws.lt ho' hbi;exact absurd (show w.heap.size<=b from h) ac
     ·exact hfar i o' b hi' ho' hbi h
    ·rw[hout j hj']at hbj;exact hs.ws.sep i j o' o2 b ho' ho2 hij hbi hbj
  ·rcases hob j o ho with⟨c,o',hc1,rfl,rfl⟩|⟨hj,o',ho',rfl⟩
   ·have hcp:=dl.2 ⟨o',hc1⟩;exact Mw (hpo _ (dc hc1)) (Iz hin hcp (hpo _ (dc hc1)) (Mx (hpo _ (dc hc1)) (hw.obj c o' hc1)))
   ·refine Cr (λh=>hj (hksub j h)) hag ?_;refine(hs.ws.obj j o' ho').mono hw.z0 hzn λb hb=>hsame b (hs.ws.lt ho' hb) (hfar j o' b hj ho' hb)
  ·obtain⟨hj,ho'⟩:=hmany id P Q ho;obtain⟨h1,h2⟩:=hs.ws.many.ok id P Q ho';have hnO:∀b,P b->¬(gV w Z (λi=>ρ (bj m i)) pre).O b:=by
    intro b hb hOb;obtain⟨i,o2,ho2,_,hb2⟩:=hO b hOb;exact(h1 b hb).2.2.2 _ _ ho2 hb2
   refine⟨λb hb=>⟨Nat.lt_of_lt_of_le (h1 b hb).1 hsz,λhz=>?_,(h1 b hb).2.2.1,λj o hjo hbj=>?_⟩,λw2 hw2=>h2 w2 λb hb=>(hw2 b hb).trans (hsame b (h1 b hb).1 (hnO b hb))⟩
   ·rcases hw.znew b hz with h3|h3|h3
    ·exact(h1 b hb).2.1 h3
    ·have:=(h1 b hb).1;exact absurd (show w.heap.size<=b from h3) ac
    ·exact hnO b hb h3
   ·rcases hob j o hjo with⟨c,o',hc1,rfl,rfl⟩|⟨hj',o',ho2,rfl⟩
    ·rw[hin c (dl.2 ⟨o',hc1⟩)]at hbj;rcases(hw.mine c o' b hc1 hbj).2 with h3|h3
     ·have:=(h1 b hb).1;exact absurd (show w.heap.size<=b from h3) ac
     ·exact hnO b hb h3
    ·rw[hout j hj']at hbj;exact(h1 b hb).2.2.2 j o' ho2 hbj
  ·exact hs.ws.many.sep i j P Q P' Q' (hmany i P Q hi).2 (hmany j P' Q' hj).2
  ·rcases hw.znew b hb with h|h|h
   ·exact hs.ws.znew b h
   ·exact .inr (.inl (Nat.le_trans hs.ws.size h))
   ·exact .inr (hobase b h)
 ·simp only[getElem?_map]at hx;obtain⟨x0,h0,rfl⟩:=map_eq_some_iff.1 hx;exact yN hag ((hs.tm i x0 u h0 hu).mono hw.z0 hzn)
theorem aaI{E:bx}{S:bZ}{st:ASt}{f:FuncId}{args:List AA}{pre post:List (Nat×AO)}{keep:List Nat}{res:AR}{K:AV->ASt->Prop}{cargs:List AV}(hc:dd E f args pre post keep res)(m:List (Nat×Nat))
  (hck:nU m pre post res=true) (hargs:(args.map λa=>(BF (bj m) a).v)=cargs) (hk:Xk m st pre post keep res K):aI E S f cargs st K:=by
 obtain⟨hpre,hk⟩:=Ee hk;have hk:=Hs (yA (uk hk));exact abU hc m hck hargs hpre hk
end
section
open Go.RowKit
theorem abO{E:bx}{f:FuncId}{args:List AA}{pre:List (Nat×AO)}{id:Nat}{o o':AO}{keep:List Nat}{res:AR}(enter:∀(us:Array Value) w,(callFunc f us).run E.P w= .ok (.enter f us) w)(hid:bw pre id=some o)
  (h : ∀ Z w ρ (us : List Value), WS E.W (gV w Z ρ pre) Z w ρ pre → cZ Z w ρ id o → us.length = args.length → (∀ (i : Nat) x u, args[i]? = some x → us[i]? = some u → cu Z w ρ x.v u) →
   Calls E.P f us.toArray w λe w'=>∃v b,e= .returned v/\ch (ρ id)=some b/\w.grownBy w' (some b)/\cZ Z w' ρ id o'/\cu Z w' ρ res.v v) (hnf:l9 o=true:=by rfl):dd E f args pre (jG pre id o') keep res:=by
 refine⟨enter,λZ w ρ us hws hl hr=>(h Z w ρ us hws (Kg hnf (hws.obj id o hid)) hl hr).mono ?_⟩;rintro e w' ⟨v,b,rfl,hb,hg,ho,hv⟩;exact⟨v,Z,ρ,rfl,hws.upd id o o' hid hb hg ho,λ_ _=>rfl,hv⟩
theorem abI{E:bx}{f:FuncId}{args:List AA}{pre:List (Nat×AO)}{keep:List Nat}{res:AR}(enter:∀(us:Array Value) w,(callFunc f us).run E.P w= .ok (.enter f us) w)
  (h : ∀ Z w ρ (us : List Value), WS E.W (gV w Z ρ pre) Z w ρ pre → us.length = args.length → (∀ (i : Nat) x u, args[i]? = some x → us[i]? = some u → cu Z w ρ x.v u) →
   Calls E.P f us.toArray w λe w'=>∃v,e= .returned v/\w.grownBy w' none/\cu Z w' ρ res.v v):dd E f args pre pre keep res:=by
 refine⟨enter,λZ w ρ us hws hl hr=>(h Z w ρ us hws hl hr).mono ?_⟩;rintro e w' ⟨v,rfl,hg,hv⟩;exact⟨v,Z,ρ,rfl,hws.grow hg (λ_ h=>h) (λ_ h=> .inl h),λ_ _=>rfl,hv⟩
theorem abH{E:bx}{f:FuncId}{args:List AA}{pre:List (Nat×AO)}{id:Nat}{o:AO}{res:AR}(enter:∀(us:Array Value) w,(callFunc f us).run E.P w= .ok (.enter f us) w)(hid:bw pre id=some o)
  (h : ∀ Z w ρ (us : List Value), WS E.W (gV w Z ρ pre) Z w ρ pre → us.length = args.length → (∀ (i : Nat) x u, args[i]? = some x → us[i]? = some u → cu Z w ρ x.v u) →
   Calls E.P f us.toArray w λe w'=>∃v,e= .returned v/\w.grownBy w' (ch (ρ id))/\∀ρ',cu Z w' ρ' res.v v):dd E f args pre (jG (ye id pre) id (.frame [] [])) [] res:=by
 refine⟨enter,λZ w ρ us hws hl hr=>(h Z w ρ us hws hl hr).mono ?_⟩;rintro e w' ⟨v,rfl,hg,hv⟩;refine⟨v,Z,_,rfl,hws.renew id undef (.frame [] []) hg (λg e=>⟨⟨o,hid⟩,e⟩) (λb hb=>(by cases hb)) ⟨by simp,rfl,by simp⟩,ah,hv _⟩
theorem aI.upd{E:bx}{S:bZ}{tm:List AV}{ob:List (Nat×AO)}{f:FuncId}{args:List AA}{o o':AO}{res:AR}{K:AV->ASt->Prop}{cargs:List AV}(hc:dd E f args [(1000,o)] [(1000,o')] [1000] res)(id:Nat)
  (hck:nU [(1000,id)] [(1000,o)] [(1000,o')] res=true) (hargs:(args.map λa=>(BF (bj [(1000,id)]) a).v)=cargs) (hob:bw ob id=some (lg (bj [(1000,id)]) o))
  (hk:SZ [(1000,id)] o' λo'=>ju id o' ob λob=>PJ [(1000,id)] res λr=>K r ⟨tm,ob⟩):aI E S f cargs ⟨tm,ob⟩ K:=
 aaI hc [(1000,id)] hck hargs (show aOb ob id λo1=>o1=lg (bj [(1000,id)]) o/\_ from NJ hob ⟨rfl,hk⟩)
theorem FI{Z:Nat->Prop}{w:World}{ρ:Nat->Value}{id k s off:Nat}{u:Value}(h:cu Z w ρ (AA.v (.one (.ref id k s off))) u):∃b,ch (ρ id)=some b/\u= .pointer (some ⟨b,k*s+off,none⟩):=by
 cases h with
 |one _ _ h=>exact h
theorem yL{w:World}{b i:Nat}{us:List Value}{t:TypeId}{v:Value}(h:w.heap[b]? =some (.cells us.toArray t (0,0))):(w.setCell ⟨b,i,none⟩ v).heap[b]? =some (.cells (us.set i v).toArray t (0,0)):=by
 have:=Lib.heap_setCell_same (i:=i) h v;simpa using this
end
section
open Go.RowKit
structure Y7 (E:bx) (f:FuncId) (args:List AV) (c:Nat) (o0 o1:AO) (r:AV):Prop where
 h:∀{S:bZ} {tm:List AV} {ob:List (Nat×AO)} {K:AV->ASt->Prop},bw ob c=some o0->K r ⟨tm,jG ob c o1⟩->aI E S f args ⟨tm,ob⟩ K
section
variable {E:bx} {S:bZ} {Z:Nat->Prop} {ρ:Nat->Value} {P:ASt} {tm:List AV} {ob:List (Nat×AO)} {a:Act} {w:World} {o:Oper} {c:Nat} {o0 o1:AO} {r:AV}
end
section
variable {E:bx} {S:bZ} {ops:List Oper} {D:List (List Nat)} {R:List (AV×Option AO)} {n0:Nat} {st0:ASt}
end
section
variable {E:bx} {S:bZ} {ops:Array Oper} {n0:Nat} {st0:ASt} {R:List (AV×Option AO)} {K:ASt->Prop} {Q:Exit->Act->World->Prop}
end
end
end
section
open Go.RowKit
structure mL (P:Nat->Prop) (w w':World):Prop where
 os:w'.os=w.os
 tape:w'.tape=w.tape
 output:w'.output=w.output
 size:w'.heap.size=w.heap.size
 block:∀b,¬P b->w'.heap[b]? =w.heap[b]?
section
variable {P P':Nat->Prop} {w w1 w':World}
theorem mL.trans(h:mL P w w1)(h':mL P w1 w'):mL P w w':=⟨h'.os.trans h.os,h'.tape.trans h.tape,h'.output.trans h.output,h'.size.trans h.size,λb hb=>(h'.block b hb).trans (h.block b hb)⟩
theorem mL.mono(h:mL P w w')(hp:∀b,P b->P' b):mL P' w w':=⟨h.os,h.tape,h.output,h.size,λb hb=>h.block b λhq=>hb (hp b hq)⟩
theorem mL.setCell{a:Addr}(ha:P a.block)(u:Value):mL P w (w.setCell a u):=⟨rfl,rfl,rfl,by simp[World.setCell],λb hb=>Below.heap_setCell _ _ _ _ (λe=>hb (e▸ha))⟩
theorem mL.below{B:Nat}(h:mL P w w')(hp:∀b,P b->B<=b):Below B w w':=⟨h.os,h.tape,h.output,by rw[h.size];exact Nat.le_refl _,λk hk=>h.block k λhq=>by have:=hp k hq;omega⟩
end
theorem fm.set{w:World}{P:Nat->Prop}{x:List AD}{us:List Value}(h:fm w P x us){c:Nat}{u:Value}(h1:u.oneCell'=true):fm w P (x.set c (.pv u)) (us.set c u):=by
 obtain⟨l,Q,q,e,r⟩:=h;refine⟨by simp[l],Q,q,e,λi a y ha hy=>?_⟩;rw[List.getElem?_set]at ha hy;by_cases hi:c=i
 ·subst hi;simp only[if_true]at ha hy;split at ha
  ·split at hy
   ·injection ha with ha;injection hy with hy;subst ha hy;exact .pv _ _ h1
   ·cases hy
  ·cases ha
 ·rw[if_neg hi]at ha hy;exact r i a y ha hy
structure El (w0:World) (b o s:Nat) (Q:Nat->Prop) (w:World) (x:List AD) (us:List Value):Prop where
 len:us.length=s
 fam:fm w Q x us
 cell:∀(c:Nat) u,us[c]? =some u->w.cell? ⟨b,o+c,none⟩=some u
 oth:∀o',(o'<o\/o+s<=o')->w.cell? ⟨b,o',none⟩=w0.cell? ⟨b,o',none⟩
 row:∃cur cur' t,w0.heap[b]? =some (.cells cur t (0,0))/\w.heap[b]? =some (.cells cur' t (0,0))/\cur'.size=cur.size
 turn:mL (λg=>g=b\/Q g) w0 w
 nb:¬Q b
section
variable {w0 w:World} {b o s:Nat} {Q:Nat->Prop} {x:List AD} {us:List Value}
theorem El.frozen(h:El w0 b o s Q w x us)(o':Nat):w.frozen? ⟨b,o',none⟩=false:=by
 obtain⟨cur,cur',t,_,h2,_⟩:=h.row;simp[World.frozen?,h2]
theorem El.set(h:El w0 b o s Q w x us){c:Nat}(hc:c<s)(u:Value)(h1:u.oneCell'=true):El w0 b o s Q (w.setCell ⟨b,o+c,none⟩ u) (x.set c (.pv u)) (us.set c u):=by
 have hlt:c<us.length:=by rw[h.len];exact hc
 obtain⟨cur,cur',t,r1,r2,r3⟩:=h.row;refine⟨by simp[h.len],?_,λc' y hy=>?_,λo' ho=>?_,⟨cur,cur'.setIfInBounds (o+c) u,t,r1,by simp[World.setCell,Array.getElem?_modify,r2],by simp[r3]⟩,h.turn.trans (mL.setCell (.inl rfl) u),h.nb⟩
 ·exact fm.set (h.fam.keep λg hg=>Below.heap_setCell w ⟨b,o+c,none⟩ u g (λe=>h.nb (by have e2:g=b:=e;subst e2;exact hg))) h1
 ·rw[List.getElem?_set]at hy;by_cases hcc:c=c'
  ·subst hcc;rw[if_pos rfl,if_pos hlt]at hy;injection hy with hy
   subst hy;exact World.cell?_setCell_same _ _ _ (h.cell c _ (List.getElem?_eq_getElem hlt))
  ·rw[if_neg hcc]at hy;exact(World.cell?_setCell_other _ _ _ _ (by intro e;injection e;omega)).trans (h.cell c' y hy)
 ·exact(World.cell?_setCell_other _ _ _ _ (by intro e;injection e;omega)).trans (h.oth o' ho)
theorem El.sub(h:El w0 b o s Q w x us){c:Nat}{a:AD}{u:Value}(ha:x[c]? =some a)(hu:us[c]? =some u):
  ∃Qc,(∀g,Qc g->Q g)/\nD w Qc a u/\∀w' a',mL Qc w w'->nD w' Qc a' u->El w0 b o s Q w' (x.set c a') us:=by
 obtain⟨l,R,q,e,r⟩:=h.fam;refine⟨R c,q c,r c a u ha hu,λw' a' ht hr=>?_⟩;have hb:w'.heap[b]? =w.heap[b]? :=ht.block b λhq=>h.nb (q c b hq);have hcell:∀o',w'.cell? ⟨b,o',none⟩=w.cell? ⟨b,o',none⟩:=λo'=>World.cell?_of_block (a:=⟨b,o',none⟩) hb;obtain⟨cur,cur',t,r1,r2,r3⟩:=h.row;refine⟨h.len,⟨by simp[l],R,q,e,λi a2 y h1 h2=>?_⟩,λc' y hy=>(hcell _).trans (h.cell c' y hy),λo' ho=>(hcell _).trans (h.oth o' ho),⟨cur,cur',t,r1,hb.trans r2,r3⟩,h.turn.trans (ht.mono λg hg=> .inr (q c g hg)),h.nb⟩;rw[List.getElem?_set]at h1;by_cases hi:c=i
 ·subst hi;rw[hu]at h2;injection h2 with h2
  subst h2;rw[if_pos rfl]at h1;split at h1
  ·injection h1 with h1;subst h1;exact hr
  ·cases h1
 ·rw[if_neg hi]at h1;exact(r i a2 y h1 h2).keep λg hg=>ht.block g λhq=>hi (e _ _ g hq hg)
end
section
variable {α:Type} {mk:Int->α->α} {cnt:α->Int}
theorem sI{l:List α}{k:Nat}(hk:k<l.length):l.take (k+1)=l.take k++[l[k]]:=by rw[List.take_add_one,List.getElem?_eq_getElem hk];rfl
end
end
section
open Go.RowKit
structure xO (P:Nat->Prop) (w w':World):Prop where
 os:w'.os=w.os
 tape:w'.tape=w.tape
 output:w'.output=w.output
 size:w.heap.size<=w'.heap.size
 block:∀b,b<w.heap.size->¬P b->w'.heap[b]? =w.heap[b]?
theorem mL.a{P:Nat->Prop}{w w':World}(h:mL P w w'):xO P w w':=⟨h.os,h.tape,h.output,by rw[h.size];exact Nat.le_refl _,λb _ hb=>h.block b hb⟩
theorem xO.mono{P P':Nat->Prop}{w w':World}(h:xO P w w')(hp:∀b,P b->P' b):xO P' w w':=⟨h.os,h.tape,h.output,h.size,λb hl hb=>h.block b hl λhq=>hb (hp b hq)⟩
theorem fm.focusA{w:World}{P:Nat->Prop}{d1 d2 d3:List AD}{u1 u2 u3:List Value}(h:fm w P (d1++d2++d3) (u1++u2++u3))(e1:u1.length=d1.length)(e2:u2.length=d2.length)(hlt:∀b,P b->b<w.heap.size):
  ∃Q,(∀b,Q b->P b)/\fm w Q d2 u2/\∀w' d2',xO Q w w'->fm w' Q d2' u2->fm w' P (d1++d2'++d3) (u1++u2++u3):=by
 obtain⟨v12,v3,P12,P3,ev,dj,a12,a3,f12,f3⟩:=h.split;obtain⟨e12,e3⟩:=List.append_inj ev (by rw[f12.1];simp[e1,e2]);subst e12 e3;obtain⟨v1,v2,P1,P2,ev,dk,b1,b2,f1,f2⟩:=f12.split;obtain⟨e5,e6⟩:=List.append_inj ev (by rw[f1.1];exact e1);subst e5 e6;refine⟨P2,λb hb=>a12 b (b2 b hb),f2,λw' d2' ht hf=>?_⟩;exact fm.append (P1:=P12) (P2:=P3) (fm.append (P1:=P1) (P2:=P2) (f1.keep λb hb=>ht.block b (hlt b (a12 b (b1 b hb))) λhq=>dk b hb hq) hf dk b1 b2) (f3.keep λb hb=>ht.block b (hlt b (a3 b hb)) λhq=>dj b (b2 b hq) hb) dj a12 a3
def sc(u:Nat->Value):Nat->List AD->List Value
 |_,[]=>[]
 |i,.pv v::r=>v::sc u (i+1) r
 |i,_::r=>u i::sc u (i+1) r
def Kf(u:Nat->Value):Nat->List AD->List AD
 |_,[]=>[]
 |i,.pv v::r=> .pv v::Kf u (i+1) r
 |i,_::r=> .pv (u i)::Kf u (i+1) r
def XJ(u:Nat->Value)(i:Nat):AP1->AV
 | .one (.pv v)=> .one (.d (.pv v))
 | .one _=> .one (.d (.pv (u i)))
 | .agg ds=> .agg ((Kf u i ds).map .d)
def Wp(p:AP1)(us:List Value)(v:Value):Prop:=
 match p with
 | .one _=>us=[v]
 | .agg _=>v= .agg us.toArray
theorem Ae(u:Nat->Value):∀(ds:List AD) (i:Nat),(sc u i ds).length=ds.length
 |[],_=>rfl
 | .pv _::r,i=>by simp[sc,Ae u r]
 | .sl _::r,i=>by simp[sc,Ae u r]
 | .x _::r,i=>by simp[sc,Ae u r]
theorem Is{Z:Nat->Prop}{w:World}(u:Nat->Value):∀{ds:List AD} {i:Nat} {us:List Value},us.length=ds.length->(∀(j:Nat) c x,(Kf u i ds)[j]? =some c->us[j]? =some x->co Z w c x)->us=sc u i ds
 |[],_,[],_,_=>rfl
 |d::r,i,x::us,hl,hr=>by
  have ih:us=sc u (i+1) r:=Is u (by simpa using hl) λj c y h1 h2=>hr (j+1) c y (by cases d<;>simpa[Kf]using h1) (by simpa using h2);cases d with
  |pv v=>
   have:=hr 0 (.pv v) x rfl rfl;cases this with|pv _ _=>rw[sc,<-ih]
  |sl xs=>
   have:=hr 0 (.pv (u i)) x rfl rfl;cases this with|pv _ _=>show _=u i::sc u (i+1) r;rw[<-ih]
  |x R=>
   have:=hr 0 (.pv (u i)) x rfl rfl;cases this with|pv _ _=>show _=u i::sc u (i+1) r;rw[<-ih]
 |[],_,_::_,hl,_=>by simp at hl
 |_::_,_,[],hl,_=>by simp at hl
theorem Ad(u:Nat->Value):∀(ds:List AD) (i:Nat),(Kf u i ds).length=ds.length
 |[],_=>rfl
 | .pv _::r,i=>by simp[Kf,Ad u r]
 | .sl _::r,i=>by simp[Kf,Ad u r]
 | .x _::r,i=>by simp[Kf,Ad u r]
theorem Vn{Z:Nat->Prop}{w:World}{ρ:Nat->Value}{u:Nat->Value}{i:Nat}{p:AP1}{v:Value}(h:cu Z w ρ (XJ u i p) v):Wp p (sc u i (ot p)) v:=by
 cases p with
 |one d=>
  cases d with
  |pv x=>cases h with|one _ _ h=>cases(show co Z w (.pv x) v from h)with|pv _ _=>rfl
  |sl xs=>cases h with|one _ _ h=>cases(show co Z w (.pv (u i)) v from h)with|pv _ _=>rfl
  |x R=>cases h with|one _ _ h=>cases(show co Z w (.pv (u i)) v from h)with|pv _ _=>rfl
 |agg ds=>
  cases h with
  |agg _ us hl h=>
   have:us=sc u i ds:=Is (Z:=Z) (w:=w) u (by simpa[Ad]using hl) λj c x h1 h2=>h j (.d c) x (by rw[List.getElem?_map,h1];rfl) h2;show Value.agg us.toArray= .agg (sc u i ds).toArray;rw[this]
def Xc(P:Nat->Prop)(ds:List AD)(us:List Value):World->Prop:=λw=>fm w P ds us
def Uy(P:Nat->Prop)(ds:List AD)(us:List Value):AO:= .many P (Xc P ds us)
section
variable {T:World->Prop} {S:bZ} {Z:Nat->Prop} {w w':World} {ρ:Nat->Value} {ob:List (Nat×AO)}
theorem WS.turn(h:WS T S Z w ρ ob){id:Nat}{P:Nat->Prop}{Q Q':World->Prop}(ho:bw ob id=some (.many P Q))(ht:xO P w w')(hq:∀w2:World,(∀b,P b->w2.heap[b]? =w'.heap[b]?)->Q' w2):WS T S Z w' ρ (jG ob id (.many P Q')):=by
 obtain⟨hP,_⟩:=h.many.ok id P Q ho;have hρ:ρ id=undef:=h.obj id _ ho;have hz:∀b,Z b->w'.heap[b]? =w.heap[b]? :=λb hb=>ht.block b (h.zlt b hb) λhp=>(hP b hp).2.1 hb;have hob:∀j o b,bw ob j=some o->ch (ρ j)=some b->w'.heap[b]? =w.heap[b]? :=λj o b hj hb=>ht.block b (h.lt hj hb) λhp=>(hP b hp).2.2.2 j o hj hb;have old:∀j o1,bw (jG ob id (.many P Q')) j=some o1->∃o0,bw ob j=some o0/\(j≠id->o1=o0):=by
  intro j o1 h1;rw[dy]at h1;split at h1
  ·rename_i e;subst e;exact⟨_,ho,λh=>absurd rfl h⟩
  ·exact⟨o1,h1,λ_=>rfl⟩
 have omany:∀j P1 Q1,bw (jG ob id (.many P Q')) j=some (.many P1 Q1)->(j=id/\P1=P/\Q1=Q')\/(j≠id/\bw ob j=some (.many P1 Q1)):=by
  intro j P1 Q1 h1;by_cases hj:j=id
  ·subst hj;rw[dy,if_pos rfl]at h1;injection h1 with h1
   injection h1 with e1 e2
   exact .inl ⟨rfl,e1.symm,e2.symm⟩
  ·obtain⟨o0,h0,e⟩:=old j _ h1;exact .inr ⟨hj,by rw[h0,<-e hj]⟩
 refine⟨ht.os.trans h.os,ht.tape.trans h.tape,ht.output.trans h.output,Nat.le_trans h.size ht.size,λb hb hO=>?_,λb hb=>Nat.lt_of_lt_of_le (h.zlt b hb) ht.size,λj o b hj hb=>?_,λi j oi oj b hi hj hij hbi hbj=>?_,λj o hj=>?_,⟨λj P1 Q1 hj=>?_,λi j P1 Q1 P2 Q2 hi hj hij b hb1 hb2=>?_⟩,?_,h.z0,h.znew⟩
 ·refine(ht.block b (Nat.lt_of_lt_of_le hb h.size) λhp=>?_).trans (h.old b hb hO);rcases(hP b hp).2.2.1 with h3|h3
  ·omega
  ·exact hO h3
 ·obtain⟨o0,h0,_⟩:=old j o hj;exact h.mine j o0 b h0 hb
 ·obtain⟨o0,h0,_⟩:=old i oi hi;obtain⟨o1,h1,_⟩:=old j oj hj;exact h.sep i j o0 o1 b h0 h1 hij hbi hbj
 ·by_cases hjd:j=id
  ·subst hjd;rw[dy,if_pos rfl]at hj;injection hj with hj
   subst hj;exact hρ
  ·obtain⟨o0,h0,e⟩:=old j o hj;rw[e hjd];exact(h.obj j o0 h0).mono (λ_ h=>h) hz λb hb=>hob j o0 b h0 hb
 ·have apart:∀b,(∀i o,bw ob i=some o->ch (ρ i)≠some b)->∀i o,bw (jG ob id (.many P Q')) i=some o->ch (ρ i)≠some b:=by
   intro b hb i o hi hbi;obtain⟨o0,h0,_⟩:=old i o hi;exact hb i o0 h0 hbi
  rcases omany j P1 Q1 hj with⟨_,rfl,rfl⟩|⟨hjd,hj⟩
  ·exact⟨λb hb=>⟨Nat.lt_of_lt_of_le (hP b hb).1 ht.size,(hP b hb).2.1,(hP b hb).2.2.1,apart b (hP b hb).2.2.2⟩,hq⟩
  ·obtain⟨h1,h2⟩:=h.many.ok j P1 Q1 hj;refine⟨λb hb=>⟨Nat.lt_of_lt_of_le (h1 b hb).1 ht.size,(h1 b hb).2.1,(h1 b hb).2.2.1,apart b (h1 b hb).2.2.2⟩,λw2 hw=>h2 w2 λb hb=>(hw b hb).trans (ht.block b (h1 b hb).1 λhp=>h.many.sep j id P1 Q1 P Q hj ho hjd b hb hp)⟩
 ·rcases omany i P1 Q1 hi with⟨e1,e2,e3⟩|⟨hi0,hi1⟩<;>rcases omany j P2 Q2 hj with⟨f1,f2,f3⟩|⟨hj0,hj1⟩
  ·exact hij (e1.trans f1.symm)
  ·exact h.many.sep id j P Q P2 Q2 ho hj1 (λe=>hj0 e.symm) b (e2▸hb1) hb2
  ·exact h.many.sep i id P1 Q1 P Q hi1 ho hi0 b hb1 (f2▸hb2)
  ·exact h.many.sep i j P1 Q1 P2 Q2 hi1 hj1 hij b hb1 hb2
 ·obtain⟨w1,g1,g2,g3⟩:=h.g;exact⟨w1,g1,⟨ht.os.trans g2.os,ht.tape.trans g2.tape,ht.output.trans g2.output,Nat.le_trans g2.size ht.size,λk hk=>(hz k (g3 k hk)).trans (g2.block k hk)⟩,g3⟩
end
section
variable {E:bx} {S:bZ}
theorem fF.up{Z Z':Nat->Prop}{w:World}(hz:∀b,Z b->Z' b){p:AP1}{v:Value}(h:fF Z w p v):fF Z' w p v:=by
 cases p with
 |one d=>exact co.mono hz (λ_ _=>rfl) h
 |agg ds=>obtain⟨us,e,hl,hr⟩:=h;exact⟨us,e,hl,λi d u h5 h6=>(hr i d u h5 h6).mono hz λ_ _=>rfl⟩
structure Xj (E:bx) (f:FuncId) (p:AP1) (k:Int) (p':AP1) (k':Int):Prop where
 enter:∀(us:Array Value) w,(callFunc f us).run E.P w= .ok (.enter f us) w
 run:∀(P Z:Nat->Prop) (w:World) (us:List Value) (v:Value),(∀b,Z b->b<w.heap.size)->GZ E.W Z w->(∀b,P b->b<w.heap.size/\¬Z b)->fm w P (ot p) us->Wp p us v->
  Calls E.P f #[v,.int .i64 k] w λe w'=>e= .returned (.int .i64 k')/\xO P w w'/\fm w' P (ot p') us
theorem acd{f:FuncId}{x:AV}{tm:List AV}{ob:List (Nat×AO)}{K:AV->ASt->Prop}{p p':AP1}{k k':Int}(id:Nat)(j:Nat)(d1 d3:List AD)(u1 u3:List Value){P:Nat->Prop}{u:Nat->Value}{D:List AD}{U:List Value}(hc:Xj E f p k p' k')(hx:x=XJ u j p)
  (hob:aOb ob id λo=>o=Uy P D U) (hD:D=d1++ot p++d3) (hU:U=u1++sc u j (ot p)++u3) (hl:u1.length=d1.length)
  (hk:ju id (Uy P (d1++ot p'++d3) (u1++sc u j (ot p)++u3)) ob λob=>K (vI .i64 k') ⟨tm,ob⟩):aI E S f [x,vI .i64 k] ⟨tm,ob⟩ K:=by
 refine⟨hc.enter,λZ ρ a w us hs hln hr=>?_⟩;subst hx hD hU;obtain⟨o,ho,rfl⟩:=da hob;obtain⟨hP,hQ⟩:=hs.ws.many.ok id P _ ho;have hF:fm w P (d1++ot p++d3) (u1++sc u j (ot p)++u3):=hQ w λ_ _=>rfl;obtain⟨Q,hQP,hfq,hcl⟩:=hF.focusA hl (Ae _ _ _) λb hb=>(hP b hb).1;match us,hln with
 |[v,y],_=>
  have hv:=Vn (hr 0 _ v rfl rfl);have hy:y= .int .i64 k:=by
   have:=hr 1 _ y rfl rfl;cases this with|one _ _ h=>cases(show co Z w (.pv (.int .i64 k)) y from h)with|pv _ _=>rfl
  subst hy;refine(hc.run Q Z w _ v hs.ws.zlt hs.ws.g (λb hb=>⟨(hP b (hQP b hb)).1,(hP b (hQP b hb)).2.1⟩) hfq hv).mono ?_;rintro e w' ⟨rfl,ht,hf'⟩;have hF':=hcl w' (ot p') ht hf';have hws:=hs.ws.turn (Q':=Xc P (d1++ot p'++d3) (u1++sc u j (ot p)++u3)) ho (ht.mono hQP) λw2 hw=>hF'.keep hw;refine⟨_,_,⟨tm,jG ob id (Uy P (d1++ot p'++d3) (u1++sc u j (ot p)++u3))⟩,Z,ρ,rfl,⟨hws,hs.len,λi z q hz hq=>(hs.tm i z q hz hq).mono (λ_ h=>h) λb hb=>ht.block b (hs.ws.zlt b hb) λhq=>(hP b (hQP b hq)).2.1 hb,hs.df⟩,.one (.d (.pv (.int .i64 k'))) _ (show co Z w' (.pv (.int .i64 k')) (.int .i64 k')from .pv _ rfl),fK hk⟩
end
end
section
open Go.RowKit
structure Xh (E:bx) (f:FuncId) (e:TypeId) (s:Nat) (xs xs':List (List AD)) (ps:List AP1):Prop where
 enter:∀(us:Array Value) w,(callFunc f us).run E.P w= .ok (.enter f us) w
 run:∀(Z:Nat->Prop) (w:World) (v:Value) (us:List Value),(∀b,Z b->b<w.heap.size)->GZ E.W Z w->cZ Z w (λ_=>v) 0 (.row e s xs)->(∀b,ch v=some b->¬Z b)->us.length=ps.length->(∀(i:Nat) p u,ps[i]? =some p->us[i]? =some u->fF Z w p u)->
  Calls E.P f (v::us).toArray w λen w'=>en= .returned (.tuple #[])/\xO (λb=>ch v=some b) w w'/\cZ Z w' (λ_=>v) 0 (.row e s xs')
theorem WS.turnRow{T:World->Prop}{S:bZ}{Z:Nat->Prop}{w w':World}{ρ:Nat->Value}{ob:List (Nat×AO)}(h:WS T S Z w ρ ob){id s:Nat}{e:TypeId}{xs xs':List (List AD)}(ho:bw ob id=some (.row e s xs))(ht:xO (λb=>ch (ρ id)=some b) w w')
  (hr:cZ Z w' (λ_=>ρ id) 0 (.row e s xs')):WS T S Z w' ρ (jG ob id (.row e s xs')):=by
 have hz:∀b,Z b->w'.heap[b]? =w.heap[b]? :=λb hb=>ht.block b (h.zlt b hb) λhp=>(h.mine id _ b ho hp).1 hb;have far:∀j o b,j≠id->bw ob j=some o->ch (ρ j)=some b->w'.heap[b]? =w.heap[b]? :=λj o b hj hjo hb=>ht.block b (h.lt hjo hb) λhp=>h.sep j id o _ b hjo ho hj hb hp;have old:∀j o1,bw (jG ob id (.row e s xs')) j=some o1->∃o0,bw ob j=some o0/\(j≠id->o1=o0):=by
  intro j o1 h1;rw[dy]at h1;split at h1
  ·rename_i e;subst e;exact⟨_,ho,λh=>absurd rfl h⟩
  ·exact⟨o1,h1,λ_=>rfl⟩
 refine⟨ht.os.trans h.os,ht.tape.trans h.tape,ht.output.trans h.output,Nat.le_trans h.size ht.size,λb hb hO=>?_,λb hb=>Nat.lt_of_lt_of_le (h.zlt b hb) ht.size,λj o b hj hb=>?_,λi j oi oj b hi hj hij hbi hbj=>?_,λj o hj=>?_,⟨λj P Q hj=>?_,λi j P Q P' Q' hi hj hij=>?_⟩,?_,h.z0,h.znew⟩
 ·refine(ht.block b (Nat.lt_of_lt_of_le hb h.size) λhp=>?_).trans (h.old b hb hO);rcases(h.mine id _ b ho hp).2 with h3|h3
  ·omega
  ·exact hO h3
 ·obtain⟨o0,h0,_⟩:=old j o hj;exact h.mine j o0 b h0 hb
 ·obtain⟨o0,h0,_⟩:=old i oi hi;obtain⟨o1,h1,_⟩:=old j oj hj;exact h.sep i j o0 o1 b h0 h1 hij hbi hbj
 ·by_cases hjd:j=id
  ·subst hjd;rw[dy,if_pos rfl]at hj;injection hj with hj
   subst hj;exact hr
  ·obtain⟨o0,h0,e⟩:=old j o hj;rw[e hjd];exact(h.obj j o0 h0).mono (λ_ h=>h) hz λb hb=>far j o0 b hjd h0 hb
 ·have hjd:j≠id:=by
   rintro rfl;rw[dy,if_pos rfl]at hj;cases hj
  obtain⟨o0,h0,e⟩:=old j _ hj;have:=e hjd;subst this;obtain⟨h1,h2⟩:=h.many.ok j P Q h0;refine⟨λb hb=>⟨Nat.lt_of_lt_of_le (h1 b hb).1 ht.size,(h1 b hb).2.1,(h1 b hb).2.2.1,λi o hi hbi=>?_⟩,λw2 hw=>h2 w2 λb hb=>(hw b hb).trans (ht.block b (h1 b hb).1 λhp=>(h1 b hb).2.2.2 id _ ho hp)⟩;obtain⟨o1,h3,_⟩:=old i o hi;exact(h1 b hb).2.2.2 i o1 h3 hbi
 ·have hid:∀k P Q,bw (jG ob id (.row e s xs')) k=some (.many P Q)->bw ob k=some (.many P Q):=by
   intro k P Q hk;rw[dy]at hk;split at hk
   ·cases hk
   ·exact hk
  exact h.many.sep i j P Q P' Q' (hid i P Q hi) (hid j P' Q' hj) hij
 ·obtain⟨w1,g1,g2,g3⟩:=h.g;exact⟨w1,g1,⟨ht.os.trans g2.os,ht.tape.trans g2.tape,ht.output.trans g2.output,Nat.le_trans g2.size ht.size,λk hk=>(hz k (g3 k hk)).trans (g2.block k hk)⟩,g3⟩
section
variable {E:bx} {S:bZ}
theorem aI.row{f:FuncId}{rest:List AV}{tm:List AV}{ob:List (Nat×AO)}{K:AV->ASt->Prop}{id s:Nat}{e:TypeId}{xs xs':List (List AD)}{ps:List AP1}(hc:Xh E f e s xs xs' ps)(hob:aOb ob id λo=>o= .row e s xs)(hps:aPs rest (· =ps))
  (hk:ju id (.row e s xs') ob λob=>K (.tup []) ⟨tm,ob⟩):aI E S f (.one (.own id)::rest) ⟨tm,ob⟩ K:=by
 refine⟨hc.enter,λZ ρ a w us hs hl hr=>?_⟩;obtain⟨o,ho,rfl⟩:=da hob;cases us with
 |nil=>simp at hl
 |cons v us=>
  have hv:v=ρ id:=by
   have:=hr 0 _ v rfl rfl;cases this with|one _ _ h=>exact h.1
  subst hv;have hws0:WS E.W S Z w ρ []:=hs.ws.sub aaE;obtain⟨ps',h1,h2,rfl⟩:=kO (st:=⟨[],[]⟩) hws0 (xs:=rest) (us:=us) (by simpa using hl) (λi y z h1 h2=>hr (i+1) y z (by simpa using h1) (by simpa using h2)) (Jv hps);have hz0:∀b,kL Z ρ [] b->Z b:=by rintro b (hb|⟨id,o,ho,_⟩);exact hb;cases ho
  refine(hc.run Z w (ρ id) us hs.ws.zlt hs.ws.g (hs.ws.obj id _ ho) (λb hb=>(hs.ws.mine id _ b ho hb).1) h1 λi p u h3 h4=>(h2 i p u h3 h4).up hz0).mono ?_;rintro en w' ⟨rfl,ht,hr'⟩;have hz:∀b,Z b->w'.heap[b]? =w.heap[b]? :=λb hb=>ht.block b (hs.ws.zlt b hb) λhp=>(hs.ws.mine id _ b ho hp).1 hb;refine⟨_,.tup [],⟨tm,jG ob id (.row e s xs')⟩,Z,ρ,rfl,⟨hs.ws.turnRow ho ht hr',hs.len,λi z q hz' hq=>(hs.tm i z q hz' hq).mono (λ_ h=>h) hz,hs.df⟩,.tup [] [] rfl ah,fK hk⟩
end
end
section
open Go.RowKit
structure aaA (E:bx) (f:FuncId) (n j:Nat) (e:TypeId) (s:Nat) (xs xs':List (List AD)):Prop where
 enter:∀(us:Array Value) w,(callFunc f us).run E.P w= .ok (.enter f us) w
 run:∀(Z:Nat->Prop) (w:World) (v:Value) (us:List Value),(∀b,Z b->b<w.heap.size)->GZ E.W Z w->us.length=n->(∀u∈us,u.oneCell'=true)->us[j]? =some v->cZ Z w (λ_=>v) 0 (.row e s xs)->(∀b,ch v=some b->¬Z b)->
  Calls E.P f #[.agg us.toArray] w λen w'=>en= .returned (.agg us.toArray)/\xO (λb=>ch v=some b) w w'/\cZ Z w' (λ_=>v) 0 (.row e s xs')
section
variable {E:bx} {S:bZ}
theorem aa1{c:Code}{K:Exit->ASt->Prop}{tm:List AV}{ob:List (Nat×AO)}(oid j id:Nat)(e:TypeId)(s:Nat)(hs:0<s)
  (h : C8 ⟨tm, ob⟩ id (.row e s []) fun st => aOb st.ob oid fun o => match o with
   | .cells t cs=>And (cs[j]? =some .nil) (ju oid (.cells t (cs.set j (.own id))) st.ob λob=>AWP E S c K ⟨st.tm,ob⟩)
   |_=>False):AWP E S c K ⟨tm,ob⟩:=by
 refine⟨λa w hw=>?_⟩;obtain⟨Z,ρ,hw⟩:=hw;have h1:=hw.renew id (.slice none 0 0) (.row e s []) (row:=none) (World.grownBy.refl w _) ah (λb hb=>by cases hb) ⟨[],hs,rfl,by simp,by simp,by simp[World.ownsRow],by simp⟩;have h:=jJ h;obtain⟨o,ho,h⟩:=da h;cases o with
 |cells t cs=>
  simp only at h;obtain⟨hj,h⟩:=h;have h:=fK h;obtain⟨b,us,hp,hg,hl,hc⟩:=(show cZ Z w (λi=>if i=id then .slice none 0 0 else ρ i) oid (.cells t cs)from h1.ws.obj oid _ ho);refine h.run a w ⟨Z,_,h1.upd oid _ (.cells t (cs.set j (.own id))) (g:=b) ho (by show ch ((λi=>if i=id then Value.slice none 0 0 else ρ i) oid)=some b;rw[hp];rfl) (World.grownBy.refl w _) ⟨b,us,hp,hg,by simpa using hl,λi c u hi hu=>?_⟩⟩;rw[List.getElem?_set]at hi;split at hi
  ·rename_i e;subst e;split at hi
   ·injection hi with hi
    subst hi;have:=hc j .nil u hj hu;have hu0:u= .slice none 0 0:=this;subst hu0;exact⟨by simp,rfl⟩
   ·cases hi
  ·exact hc i c u hi hu
 |_=>exact h.elim
end
end
end Go.Proofs.YthgkdhnlehneeaaGreatDoor
