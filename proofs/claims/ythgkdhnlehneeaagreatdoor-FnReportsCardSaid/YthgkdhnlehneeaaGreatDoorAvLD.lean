/- AvLD -/
import Derived.Test.YthgkdhnlehneeaaGreatDoorAvFQ
import Derived.Test.YthgkdhnlehneeaaGreatDoorText1
import Derived.Shelf.Vars
import Derived.LaidLaws
import Derived.LaidHandle
import Derived.LaidMore
import Derived.Lib.LaidTab
import Derived.Stop.Joined
import Derived.Test.YthgkdhnlehneeaaGreatDoorWB7
import Derived.Test.YthgkdhnlehneeaaGreatDoorAwx
import Derived.Test.YthgkdhnlehneeaaGreatDoorWA1
import Derived.Test.YthgkdhnlehneeaaGreatDoorAvDT
import Derived.Test.YthgkdhnlehneeaaGreatDoorAvFC
import Derived.Test.YthgkdhnlehneeaaGreatDoorAvFO
import Derived.Test.YthgkdhnlehneeaaGreatDoorWH
import Derived.Test.YthgkdhnlehneeaaGreatDoorKC
set_option maxHeartbeats 8000000
set_option linter.unusedVariables false
set_option linter.unusedSimpArgs false
set_option maxRecDepth 100000
open List (all_eq_true filter_cons_of_neg filter_cons_of_pos find?_eq_none getElem?_map map_map mem_filter mem_map mem_of_getElem? pairwise_iff_getElem)
open Bool (and_eq_true or_eq_true)
namespace Go.Proofs.YthgkdhnlehneeaaGreatDoor
section
open Go.RowKit
variable {Z Z':Nat->Prop}{v:Value}{w w':World}
def AD.flat:AD->Bool
 | .pv _=>true
 | .sl []=>true
 |_=>false
def AP1.flat:AP1->Bool
 | .one d=>d.flat
 | .agg ds=>ds.all AD.flat
def AP.flat:AP->Bool
 | .val p=>p.flat
 | .tup ps=>ps.all AP1.flat
theorem co.flat{d:AD}(hs:d.flat=true)(h:co Z w d v):co Z' w' d v:=by
 cases d with
 |pv u=>cases h with|pv _ h1=>exact .pv _ h1
 |x R=>cases hs
 |sl xs=>
  cases xs with
  |cons a b=>cases hs
  |nil=>
   cases h with
   |sl _ A cap s us hc hm hl hx hu hr h=>
    have e:us=[]:=List.length_eq_zero_iff.1 hl;subst e;exact .sl [] A cap s [] hc hm rfl hx hu (.inl rfl) λi j x u a b h1=>by simp at h1
theorem fF.flat{p:AP1}(hs:p.flat=true)(h:fF Z w p v):fF Z' w' p v:=by
 cases p with
 |one d=>exact co.flat hs h
 |agg ds=>
  obtain⟨us,e,hl,hr⟩:=h;exact⟨us,e,hl,λi d u h1 h2=>co.flat (List.all_eq_true.1 hs d (List.mem_of_getElem? h1)) (hr i d u h1 h2)⟩
theorem xr.flat{p:AP}(hs:p.flat=true)(h:xr Z w p v):xr Z' w' p v:=by
 cases p with
 |val p=>exact fF.flat hs h
 |tup ps=>
  obtain⟨us,rfl,hl,hr⟩:=h;refine⟨us,rfl,hl,λi p u h1 h2=>?_⟩;exact fF.flat (List.all_eq_true.1 hs p (List.mem_of_getElem? h1)) (hr i p u h1 h2)
theorem ab0{E:bx}{S:bZ}{st:ASt}{f:FuncId}{args:List AV}{K:AV->ASt->Prop}{ps:List AP1}{res:AP}(hc:aN E f ps res)(hps:aRs st.ob args (· =ps))(hsc:res.flat=true)(hk:K res.v st):aI E S f args st K:=by
 refine⟨hc.enter,λZ ρ a w us hs hl hr=>?_⟩;obtain⟨ps',h1,h2,rfl⟩:=kO hs.ws hl hr hps;refine(hc.run (kL Z ρ st.ob) w us (kL.lt hs.ws) ?_ h1 h2).mono ?_
 ·obtain⟨w1,g1,g2,g3⟩:=hs.ws.g;exact⟨w1,g1,g2,λb hb=> .inl (g3 b hb)⟩
 ·rintro e w' ⟨v,Z',rfl,hb,hz,hz2,hv⟩;exact⟨v,res.v,st,Z,ρ,rfl,hs.grow (gC hb) (λ_ h=>h) (λ_ h=> .inl h),(hv.flat hsc).v,hk⟩
end
section
open Go.RowKit
variable {st:ASt}{K:ASt->Prop}{xs:List (List AD)}{s:Nat}{e:TypeId}{S:bZ}{E:bx}
def Xy(id:Nat)(e:TypeId)(s:Nat)(xs:List (List AD))(st:ASt)(K:ASt->Prop):Prop:=
 (aOb st.ob id λo=>o= .row e s xs)/\BU id xs st.tm λtm=>it id xs st.ob λob=>K ⟨tm,ob⟩
theorem Tr{id:Nat}{a:Act}{w:World}(hs:f8 E.W S st a w)(hk:Xy id e s xs st K):∃st',f8 E.W S st' a w/\K st':=by
 obtain⟨tm,ob⟩:=st;obtain⟨ho,h⟩:=hk;obtain⟨o,hob,rfl⟩:=da ho;have h:=f9 (K:=λob=>K ⟨_,ob⟩) (ne (K:=λtm=>it id xs ob λob=>K ⟨tm,ob⟩) h);refine⟨_,?_,h⟩;obtain⟨Z,ρ,hs⟩:=hs;have hr:cZ Z w ρ id (.row e s xs):=hs.ws.obj id _ hob;refine⟨DM Z ρ id,ρ,hs.ws.freeze hob,by simp[hs.len],λi x v hx hv=>?_,hs.df⟩;simp only[List.getElem?_map]at hx;obtain⟨x0,h0,rfl⟩:=Option.map_eq_some_iff.1 hx;exact vu hr (hs.tm i x0 v h0 hv)
def PT(E:bx)(S:bZ)(all:List Oper)(id:Nat)(e:TypeId)(s:Nat)(xs:List (List AD)):Nat->List Oper->ASt->(ASt->Prop)->Prop
 |0,ops,st,K=>Xy id e s xs st λst=>Bj E S all ops st K
 |_+1,[],st,K=>K st
 |n+1,o::r,st,K=>uj all o st (λst=>aop E S o st λst=>PT E S all id e s xs n r st K) (λst=>fa st o.dst (.one .und) λst=>PT E S all id e s xs n r st K)
theorem uN(he:E.Ok){all:List Oper}{id:Nat}{e:TypeId}{s:Nat}{xs:List (List AD)}{Q:Exit->Act->World->Prop}(hQ:∀a w,(∃st',f8 E.W S st' a w/\K st')->Q .normal a w):
  ∀(n:Nat) (ops:List Oper) (st:ASt) (a:Act) (w:World),f8 E.W S st a w->PT E S all id e s xs n ops st K->wpList E.P all.toArray Q ops a w
 |0,ops,st,a,w,h,hk=>by
  obtain⟨st',h1,h2⟩:=Tr h hk;exact nI he hQ ops st' a w h1 h2
 |n+1,[],st,a,w,h,hk=>hQ a w ⟨st,h,hk⟩
 |n+1,o::r,st,a,w,⟨Z,ρ,h⟩,hk=>by
  unfold wpList;rcases iT h hk with⟨hw,st',hs,hk⟩|⟨hw,st',hs,hk⟩
  ·rw[if_pos hw];refine .inl (Oper.wp_mono (λa' w' h'=>?_) (pP he hs hk Q));obtain⟨st2,h2,hk2⟩:=h';exact uN he hQ n r st2 a' w' h2 hk2
  ·rw[if_neg (by simp[hw])];have:=hs.put o.dst (x:= .one .und) (v:=undef) (.one _ _ (show fp Z w ρ .und undef from rfl));exact uN he hQ n r _ _ w ⟨Z,ρ,this⟩ (fG hk)
theorem abC{K:Exit->ASt->Prop}(he:E.Ok)(n id:Nat)(e:TypeId)(s:Nat)(xs:List (List AD)){rid:Nat}{ops:Array Oper}(h:PT E S ops.toList id e s xs n ops.toList st (K .normal)):AWP E S (.region rid ops false) K st:=by
 refine⟨λa w hs=>wp_region_list ?_⟩;have:=uN he (all:=ops.toList) (Q:=λe a' w'=>∃st',f8 E.W S st' a' w'/\K e st') (λa w h=>h) n ops.toList st a w hs h;simpa using this
end
section
open Go.RowKit
variable {st:ASt}{K:AV->ASt->Prop}{c:Code}{f:FuncId}{pre:List (Nat×AO)}{args:List AA}{ids keep:List Nat}{α:Type}{S:bZ}{E:bx}
structure gU (E:bx) (f:FuncId) (args:List AA) (pre:List (Nat×AO)) {α:Type} (Q:α->Prop) (ids:List Nat) (post:α->List (Nat×AO)) (keep:List Nat) (res:α->AR):Prop where
 enter:∀(us:Array Value) w,(callFunc f us).run E.P w= .ok (.enter f us) w
 run:∀(Z:Nat->Prop) (w:World) (ρ:Nat->Value) (us:List Value),WS E.W (gV w Z ρ pre) Z w ρ pre->us.length=args.length->(∀(i:Nat) x u,args[i]? =some x->us[i]? =some u->cu Z w ρ x.v u)->
  Calls E.P f us.toArray w λe w'=>∃(y:α) (v:Value) (Z':Nat->Prop) (ρ':Nat->Value),Q y/\e= .returned v/\WS E.W (gV w Z ρ pre) Z' w' ρ' (post y)/\(∀id∈keep,ρ' id=ρ id)/\cu Z' w' ρ' (res y).v v
def N6(ids:List Nat):List (Nat×AO):=ids.map λi=>(i,.row 0 0 [])
theorem Lw:∀{ids:List Nat} {l:List (Nat×AO)},l.map (·.1)=ids->∀i,fi (N6 ids) i=fi l i
 |_,[],rfl,i=>rfl
 |_,(k,o)::r,rfl,i=>by
  simp only[List.map_cons,N6,fi];have:=Lw (l:=r) rfl i;unfold N6 at this;rw[this]
theorem UG{l:List (Nat×AO)}(h:l.map (·.1)=ids){Z:Nat->Prop}{ρ:Nat->Value}{ob:List (Nat×AO)}:yq Z ρ ob (N6 ids)=yq Z ρ ob l:=by
 funext b;unfold yq;simp only[Lw h]
def Zv(E:bx)(rs:List ResultVar){α:Type}(Q:α->Prop)(ids:List Nat)(post:α->List (Nat×AO))(keep:List Nat)(pv:List Value)(res:α->AR):Exit->ASt->Prop
 | .ret,st=>B3 E st (N6 ids) rs λv=>∃y,Q y/\v=res y/\BV st.ob ((9999,.frame (dC keep) pv)::post y)
 | .normal,st=>B3 E st (N6 ids) rs λv=>∃y,Q y/\v=res y/\BV st.ob ((9999,.frame (dC keep) pv)::post y)
 |_,_=>False
theorem be(he:E.Ok){fn:Func}{n:Nat}{rs:List ResultVar}{args:List AA}{pre:List (Nat×AO)}{Q:α->Prop}{ids:List Nat}{post:α->List (Nat×AO)}{keep:List Nat}{res:α->AR}(hf:E.P.funcs[f]? =some fn)(hb:fn.body=some c)
  (enter:∀(us:Array Value) w,(callFunc f us).run E.P w= .ok (.enter f us) w) (hn:fn.ntmps=n) (hrs:fn.results.toList=rs)
  (hsh:∀a,(post a).map (·.1)=ids) (hck:Qx args pre (keep.map λi=>(i,AO.cells 0 [])) keep=true) (hkc:∀a,keep.all (λi=>isCells (post a) i)=true)
  (h:∀S pv,Js args n λtm=>AWP E S c (Zv E rs Q ids post keep pv res) ⟨tm,(9999,.frame (dC keep) pv)::pre⟩):gU E f args pre Q ids post keep res:=by
 refine⟨enter,λZ w ρ us hws hl hr=>?_⟩;subst hn hrs;simp only[Qx,Bool.and_eq_true,all_eq_true,Bool.not_eq_true']at hck;obtain⟨⟨⟨hna,hnp⟩,hnh⟩,hkk⟩:=hck;have hp9:=KW hnh;obtain⟨hle,hk⟩:=yw (h (gV w Z ρ pre) (keep.map ρ));have relV:∀{x:AV} {v:Value},yd 9999 x=true->cu Z w ρ x v->cu Z w (λi=>if i=9999 then undef else ρ i) x v:=by
  intro x v hn hv;have:=qo (id:=9999) (y:=undef) hv;rwa[nV hn]at this
 have hs:Sim E.W (gV w Z ρ pre) Z (λi=>if i=9999 then undef else ρ i) ⟨args.map AA.v++List.replicate (fn.ntmps-args.length) (.one .und),(9999,.frame (dC keep) (keep.map ρ))::pre⟩ {tmps:=us.toArray++Array.replicate (fn.ntmps-us.toArray.size) undef,defers:=[]} w:=by
  have key:∀id o,bw ((9999,AO.frame (dC keep) (keep.map ρ))::pre) id=some o->(id=9999/\o= .frame (dC keep) (keep.map ρ))\/(id≠9999/\bw pre id=some o):=by
   intro id o ho;unfold bw at ho;split at ho
   ·rename_i e;subst e;injection ho with ho;exact .inl ⟨rfl,ho.symm⟩
   ·rename_i e;exact .inr ⟨λe'=>e e'.symm,ho⟩
  refine⟨⟨hws.os,hws.tape,hws.output,hws.size,hws.old,hws.zlt,λid o b ho hb=>?_,λi j oi oj b hi hj hij hbi hbj=>?_,λid o ho=>?_,⟨λid P Q ho=>?_,λi j P Q P' Q' hi hj=>?_⟩,hws.g,hws.z0,hws.znew⟩,by simp[hl],λi x v hx hv=>?_,rfl⟩
  ·rcases key id o ho with⟨rfl,rfl⟩|⟨hne,ho⟩
   ·simp only[if_true]at hb;cases hb
   ·simp only[if_neg hne]at hb;exact hws.mine id o b ho hb
  ·rcases key i oi hi with⟨rfl,rfl⟩|⟨hne,hi⟩
   ·simp only[if_true]at hbi;cases hbi
   ·rcases key j oj hj with⟨rfl,rfl⟩|⟨hne2,hj⟩
    ·simp only[if_true]at hbj;cases hbj
    ·simp only[if_neg hne]at hbi;simp only[if_neg hne2]at hbj;exact hws.sep i j oi oj b hi hj hij hbi hbj
  ·rcases key id o ho with⟨rfl,rfl⟩|⟨hne,ho⟩
   ·refine⟨by simp,by simp[dC],λi x u hx hu=>?_⟩;simp only[dC,getElem?_map]at hx hu;obtain⟨k,hk1,rfl⟩:=Option.map_eq_some_iff.1 hx;rw[hk1]at hu;simp only[Option.map_some]at hu;injection hu with hu
    subst hu;have hkm:=hkk k (mem_of_getElem? hk1);obtain⟨t,cs,hc⟩:=kD hkm.1;obtain⟨b,us',hp,_⟩:=hws.obj k _ hc;have hk9:k≠9999:=by rintro rfl;rw[hp9]at hc;cases hc
    refine .one _ _ ⟨b,by simp only[if_neg hk9];rw[hp];rfl,by rw[hp]⟩
   ·have hob:=hws.obj id o ho;have hnk:=rV (hnp (id,o) (dc ho));cases o with
    |many P Q=>
     show(if id=9999 then undef else ρ id)=undef;rw[if_neg hne];exact hob
    |cells t cs=>
     have:=gd (id:=9999) (y:=undef) hne (show cZ Z w ρ id (.cells t cs)from hob);rw[hnk]at this;exact this
    |row e s xs=>
     have:=gd (id:=9999) (y:=undef) hne (show cZ Z w ρ id (.row e s xs)from hob);rw[hnk]at this;exact this
    |frame vs us=>
     have:=gd (id:=9999) (y:=undef) hne (show cZ Z w ρ id (.frame vs us)from hob);rw[hnk]at this;exact this
    |any Q=>
     have:=gd (id:=9999) (y:=undef) hne (show cZ Z w ρ id (.any Q)from hob);rw[hnk]at this;exact this
  ·rcases key id _ ho with⟨_,h0⟩|⟨hne,ho⟩
   ·cases h0
   ·obtain⟨h1,h2⟩:=hws.many.ok id P Q ho;refine⟨λb hb=>⟨(h1 b hb).1,(h1 b hb).2.1,(h1 b hb).2.2.1,λj o hj=>?_⟩,h2⟩;rcases key j o hj with⟨rfl,_⟩|⟨hne,hj⟩
    ·simp only[if_true];intro h0;cases h0
    ·simp only[if_neg hne];exact(h1 b hb).2.2.2 j o hj
  ·rcases key i _ hi with⟨_,h0⟩|⟨_,hi⟩
   ·cases h0
   ·rcases key j _ hj with⟨_,h0⟩|⟨_,hj⟩
    ·cases h0
    ·exact hws.many.sep i j P Q P' Q' hi hj
  ·simp only at hx hv;have hv':(us++List.replicate (fn.ntmps-us.length) undef)[i]? =some v:=by
    have:=hv;rw[<-Array.getElem?_toList]at this;simpa using this
   by_cases hi:i<us.length
   ·rw[List.getElem?_append_left (by simpa[hl]using hi),getElem?_map]at hx;obtain⟨p,hp,rfl⟩:=Option.map_eq_some_iff.1 hx;rw[List.getElem?_append_left hi]at hv';exact relV (Qt (hna p (mem_of_getElem? hp))) (hr i p v hp hv')
   ·rw[List.getElem?_append_right al]at hx;rw[List.getElem?_append_right ac]at hv';have e1:=List.eq_of_mem_replicate (mem_of_getElem? hx);have e2:=List.eq_of_mem_replicate (mem_of_getElem? hv');subst e1 e2;exact .one _ _ (show fp Z w _ .und undef from rfl)
 refine calls_of_wp hf hb (wp_mono (hk.run _ w ⟨Z,_,hs⟩) λe a' w' h'=>?_);obtain⟨st',⟨Z',ρ',hs'⟩,hk'⟩:=h';have fin:(B3 E st' (N6 ids) fn.results.toList λv=>∃a,Q a/\v=res a/\BV st'.ob ((9999,.frame (dC keep) (keep.map ρ))::post a))->a'.defers=[]/\∃v,(results fn a'.tmps).run E.P w'= .ok v w'/\∃(a:α) (v0:Value) (Z':Nat->Prop) (ρ':Nat->Value),Q a/\Ending.returned v= .returned v0/\WS E.W (gV w Z ρ pre) Z' w' ρ' (post a)/\(∀id∈keep,ρ' id=ρ id)/\cu Z' w' ρ' (res a).v v0:=by
  intro hr;obtain⟨v,p,h1,h2,y,hQ,h3,h4⟩:=Hx he hs' hr;subst h3;rw[UG (hsh y)]at h2;have hsub:=pD h4;have hsubp:aK st'.ob (post y):=by
   obtain⟨_,_,_,h5⟩:=da h4;exact pD h5
  refine⟨hs'.df,v,h1,y,v,yq Z' ρ' st'.ob (post y),ρ',hQ,rfl,hs'.ws.out hsubp,λid hid=>?_,h2⟩;have hkm:=hkk id hid;obtain⟨t,cs,hc⟩:=kD hkm.1;obtain⟨t',cs',hc'⟩:=kD (all_eq_true.1 (hkc y) id hid);obtain⟨b,us1,hp,_⟩:=hws.obj id _ hc;obtain⟨b',us2,hp',_⟩:=hs'.ws.obj id _ (hsubp id _ hc');obtain⟨_,hfl,hfr⟩:=hs'.ws.obj 9999 _ (hsub 9999 (.frame (dC keep) (keep.map ρ)) (by simp[bw]));obtain⟨i,hi,hid'⟩:=List.getElem_of_mem hid;have hx:(dC keep)[i]? =some (.one (.ref id 0 0 0)):=by simp[dC,hi,hid']
  have hu:(keep.map ρ)[i]? =some (ρ id):=by simp[hi,hid']
  cases hfr i _ _ hx hu with
  |one _ _ hrel=>
   obtain⟨b2,hb2,hv2⟩:=hrel;rw[hp']at hb2;injection hb2 with hb2
   rw[hp',hv2,<-hb2]
 cases e with
 |normal=>exact fin hk'
 |ret=>exact fin hk'
 |_=>exact hk'.elim
theorem abV{S:bZ}{st:ASt}{Q:α->Prop}{post:α->List (Nat×AO)}{res:α->AR}{K:AV->ASt->Prop}{cargs:List AV}(hc:gU E f args pre Q ids post keep res)(m:List (Nat×Nat))
  (hck:∀y,nU m pre (post y) (res y)=true) (hargs:(args.map λa=>(BF (bj m) a).v)=cargs) (hpre:∀i o,(i,o)∈pre->bw st.ob (bj m i)=some (lg (bj m) o))
  (hex:∃y:α,True)
  (hk:∀y,Q y->K (My (bj m) (res y)).v ⟨st.tm.map (rJ (vL m (post y) keep)),vU (nW (vL m (post y) keep) st.ob) ((post y).map λp=>(bj m p.1,lg (bj m) p.2))⟩):aI E S f cargs st K:=by
 subst hargs;refine⟨hc.enter,λZ ρ a w us hs hl hr=>?_⟩;obtain⟨y0,_⟩:=hex;have pre0:∀y,∀i o,bw pre i=some o->bw st.ob (bj m i)=some (lg (bj m) o)/\fi (post y) i=true/\l9 o=true:=by
  intro y i o ho;have hck:=hck y;simp only[nU,Bool.and_eq_true,all_eq_true]at hck;have:=hck.1.1.2 _ (dc ho);simp only[Bool.and_eq_true]at this;exact⟨hpre i o (dc ho),this.1,this.2⟩
 have inj0:∀y {i j},fi (post y) i=true->fi (post y) j=true->bj m i=bj m j->i=j:=by
  intro y i j hi hj e;have hck:=hck y;simp only[nU,Bool.and_eq_true,all_eq_true]at hck;have hnd:=rW hck.1.1.1;obtain⟨oi,hoi⟩:=dl.1 hi;obtain⟨oj,hoj⟩:=dl.1 hj;exact nO (by rw[map_map];exact hnd) (mem_map.2 ⟨_,dc hoi,rfl⟩) (mem_map.2 ⟨_,dc hoj,rfl⟩) e
 have hget:=pre0 y0;have hinj:∀{i j},fi (post y0) i=true->fi (post y0) j=true->bj m i=bj m j->i=j:=λhi hj e=>inj0 y0 hi hj e;have hws0:WS E.W (gV w Z (λi=>ρ (bj m i)) pre) Z w (λi=>ρ (bj m i)) pre:=by
  refine⟨rfl,rfl,rfl,Nat.le_refl _,λ_ _ _=>rfl,hs.ws.zlt,λid o b ho hb=>⟨(hs.ws.mine _ _ b (hget id o ho).1 hb).1,.inr ⟨id,o,ho,hb⟩⟩,λi j oi oj b hi hj hij hbi hbj=>?_,λid o ho=>Mv (hget id o ho).2.2 (QC (hget id o ho).2.2 (Kg (by rw[Cw];exact(hget id o ho).2.2) (hs.ws.obj _ _ (hget id o ho).1))),abs (λid P Q ho=>by have:=(hget id _ ho).2.2;cases this),hs.ws.g,λb hb=>hb,λb hb=> .inl hb⟩;exact hs.ws.sep _ _ _ _ b (hget i oi hi).1 (hget j oj hj).1 (λe=>hij (hinj (hget i oi hi).2.1 (hget j oj hj).2.1 e)) hbi hbj
 refine(hc.run Z w (λi=>ρ (bj m i)) us hws0 (by simpa using hl) λi p u h3 h4=>?_).mono ?_
 ·refine QB (hr i _ u ?_ h4);rw[getElem?_map,h3];rfl
 rintro e w' ⟨y,v,Z',ρ',hQ,rfl,hw,hkeep,hv⟩;have hck:=hck y;simp only[nU,Bool.and_eq_true,all_eq_true]at hck;obtain⟨⟨⟨hnd,hpp⟩,hpo⟩,hres⟩:=hck;have hnd:=rW hnd;have hnd1:(((post y).map (·.1)).map (bj m)).Nodup:=by rw[map_map];exact hnd
 have hnd2:((post y).map (·.1)).Nodup:=rX hnd1;have hndm:(((post y).map λp=>(bj m p.1,lg (bj m) p.2)).map (·.1)).Nodup:=by rw[map_map];exact hnd
 have hinj:∀{i j},fi (post y) i=true->fi (post y) j=true->bj m i=bj m j->i=j:=by
  intro i j hi hj e;obtain⟨oi,hoi⟩:=dl.1 hi;obtain⟨oj,hoj⟩:=dl.1 hj;exact nO hnd1 (mem_map.2 ⟨_,dc hoi,rfl⟩) (mem_map.2 ⟨_,dc hoj,rfl⟩) e
 have hhas:∀{i},fi (post y) i=true↔i∈(post y).map (·.1):=by
  intro i;rw[dl];constructor
  ·rintro⟨o,ho⟩;exact mem_map.2 ⟨_,dc ho,rfl⟩
  ·intro h;obtain⟨p,hp,rfl⟩:=mem_map.1 h;exact⟨p.2,ja hnd2 hp⟩
 have hget:∀i o,bw pre i=some o->bw st.ob (bj m i)=some (lg (bj m) o)/\fi (post y) i=true/\l9 o=true:=by
  intro i o ho;have:=hpp _ (dc ho);simp only[Bool.and_eq_true]at this;exact⟨hpre i o (dc ho),this.1,this.2⟩
 let ids:=(post y).map (·.1)
 let ρ1:=RQ (bj m) ids ρ' ρ
 let ks:=vL m (post y) keep
 have hin:∀i,fi (post y) i=true->ρ1 (bj m i)=ρ' i:=λi hi=>QD hnd1 (hhas.1 hi);have hout:∀j,j∉ids.map (bj m)->ρ1 j=ρ j:=λj hj=>MB hj;have hag:∀i,i∉ks->ρ1 i=ρ i:=by
  intro i hi;by_cases h:i∈ids.map (bj m)
  ·obtain⟨c,hc1,rfl⟩:=mem_map.1 h;rw[hin c (hhas.2 hc1)];refine hkeep c ?_;obtain⟨p,hp,rfl⟩:=mem_map.1 hc1;refine Classical.byContradiction λhn=>hi (mem_map.2 ⟨p,List.mem_filter.2 ⟨hp,?_⟩,rfl⟩);simp only[Bool.not_eq_true',List.any_eq_false];intro k hk2 e;rw[Nat.eq_of_beq_eq_true e]at hn;exact hn hk2
  ·exact hout i h
 have hksub:∀i,i∈ks->i∈ids.map (bj m):=by
  intro i hi;obtain⟨p,hp,rfl⟩:=mem_map.1 hi;exact mem_map.2 ⟨p.1,mem_map.2 ⟨p,(List.mem_filter.1 hp).1,rfl⟩,rfl⟩
 have hob:∀j o,bw (vU (nW ks st.ob) ((post y).map λp=>(bj m p.1,lg (bj m) p.2))) j=some o->
   (∃c o',bw (post y) c=some o'/\j=bj m c/\o=lg (bj m) o')\/(j∉ids.map (bj m)/\∃o',bw st.ob j=some o'/\o=vE ks o'):=by
  intro j o ho;rw[yQ hndm]at ho;split at ho
  ·rename_i o1 h1;injection ho with ho
   subst ho;obtain⟨p,hp,e⟩:=mem_map.1 (dc h1);injection e with e1 e2
   exact .inl ⟨p.1,p.2,ja hnd2 hp,e1.symm,e2.symm⟩
  ·rename_i h1;rw[vT]at ho;obtain⟨o',h2,rfl⟩:=Option.map_eq_some_iff.1 ho;refine .inr ⟨λhm=>?_,o',h2,rfl⟩;obtain⟨c,hc1,rfl⟩:=mem_map.1 hm;obtain⟨p,hp,rfl⟩:=mem_map.1 hc1;rw[ja hndm (mem_map.2 ⟨p,hp,rfl⟩)]at h1;cases h1
 have hmany:∀j P Q,bw (vU (nW ks st.ob) ((post y).map λp=>(bj m p.1,lg (bj m) p.2))) j=some (.many P Q)->j∉ids.map (bj m)/\bw st.ob j=some (.many P Q):=by
  intro j P Q ho;rcases hob j _ ho with⟨c,o',hc1,_,e⟩|⟨hj,o',ho',e⟩
  ·have:=hpo _ (dc hc1);cases o'<;>first|(cases e;done)|(cases this;done)
  ·exact⟨hj,by rw[ho',i6 e.symm]⟩
 have hO:∀b,(gV w Z (λi=>ρ (bj m i)) pre).O b->∃i o,bw st.ob (bj m i)=some o/\fi (post y) i=true/\ch (ρ (bj m i))=some b:=by
  rintro b ⟨i,o,ho,hb⟩;exact⟨i,_,(hget i o ho).1,(hget i o ho).2.1,hb⟩
 have hfar:∀j o b,j∉ids.map (bj m)->bw st.ob j=some o->ch (ρ j)=some b->¬(gV w Z (λi=>ρ (bj m i)) pre).O b:=by
  intro j o b hj ho hb hOb;obtain⟨i,o2,ho2,hi,hb2⟩:=hO b hOb;refine hs.ws.sep j (bj m i) o o2 b ho ho2 (λe=>hj ?_) hb hb2;rw[e];exact mem_map.2 ⟨i,hhas.1 hi,rfl⟩
 have hsame:∀b,b<w.heap.size->¬(gV w Z (λi=>ρ (bj m i)) pre).O b->w'.heap[b]? =w.heap[b]? :=hw.old;have hzn:∀b,Z b->w'.heap[b]? =w.heap[b]? :=by
  intro b hb;refine hsame b (hs.ws.zlt b hb) λhOb=>?_;obtain⟨i,o2,ho2,_,hb2⟩:=hO b hOb;exact(hs.ws.mine _ _ b ho2 hb2).1 hb
 have hsz:w.heap.size<=w'.heap.size:=hw.size;have hobase:∀b,(gV w Z (λi=>ρ (bj m i)) pre).O b->S.w0.heap.size<=b\/S.O b:=by
  intro b hOb;obtain⟨i,o2,ho2,_,hb2⟩:=hO b hOb;exact(hs.ws.mine _ _ b ho2 hb2).2
 refine⟨v,(My (bj m) (res y)).v,⟨st.tm.map (rJ ks),vU (nW ks st.ob) ((post y).map λp=>(bj m p.1,lg (bj m) p.2))⟩,Z',ρ1,rfl,⟨?_,by simp[hs.len],λi x u hx hu=>?_,hs.df⟩,IA hin hres hv,hk y hQ⟩
 ·refine⟨hw.os.trans hs.ws.os,hw.tape.trans hs.ws.tape,hw.output.trans hs.ws.output,Nat.le_trans hs.ws.size hsz,λb hb hno=>?_,hw.zlt,λj o b ho hb=>?_,λi j oi oj b hi hj hij hbi hbj=>?_,λj o ho=>?_,⟨λid P Q ho=>?_,λi j P Q P' Q' hi hj=>?_⟩,hw.g,λb hb=>hw.z0 b (hs.ws.z0 b hb),λb hb=>?_⟩
  ·refine(hsame b (Nat.lt_of_lt_of_le hb hs.ws.size) λhOb=>?_).trans (hs.ws.old b hb hno);rcases hobase b hOb with h|h
   ·omega
   ·exact hno h
  ·rcases hob j o ho with⟨c,o',hc1,rfl,rfl⟩|⟨hj,o',ho',rfl⟩
   ·have hcp:=dl.2 ⟨o',hc1⟩;rw[hin c hcp]at hb;obtain⟨h1,h2⟩:=hw.mine c o' b hc1 hb;refine⟨h1,?_⟩;rcases h2 with h2|h2
    ·exact .inl (Nat.le_trans hs.ws.size h2)
    ·exact hobase b h2
   ·rw[hout j hj]at hb;obtain⟨h1,h2⟩:=hs.ws.mine j o' b ho' hb;refine⟨λhz=>?_,h2⟩;rcases hw.znew b hz with h3|h3|h3
    ·exact h1 h3
    ·have:=hs.ws.lt ho' hb;exact absurd (show w.heap.size<=b from h3) ac
    ·exact hfar j o' b hj ho' hb h3
  ·rcases hob i oi hi with⟨c,o',hc1,rfl,rfl⟩|⟨hi',o',ho',rfl⟩
   ·have hcp:=dl.2 ⟨o',hc1⟩;rw[hin c hcp]at hbi;rcases hob j oj hj with⟨c2,o2,hc2,rfl,rfl⟩|⟨hj',o2,ho2,rfl⟩
    ·have hcp2:=dl.2 ⟨o2,hc2⟩;rw[hin c2 hcp2]at hbj;exact hw.sep c c2 o' o2 b hc1 hc2 (λe=>hij (by rw[e])) hbi hbj
    ·rw[hout j hj']at hbj;rcases(hw.mine c o' b hc1 hbi).2 with h|h
     ·have:=hs.ws.lt ho2 hbj;exact absurd (show w.heap.size<=b from h) ac
     ·exact hfar j o2 b hj' ho2 hbj h
   ·rw[hout i hi']at hbi;rcases hob j oj hj with⟨c2,o2,hc2,rfl,rfl⟩|⟨hj',o2,ho2,rfl⟩
    ·have hcp2:=dl.2 ⟨o2,hc2⟩;rw[hin c2 hcp2]at hbj;rcases(hw.mine c2 o2 b hc2 hbj).2 with h|h
     ·have:=hs.ws.lt ho' hbi;exact absurd (show w.heap.size<=b from h) ac
     ·exact hfar i o' b hi' ho' hbi h
    ·rw[hout j hj']at hbj;exact hs.ws.sep i j o' o2 b ho' ho2 hij hbi hbj
  ·rcases hob j o ho with⟨c,o',hc1,rfl,rfl⟩|⟨hj,o',ho',rfl⟩
   ·have hcp:=dl.2 ⟨o',hc1⟩;exact Mw (hpo _ (dc hc1)) (Iz hin hcp (hpo _ (dc hc1)) (Mx (hpo _ (dc hc1)) (hw.obj c o' hc1)))
   ·refine Cr (λh=>hj (hksub j h)) hag ?_;refine(hs.ws.obj j o' ho').mono hw.z0 hzn λb hb=>hsame b (hs.ws.lt ho' hb) (hfar j o' b hj ho' hb)
  ·obtain⟨hj,ho'⟩:=hmany id P Q ho;obtain⟨h1,h2⟩:=hs.ws.many.ok id P Q ho';have hnO:∀b,P b->¬(gV w Z (λi=>ρ (bj m i)) pre).O b:=by
    intro b hb hOb;obtain⟨i,o2,ho2,_,hb2⟩:=hO b hOb;exact(h1 b hb).2.2.2 _ _ ho2 hb2
   refine⟨λb hb=>⟨Nat.lt_of_lt_of_le (h1 b hb).1 hsz,λhz=>?_,(h1 b hb).2.2.1,λj o hjo hbj=>?_⟩,λw2 hw2=>h2 w2 λb hb=>(hw2 b hb).trans (hsame b (h1 b hb).1 (hnO b hb))⟩
   ·rcases hw.znew b hz with h3|h3|h3
    ·exact(h1 b hb).2.1 h3
    ·have:=(h1 b hb).1;exact absurd (show w.heap.size<=b from h3) ac
    ·exact hnO b hb h3
   ·rcases hob j o hjo with⟨c,o',hc1,rfl,rfl⟩|⟨hj',o',ho2,rfl⟩
    ·rw[hin c (dl.2 ⟨o',hc1⟩)]at hbj;rcases(hw.mine c o' b hc1 hbj).2 with h3|h3
     ·have:=(h1 b hb).1;exact absurd (show w.heap.size<=b from h3) ac
     ·exact hnO b hb h3
    ·rw[hout j hj']at hbj;exact(h1 b hb).2.2.2 j o' ho2 hbj
  ·exact hs.ws.many.sep i j P Q P' Q' (hmany i P Q hi).2 (hmany j P' Q' hj).2
  ·rcases hw.znew b hb with h|h|h
   ·exact hs.ws.znew b h
   ·exact .inr (.inl (Nat.le_trans hs.ws.size h))
   ·exact .inr (hobase b h)
 ·simp only[getElem?_map]at hx;obtain⟨x0,h0,rfl⟩:=Option.map_eq_some_iff.1 hx;exact yN hag ((hs.tm i x0 u h0 hu).mono hw.z0 hzn)
theorem aaP{S:bZ}{st:ASt}{Q:α->Prop}{post:α->List (Nat×AO)}{res:α->AR}{K:AV->ASt->Prop}{cargs:List AV}(hc:gU E f args pre Q ids post keep res)(m:List (Nat×Nat))(y0:α)
  (hck:∀y,nU m pre (post y) (res y)=true) (hargs:(args.map λa=>(BF (bj m) a).v)=cargs) (hp:UJ m st.ob pre True) (hk:∀y,Q y->wD (vL m (post y) keep) st λst=>yz m st.ob (post y) λob=>PJ m (res y) λr=>K r ⟨st.tm,ob⟩):aI E S f cargs st K:=
 abV hc m hck hargs (Ee hp).1 ⟨y0,trivial⟩ λy hQ=>Hs (yA (uk (hk y hQ)))
structure cA (E:bx) (f:FuncId) (args:List AP1) {α:Type} (Q:α->Prop) (res:α->AP):Prop where
 enter:∀(us:Array Value) w,(callFunc f us).run E.P w= .ok (.enter f us) w
 run:∀(Z:Nat->Prop) (w:World) (us:List Value),(∀b,Z b->b<w.heap.size)->GZ E.W Z w->us.length=args.length->(∀(i:Nat) p u,args[i]? =some p->us[i]? =some u->fF Z w p u)->
  Calls E.P f us.toArray w λe w'=>∃(y:α) (v:Value) (Z':Nat->Prop),Q y/\e= .returned v/\Below w.heap.size w w'/\(∀b,Z b->Z' b)/\(∀b,Z' b->Z b\/(w.heap.size<=b/\b<w'.heap.size))/\xr Z' w' (res y) v
def Zu(E:bx)(rs:List ResultVar){α:Type}(Q:α->Prop)(res:α->AP):Exit->ASt->Prop
 | .ret,st=>K0 E st rs λv=>∃y,Q y/\v=res y
 | .normal,st=>K0 E st rs λv=>∃y,Q y/\v=res y
 |_,_=>False
theorem aV(he:E.Ok){fn:Func}{n:Nat}{rs:List ResultVar}{args:List AP1}{Q:α->Prop}{res:α->AP}(hf:E.P.funcs[f]? =some fn)(hb:fn.body=some c)
  (enter:∀(us:Array Value) w,(callFunc f us).run E.P w= .ok (.enter f us) w) (hn:fn.ntmps=n) (hrs:fn.results.toList=rs)
  (h:∀S,BW args n λtm=>AWP E S c (Zu E rs Q res) ⟨tm,[]⟩):cA E f args Q res:=by
 refine⟨enter,λZ w us hz hg hl hr=>?_⟩;subst hn hrs;obtain⟨hle,hk⟩:=ng (h ⟨w,λ_=>False,Z⟩);have hs:Sim E.W ⟨w,λ_=>False,Z⟩ Z (λ_=>undef) ⟨args.map AP1.v++List.replicate (fn.ntmps-args.length) (.one .und),[]⟩ {tmps:=us.toArray++Array.replicate (fn.ntmps-us.toArray.size) undef,defers:=[]} w:=by
  refine⟨⟨rfl,rfl,rfl,Nat.le_refl _,λ_ _ _=>rfl,hz,λid o b ho _=>(by cases ho),λi j oi oj b hi _ _ _ _=>(by cases hi),λid o ho=>(by cases ho),kj.nil,hg,λb hb=>hb,λb hb=> .inl hb⟩,by simp[hl],λi x v hx hv=>?_,rfl⟩;simp only at hx hv;have hv':(us++List.replicate (fn.ntmps-us.length) undef)[i]? =some v:=by
   have:=hv;rw[<-Array.getElem?_toList]at this;simpa using this
  by_cases hi:i<us.length
  ·rw[List.getElem?_append_left (by simpa[hl]using hi),getElem?_map]at hx;obtain⟨p,hp,rfl⟩:=Option.map_eq_some_iff.1 hx;rw[List.getElem?_append_left hi]at hv';exact(hr i p v hp hv').v
  ·rw[List.getElem?_append_right al]at hx;rw[List.getElem?_append_right ac]at hv';have e1:=List.eq_of_mem_replicate (mem_of_getElem? hx);have e2:=List.eq_of_mem_replicate (mem_of_getElem? hv');subst e1 e2;exact .one _ _ (show fp Z w (λ_=>undef) .und undef from rfl)
 refine calls_of_wp hf hb (wp_mono (hk.run _ w ⟨Z,_,hs⟩) λe a' w' h'=>?_);obtain⟨st',⟨Z',ρ',hs'⟩,hk'⟩:=h';have fin:(K0 E st' fn.results.toList λv=>∃y,Q y/\v=res y)->a'.defers=[]/\∃v,(results fn a'.tmps).run E.P w'= .ok v w'/\∃(y:α) (v0:Value) (Z':Nat->Prop),Q y/\Ending.returned v= .returned v0/\Below w.heap.size w w'/\(∀b,Z b->Z' b)/\(∀b,Z' b->Z b\/(w.heap.size<=b/\b<w'.heap.size))/\xr Z' w' (res y) v0:=by
  intro hr;obtain⟨v,p,h1,h2,y,hQ,h3⟩:=K3 he hs' hr;subst h3;refine⟨hs'.df,v,h1,y,v,kL Z' ρ' st'.ob,hQ,rfl,⟨hs'.ws.os,hs'.ws.tape,hs'.ws.output,hs'.ws.size,λb hb=>hs'.ws.old b hb (λh=>h)⟩,λb hb=> .inl (hs'.ws.z0 b hb),λb hb=>?_,h2⟩;have hlt:=kL.lt hs'.ws b hb;rcases hb with hb|⟨id,o,ho,hb⟩
  ·rcases hs'.ws.znew b hb with h4|h4|h4
   ·exact .inl h4
   ·exact .inr ⟨h4,hlt⟩
   ·exact h4.elim
  ·rcases(hs'.ws.mine id o b ho hb).2 with h4|h4
   ·exact .inr ⟨h4,hlt⟩
   ·exact h4.elim
 cases e with
 |normal=>exact fin hk'
 |ret=>exact fin hk'
 |_=>exact hk'.elim
theorem aN.q{args:List AP1}{res:AP}(hc:aN E f args res){Q:α->Prop}{r:α->AP}(y:α)(hQ:Q y)(e:res=r y):cA E f args Q r:=
 ⟨hc.enter,λZ w us h1 h2 h3 h4=>(hc.run Z w us h1 h2 h3 h4).mono λ_ _ ⟨v,Z',h5,h6,h7,h8,h9⟩=>⟨y,v,Z',hQ,h5,h6,h7,h8,e▸h9⟩⟩
theorem aI.q{args:List AV}{ps:List AP1}{Q:α->Prop}{res:α->AP}(hc:cA E f ps Q res)(hps:aPs args (· =ps))(hk:∀y,Q y->K (res y).v st):aI E S f args st K:=by
 refine⟨hc.enter,λZ ρ a w us hs hl hr=>?_⟩;have hws0:WS E.W S Z w ρ []:=hs.ws.sub aaE;obtain⟨ps',h1,h2,rfl⟩:=kO (E:=E) (S:=S) (st:=⟨[],[]⟩) hws0 hl hr (Jv hps);refine(hc.run Z w us hs.ws.zlt hs.ws.g h1 λi p u h3 h4=>?_).mono ?_
 ·have:=h2 i p u h3 h4;have hz:∀b,kL Z ρ [] b->Z b:=by rintro b (hb|⟨id,o,ho,_⟩);exact hb;cases ho
  cases p with
  |one d=>exact co.mono hz (λ_ _=>rfl) this
  |agg ds=>obtain⟨us,e,hl,hr⟩:=this;exact⟨us,e,hl,λi d u h5 h6=>(hr i d u h5 h6).mono hz λ_ _=>rfl⟩
 ·rintro e w' ⟨y,v,Z',hQ,rfl,hb,hz,hz2,hv⟩;exact⟨v,(res y).v,st,Z',ρ,rfl,hs.grow (gC hb) hz hz2,hv.v,hk y hQ⟩
end
section
open Go.ChangeShapes Go.WideShapes Go.RowKit
section
variable {H:Type} {enc:TypeId×Value->H}
theorem law_lifted_laid{L:List (String×DataW Unit)}{C:Checked}{os:Os}{f:FuncId}{fn:Func}{s:ChangeSpec}{tb:TypeId}{apart fresh handsOn again:Bool}
  (own:ownKnob C.prog.godebug=none) (started:os.Started) (noInit:C.prog.inits.idxOf? f=none) (hfn:C.prog.funcs[f]? =some fn)
  (hl:laidOutB C.prog=true) (hr:(fn.params.toList.all λt=>C.prog.readableRec t&&decide (t<C.prog.types.size))=true)
  (hvars:s.vars=[]) (hres:fn.resultTypes= #[tb]) (hb:C.prog.underlying tb=some .bool)
  (hspec:∀ds:List (DataW H),ds.length=fn.params.size->s.fn H (ds++[])={results:=[.lit (.bool true)],args:=ds})
  (witness : ∃ (w : World) (tape : Tape) (i : Input), w.os = os ∧ (w.forCall tape i).Shaped C.prog ∧ i.vars = [] ∧ Input.okWide C.prog (w.forCall tape i) .any w.heap.size f i ∧
   ((s.pre enc C.prog fn [] apart (w.forCall tape i).memory i.args/\laidMetH C.prog L (w.forCall tape i).memory)/\sizedMet enc C.prog fn (OpenSpec.ofChange s) apart (w.forCall tape i).memory i.args)/\({}:Assume).holds C.prog (lone (Frame.enter C.prog f i.args .normal) [] (w.forCall tape i)))
  (walk:∀(W:World) (base:Nat) (args:Array Value) (ds:List (DataW H)) (ps:List MemPlace),
   (∀(j:Nat) t v,fn.params[j]? =some t->args[j]? =some v->Value.okWide C.prog W .any base t v)->
   DataW.TrodAll enc C.prog W 0 (λ_=>true) true fn.params.toList args.toList ds ps->W.noneFrozen ps->W.ShapedOpen C.prog->laidMetH C.prog L W->
   Calls C.prog f args W λe W'=>e= .returned (.bool true)/\Below W.heap.size W W'):
  ReturnsInHanded {} C os f .any (λw args=>(s.pre enc C.prog fn [] apart w args/\laidMetH C.prog L w)/\sizedMet enc C.prog fn (OpenSpec.ofChange s) apart w args) (s.post enc C.prog fn apart fresh handsOn again):=by
 refine returnsInHanded_of_calls own started noInit witness ?_;intro w tape i _ hsh _ hok hpre hholds;obtain⟨_,_,_,fn',hfn',_,_,_,_,hval⟩:=hok;have e:fn=fn':=Option.some.inj (hfn.symm.trans hfn');subst e;obtain⟨⟨⟨ds,gs,before,hw,_⟩,hL⟩,_⟩:=hpre;have hW:DataW.Whole enc C.prog fn.params.toList s.vars apart (w.forCall tape i) i.args.toList ds gs before:=DataW.Whole.of_heap (w':=w.forCall tape i) (by rfl) hw;have hL:laidMetH C.prog L (w.forCall tape i):=hL.of_heap (by rfl);generalize hWW:w.forCall tape i=W at*
 generalize i.args=args at*
 suffices hS:Calls C.prog f args W λe W'=>∃v,e= .returned v/\s.post enc C.prog fn apart fresh handsOn again W args v W' by
  refine hS.mono λe W' ⟨v,he,hp⟩=>?_;subst he;exact ChangeSpec.post_blind hp
 have hW':=hW;obtain⟨p,q,hA,hV,rfl,hfz,hnd⟩:=hW;rw[hvars]at hV;obtain⟨rfl,rfl⟩:=trodVars_none hV;have hlen:ds.length=fn.params.size:=by
  have aux:∀(ts:List TypeId) (vs:List Value) (ds:List (DataW H)) (ps:List MemPlace),DataW.TrodAll enc C.prog W 0 (λ_=>true) true ts vs ds ps->ds.length=ts.length:=by
   intro ts;induction ts with
   |nil=>intro vs ds ps h;cases vs<;>cases ds<;>simp_all[DataW.TrodAll]
   |cons t ts ih=>
    intro vs ds ps h;cases vs with
    |nil=>simp[DataW.TrodAll]at h
    |cons v vs=>
     cases ds with
     |nil=>simp[DataW.TrodAll]at h
     |cons d ds=>obtain⟨p,q,_,h2,_⟩:=h;simp[ih _ _ _ h2]
  simpa using aux _ _ _ _ hA
 have hsp:=hspec ds hlen;have hlt:∀x∈p++[],x.block<W.heap.size:=λx hx=>hW'.lt x hx;simp only[List.append_nil]at hW' hlt hfz;refine(walk W w.heap.size args ds p hval hA hfz hsh hL).mono λe W' ⟨he,hbl⟩=>⟨_,he,?_⟩;refine GQ (pa:=p) (pv:=[]) hW' (λb sp hd=>?_) (λsp hh=>?_) (λsp hh=>?_) (by simp) hbl ?_
 ·rw[hsp,hres];exact trodAll_cons_mk (shut_bool hb _) trodAll_mk0
 ·rw[hsp];exact He hl _ _ _ _ _ _ _ hr hA (λx hx=>hbl.same (hlt x hx)) hh
 ·rw[hsp,hvars];rfl
 ·exact ok_one hres rfl (okWide_bool_mk hb _)
end
theorem Nm{W:World}{x y:String×DataW Unit}{d:DataW Unit}{n:String}{rest:List (String×DataW Unit)}(hn:n=Rows.fnReportsRow.named.getD 0 "")(hd:d=Lib.tabData .u64 Lib.pow10Tab)
  (h:laidMet Tryz.prog (x::y::(n,d)::rest) W):Tab W:=by
 subst hd hn;obtain⟨ps,⟨_,_,_,_,_,_,_,_,_,_,⟨_,_,_,_,_,_,_,_,_,_,⟨g2,t2,cs2,f2,p2,q2,hg2,ht2,hv2,hd2,_,_⟩,_⟩,_⟩,_⟩:=h;have e1:Tryz.prog.globalNamed (Rows.fnReportsRow.named.getD 0 "")=some 3:=by kernel_rfl
 have e2:(Tryz.prog.globals[3]?).map (·.type)=some 401:=by kernel_rfl
 obtain rfl:=Option.some.inj (e1.symm.trans hg2);obtain rfl:=Option.some.inj (e2.symm.trans ht2);show Lib.TabIs _ _ _ _ _;unfold Lib.TabIs;rw[hv2,<-Lib.cells_of_tab Tryz.underlying401 Tryz.underlying26 (by kernel_rfl) (by kernel_rfl) hd2]
theorem Vv{W:World}(hsh:W.ShapedOpen Tryz.prog)(hT:Tab W):Nz W:=
 ⟨hT,Go.Proofs.cell_of_shapedOpen_int (g:=0) (t:=3) (zero:= #[.int .i64 0]) (k:= .i64) hsh (of_decide_eq_true (by kernel_rfl)) (by kernel_rfl) rfl (by kernel_rfl) (by kernel_rfl) Tryz.underlying3⟩
end
section
open Go.ChangeShapes Go.WideShapes Go.RowKit
section
variable {α:Type} (key:α->Int)
def Dh(l:List α)(p:α):List α:=l.filter (λx=>decide (key x<key p))++p::l.filter (λx=>decide (key p<key x))
variable {key} {l:List α} {p:α}
theorem FC{x:α}(hx:x∈Dh key l p):x∈l\/x=p:=by
 simp only[Dh,List.mem_append,List.mem_cons,mem_filter]at hx;rcases hx with hx|rfl|hx
 ·exact .inl hx.1
 ·exact .inr rfl
 ·exact .inl hx.1
theorem Mq{R:α->α->Prop}(pw:l.Pairwise R)(hl:∀x∈l,key x<key p->R x p)(hr:∀x∈l,key p<key x->R p x)(hm:∀x∈l,∀y∈l,key x<key y->R x y):(Dh key l p).Pairwise R:=by
 refine List.pairwise_append.2 ⟨pw.sublist List.filter_sublist,List.pairwise_cons.2 ⟨λy hy=>?_,pw.sublist List.filter_sublist⟩,λa ha b hb=>?_⟩
 ·have:=mem_filter.1 hy;exact hr y this.1 (by simpa using this.2)
 ·have h1:=mem_filter.1 ha;have h2:key a<key p:=by simpa using h1.2
  rcases List.mem_cons.1 hb with rfl|hb
  ·exact hl a h1.1 h2
  ·have h3:=mem_filter.1 hb;have h4:key p<key b:=by simpa using h3.2
   exact hm a h1.1 b h3.1 ac
theorem vX(pw:l.Pairwise λx y=>key x<key y):(Dh key l p).Pairwise λx y=>key x<key y:=
 Mq pw (λ_ _ h=>h) (λ_ _ h=>h) λ_ _ _ _ h=>h
theorem Ud(h:∀x∈l,key x≠key p):(Dh key l p).length=l.length+1:=by
 simp only[Dh,List.length_append,List.length_cons];have:∀m:List α,(∀x∈m,key x≠key p)->(m.filter (λx=>decide (key x<key p))).length+(m.filter (λx=>decide (key p<key x))).length=m.length:=by
  intro m;induction m with
  |nil=>intro _;rfl
  |cons x r ih=>
   intro hm;have h0:=hm x (List.mem_cons_self ..);have hr:=ih λy hy=>hm y (List.mem_cons_of_mem _ hy);rcases Int.lt_or_gt_of_ne h0 with hlt|hlt
   ·rw[filter_cons_of_pos (by simpa using hlt),filter_cons_of_neg al];simp only[List.length_cons];omega
   ·rw[filter_cons_of_neg al,filter_cons_of_pos (by simpa using hlt)];simp only[List.length_cons];omega
 have:=this l h;omega
theorem Jb(k:Int):∀{m:List α},(m.Pairwise λx y=>key x<key y)->m.filter (λx=>decide (key x<=k))=m.filter (λx=>decide (key x<=k-1))++(match m.find? (λx=>key x==k)with|some x=>[x]|none=>[])
 |[],_=>rfl
 |y::r,hm=>by
  obtain⟨h1,h2⟩:=List.pairwise_cons.1 hm;have big:k<=key y->r.filter (λx=>decide (key x<=k))=[]/\r.filter (λx=>decide (key x<=k-1))=[]/\r.find? (λx=>key x==k)=none:=λhy=>
   ⟨List.filter_eq_nil_iff.2 λx hx=>by have:=h1 x hx;simp;omega,List.filter_eq_nil_iff.2 λx hx=>by have:=h1 x hx;simp;omega,find?_eq_none.2 λx hx=>by have:=h1 x hx;simp;omega⟩
  rcases Int.lt_trichotomy (key y) k with hy|hy|hy
  ·rw[filter_cons_of_pos al,filter_cons_of_pos al,List.find?_cons_of_neg al,Jb k h2];rfl
  ·obtain⟨e1,e2,e3⟩:=big ac;rw[filter_cons_of_pos al,filter_cons_of_neg al,List.find?_cons_of_pos (by simp[hy]),e1,e2];rfl
  ·obtain⟨e1,e2,e3⟩:=big ac;rw[filter_cons_of_neg al,filter_cons_of_neg al,List.find?_cons_of_neg al,e1,e2,e3];rfl
theorem RM(k:Int):(Dh key l p).find? (λx=>key x==k)=if k=key p then some p else l.find? (λx=>key x==k):=by
 unfold Dh;split
 ·rename_i e;rw[List.find?_append,find?_eq_none.2 (λx hx=>by have:=(mem_filter.1 hx).2;simp at this⊢;omega),List.find?_cons_of_pos (by simp[e])];rfl
 ·rename_i e;rw[List.find?_append,List.find?_cons_of_neg al,List.find?_filter,List.find?_filter];rcases Int.lt_or_gt_of_ne e with hlt|hlt
  ·have e1:(λa:α=>decide (decide (key a<key p)=true/\(key a==k)=true))=λx=>key x==k:=by
    funext x;rw[Bool.eq_iff_iff];simp;omega
   have e2:l.find? (λa=>decide (decide (key p<key a)=true/\(key a==k)=true))=none:=find?_eq_none.2 λx _=>by simp;omega
   rw[e1,e2,Option.or_none]
  ·have e1:(λa:α=>decide (decide (key p<key a)=true/\(key a==k)=true))=λx=>key x==k:=by
    funext x;rw[Bool.eq_iff_iff];simp;omega
   have e2:l.find? (λa=>decide (decide (key a<key p)=true/\(key a==k)=true))=none:=find?_eq_none.2 λx _=>by simp;omega
   rw[e1,e2,Option.none_or]
def lM(key:α->Int)(l:List α)(k:Int):List α:=l.filter λx=>decide (key x<=k)
theorem Ir(pw:l.Pairwise λx y=>key x<key y)(k:Int):lM key (Dh key l p) k=lM key (Dh key l p) (k-1)++(match(if k=key p then some p else l.find? (λx=>key x==k))with|some x=>[x]|none=>[]):=by
 rw[<-RM];exact Jb k (vX pw)
theorem Ja{k:Int}(h:∀x∈l,key x<=k):lM key l k=l:=List.filter_eq_self.2 λx hx=>by simpa using h x hx
theorem Gx{k:Int}(h:∀x∈l,k<key x):lM key l k=[]:=List.filter_eq_nil_iff.2 λx hx=>by have:=h x hx;simp;omega
end
theorem RL(x y z:br)(h1:gP x y=true)(h2:gP y z=true):gP x z=true:=by
 simp only[gP,decide_eq_true_eq]at*;omega
theorem TM(x y z:bo)(h1:mS x y=true)(h2:mS y z=true):mS x z=true:=by
 simp only[mS,decide_eq_true_eq]at*;omega
theorem jQ{l:List br}(h:bS l=true):(∀x∈l,dU x=true)/\l.Pairwise λx y=>x.key<y.key:=by
 simp only[bS,and_eq_true,all_eq_true]at h;exact⟨h.1,(qu RL h.2).imp λh=>by simpa[gP]using h⟩
theorem Fy{l:List br}(h1:∀x∈l,dU x=true)(h2:l.Pairwise λx y=>x.key<y.key):bS l=true:=by
 simp only[bS,and_eq_true,all_eq_true];exact⟨h1,pJ (h2.imp λh=>by simpa[gP]using h)⟩
def ud(l:List br)(p:br):List br:=Dh br.key l p
theorem Dw{l:List br}{p:br}(h:bS l=true)(hp:dU p=true):bS (ud l p)=true:=by
 obtain⟨f1,f2⟩:=jQ h;refine Fy (λx hx=>?_) (vX f2);rcases FC hx with hx|rfl
 ·exact f1 x hx
 ·exact hp
def Re(l:List br)(k:Int):List br:=l.filter λx=>x.key !=k
theorem UR{l:List br}(h:bS l=true)(k:Int):bS (Re l k)=true:=
 Fy (λx hx=>(jQ h).1 x (mem_filter.1 hx).1) ((jQ h).2.sublist List.filter_sublist)
def Fj(x y:bo):Prop:=y.fired=0\/x.fired≠y.fired
theorem L3(x y:bo):mB x y=false↔Fj x y:=by
 simp only[mB,Fj,Bool.and_eq_false_iff,bne_eq_false_iff_eq,beq_eq_false_iff_ne,ne_eq]
theorem dF{l:List bo}(h:bO l=true):l.length<=8/\(∀x∈l,iN x=true)/\(l.Pairwise λx y=>x.id<y.id)/\l.Pairwise Fj:=by
 simp only[bO,and_eq_true,decide_eq_true_eq,all_eq_true]at h;refine⟨h.1.1.1,h.1.1.2,(qu TM h.1.2).imp λh=>by simpa[mS]using h,pairwise_iff_getElem.2 λi j hi hj hij=>?_⟩;exact(L3 _ _).1 (q9 h.2 hij hj)
theorem H9{l:List bo}(h0:l.length<=8)(h1:∀x∈l,iN x=true)(h2:l.Pairwise λx y=>x.id<y.id)(h3:l.Pairwise Fj):bO l=true:=by
 simp only[bO,and_eq_true,decide_eq_true_eq,all_eq_true];exact⟨⟨⟨h0,h1⟩,pJ (h2.imp λh=>by simpa[mS]using h)⟩,mY λj k hj hk=>(L3 _ _).2 (pairwise_iff_getElem.1 h3 j k ac hk hj)⟩
def ya(l:List bo)(id:Int):Option bo:=l.find? λx=>x.id==id
def qN(l:List bo)(j:bo):List bo:=Dh bo.id l j
theorem TR{l:List bo}(h:bO l=true):∀x∈l,∀y∈l,x.id<y.id->Fj x y:=by
 obtain⟨_,_,f3,f4⟩:=dF h;intro x hx y hy hlt;obtain⟨i,hi,rfl⟩:=List.getElem_of_mem hx;obtain⟨j,hj,rfl⟩:=List.getElem_of_mem hy;rcases Nat.lt_trichotomy i j with hij|rfl|hij
 ·exact pairwise_iff_getElem.1 f4 i j hi hj hij
 ·omega
 ·have:=pairwise_iff_getElem.1 f3 j i hj hi hij;omega
theorem PS{l:List bo}{j:bo}(h:bO l=true)(hj:iN j=true)(hf:j.fired=0)(hn:ya l j.id=none)(hl:l.length<8):bO (qN l j)=true:=by
 obtain⟨f1,f2,f3,f4⟩:=dF h;have hne:∀x∈l,x.id≠j.id:=λx hx=>by simpa using find?_eq_none.1 hn x hx
 refine H9 (by unfold qN;rw[Ud hne];omega) (λx hx=>?_) (vX f3) (Mq f4 (λx _ _=> .inl hf) (λx _ _=>?_) (TR h))
 ·rcases FC hx with hx|rfl
  ·exact f2 x hx
  ·exact hj
 ·unfold Fj;omega
def mu(l:List bo)(k:Nat)(i:Int):List bo:=l.modify k λx=>⟨x.id,x.due,x.key,x.value,i⟩
theorem lS{l:List bo}{k:Nat}{i:Int}{n:Nat}(hn:n<(mu l k i).length):(mu l k i)[n]=if k=n then⟨(l[n]'(by simpa[mu]using hn)).id,(l[n]'(by simpa[mu]using hn)).due,(l[n]'(by simpa[mu]using hn)).key,(l[n]'(by simpa[mu]using hn)).value,i⟩else l[n]'(by simpa[mu]using hn):=by
 simp only[mu,List.getElem_modify]
theorem To{l:List bo}{k:Nat}{i:Int}(h:bO l=true)(hi:1<=i/\i<=2000)(hn:∀x∈l,x.fired≠i):bO (mu l k i)=true:=by
 obtain⟨f1,f2,f3,f4⟩:=dF h;have hlen:(mu l k i).length=l.length:=by simp[mu]
 refine H9 ac (λx hx=>?_) (pairwise_iff_getElem.2 λa b ha hb hab=>?_) (pairwise_iff_getElem.2 λa b ha hb hab=>?_)
 ·obtain⟨n,hn,rfl⟩:=List.getElem_of_mem hx;have:=f2 _ (List.getElem_mem (by omega:n<l.length));rw[lS];split
  ·simp only[iN,aJ,and_eq_true,decide_eq_true_eq]at this⊢;exact⟨this.1,ac,hi.2⟩
  ·exact this
 ·have:=pairwise_iff_getElem.1 f3 a b ac ac hab;rw[lS,lS];split<;>split<;>exact this
 ·have:=pairwise_iff_getElem.1 f4 a b ac ac hab;have h1:=hn _ (List.getElem_mem (by omega:a<l.length));have h2:=hn _ (List.getElem_mem (by omega:b<l.length));rw[lS,lS];unfold Fj at*
  by_cases e1:k=a
  ·have e2:¬k=b:=ac;rw[if_pos e1,if_neg e2];exact .inr λe=>h2 e.symm
  ·rw[if_neg e1];by_cases e2:k=b
   ·rw[if_pos e2];exact .inr h1
   ·rw[if_neg e2];exact this
theorem yc{l:ge}(h:d9 l=true):l=⟨0,0,0⟩\/((l.holder=2\/l.holder=3)/\(1<=l.epoch/\l.epoch<=1000)/\1<=l.til/\l.til<=1001000):=by
 simp only[d9,ft,aJ,or_eq_true,and_eq_true,decide_eq_true_eq,beq_iff_eq]at h;rcases h with h|h
 ·exact .inl h
 ·exact .inr ⟨h.1.1,h.1.2,h.2⟩
theorem Fd{l:ge}(h:(l.holder=2\/l.holder=3)/\(1<=l.epoch/\l.epoch<=1000)/\1<=l.til/\l.til<=1001000):d9 l=true:=by
 simp only[d9,ft,aJ,or_eq_true,and_eq_true,decide_eq_true_eq,beq_iff_eq];exact .inr ⟨⟨h.1,h.2.1⟩,h.2.2⟩
def JR(l:ge)(t:Int):Bool:=d9 l&&tOk t&&(l.holder==0||decide (l.til<=t))
def ik(l:ge)(who t long:Int):Bool:=ft who&&tOk t&&aJ long 1 1000&&(l.holder==who||(JR l t&&decide (l.epoch<1000)))
def yK(l:ge)(who t long:Int):ge:=if l.holder=who then⟨l.holder,l.epoch,if l.til>t+long then l.til else t+long⟩else⟨who,l.epoch+1,t+long⟩
theorem Tu{l:ge}{who t long:Int}(h:d9 l=true)(hg:ik l who t long=true):d9 (yK l who t long)=true:=by
 simp only[ik,ft,tOk,aJ,and_eq_true,or_eq_true,decide_eq_true_eq,beq_iff_eq]at hg;obtain⟨⟨⟨h1,h2⟩,h3⟩,h4⟩:=hg;have hf:=yc h;unfold yK;split
 ·rename_i e;rcases hf with hf|hf
  ·rw[hf]at e;simp only at e;omega
  ·refine Fd ⟨hf.1,hf.2.1,?_⟩;simp only;split<;>omega
 ·rename_i e;have h4:=h4.resolve_left e;refine Fd ⟨h1,?_,?_⟩
  ·rcases hf with hf|hf
   ·rw[hf];simp
   ·simp only;omega
  ·simp only;omega
def JU(l:ge)(who epoch t:Int):Bool:=d9 l&&tOk t&&l.holder !=0&&l.holder==who&&l.epoch==epoch&&decide (t<l.til)
def oM(s:bf)(e:aO):Bool:=bB s&&bL e&&e.index==s.index+1&&decide (s.time<=e.time)
def qk(o:DOp):bo:=⟨o.a,o.b,o.c,o.d,0⟩
def xQ(l:List bo)(j:bo):Bool:=iN j&&j.fired==0&&(ya l j.id).isNone&&decide (l.length<8)
def kX(s:bf)(e:aO):Bool:=oM s e&&e.op.kind==4&&(match ya s.jobs e.op.a with|some j=>j.fired==0&&decide (j.due<=e.time)&&JU s.lease e.client e.op.b e.time|none=>false)
def l8(s:bf)(e:aO):Int:=
 if !oM s e then-1 else if e.op.kind=1 then 1 else if e.op.kind=2 then(if(s.pairs.find? λx=>x.key==e.op.a).isSome then 2 else 0)else if e.op.kind=3 then(if xQ s.jobs (qk e.op)then 3 else 0)else if e.op.kind=4 then(if kX s e then 4 else 0)else if e.op.kind=5 then(if ik s.lease e.client e.time e.op.a then 5 else 0)else 0
theorem wy{s:bf}(h:bB s=true):∀j∈s.jobs,j.fired<=s.index:=by
 simp only[bB,and_eq_true,all_eq_true,decide_eq_true_eq]at h;exact h.2
theorem Pt{s:bf}(h1:0<=s.index/\s.index<=2000)(h2:0<=s.time/\s.time<=1000000)(h3:bS s.pairs=true)(h4:bO s.jobs=true)(h5:d9 s.lease=true)(h6:∀j∈s.jobs,j.fired<=s.index):bB s=true:=by
 simp only[bB,tOk,aJ,and_eq_true,all_eq_true,decide_eq_true_eq];exact⟨⟨⟨⟨⟨h1,h2⟩,h3⟩,h4⟩,h5⟩,h6⟩
structure SM (s:bf) (e:aO):Prop where
 st:bB s=true
 en:bL e=true
 ix:e.index=s.index+1
 tm:s.time<=e.time
theorem VZ{s:bf}{e:aO}(h:oM s e=true):SM s e:=by
 simp only[oM,and_eq_true,decide_eq_true_eq,beq_iff_eq]at h;exact⟨h.1.1.1,h.1.1.2,h.1.2,h.2⟩
theorem qq{s:bf}{e:aO}{ps:List br}{js:List bo}{l:ge}(h:SM s e)(hp:bS ps=true)(hj:bO js=true)(hl:d9 l=true)(hf:∀j∈js,j.fired<=e.index):bB ⟨e.index,e.time,ps,js,l⟩=true:=by
 have he:=fI h.en;exact Pt (by show 0<=e.index/\e.index<=2000;omega) he.2.1 hp hj hl hf
theorem Rj{s:bf}{e:aO}(h:SM s e):∀j∈s.jobs,j.fired<=e.index:=λj hj=>by
 have:=wy h.st j hj;have:=h.ix;omega
end
section
open Go.Proofs.Tryz
open Go.ChangeShapes Go.WideShapes Go.RowKit
variable {a s:Int}
def yB:List (List Nat):=bC [0,0,0,194,65,347943211332]
def kg(s:Int):Prop:=0<=s/\s<999999937
def yk(s:Int):Int:=(48271*s+11).tmod 999999937
theorem Ak(h:kg s):kg (yk s):=by
 unfold kg yk at*
 rw[Int.tmod_eq_emod_of_nonneg ac];omega
theorem Ux{n:Int}(ha:0<=a)(hn:0<n):0<=a.tmod n/\a.tmod n<n:=by
 rw[Int.tmod_eq_emod_of_nonneg ha];exact⟨Int.emod_nonneg _ ac,Int.emod_lt_of_pos _ hn⟩
theorem ia{x b:Int}(h:a<=x/\x<=b):aJ x a b=true:=by simp only[aJ,Bool.and_eq_true,decide_eq_true_eq];exact h
theorem R0(s:Int):aN av 77 [.agg [dI s]] (rB (aJ s 0 999999936)):=by
 refine pO func77 call77 ntmps77 results77 λS=>?_;conv=>whnf
 repeat'(first|refine awz ?_|(refine cP (aQ _ _ _) ?_;conv=>whnf)|exact rZ|fail)
theorem iC(h:kg s):aN av 77 [.agg [dI s]] (rB true):=by
 have:=R0 s;rwa[ia (show 0<=s/\s<=999999936 from⟨h.1,by have:=h.2;omega⟩)]at this
theorem RZ(s:Int)(h:0<=s/\s<=1000000):aN av 20 [pI s] (.val (.agg [dI s])):=by
 have e1:s.tmod 999999937=s:=by rw[Int.tmod_eq_emod_of_nonneg h.1];omega
 have e2:(s.tmod 999999937+999999937).tmod 999999937=s:=by rw[e1,Int.tmod_eq_emod_of_nonneg ac];omega
 refine pO func20 call20 ntmps20 results20 λS=>?_;conv=>whnf
 repeat'((first|refine awz ?_|refine And.intro ac ?_|refine aaH (by rw[e1];omega) (by rw[e1];omega) ?_|fail)<;>conv=>whnf)
 all_goals(rw[e2])
theorem IK(s:Int)(h:kg s):aN av 176 [.agg [dI s]] (.tup [.agg [dI (yk s)],.one (dI (yk s))]):=by
 have hs:=h;unfold kg at hs;refine pO func176 call176 ntmps176 results176 λS=>?_;conv=>whnf
 repeat'((first|refine awz ?_|refine cP (iC h) ?_|refine aaH ac ac ?_|refine And.intro ac ?_|exact rZ|fail)<;>conv=>whnf)
theorem F5(s n:Int)(h:kg s)(hn:1<=n/\n<=1000000000):aN av 122 [.agg [dI s],pI n] (.tup [.agg [dI (yk s)],.one (dI ((yk s).tmod n))]):=by
 have l1:=aQ n 1 1000000000;rw[ia hn]at l1;have hr:=Ak h;unfold kg at hr;refine pO func122 call122 ntmps122 results122 λS=>?_;conv=>whnf
 repeat'((first|refine awz ?_|refine cP (iC h) ?_|refine cP (l1) ?_|refine cP (IK s h) ?_|fail)<;>conv=>whnf)
 (refine aaL aM 6 (tkc [0,1,2] (.two 3 (.one 4 (.take 5 .done)) 4 (.one 3 (.take 5 .done)))) [(6,9980)] yB ae ae ae ae (λRz=>?_);(conv=>whnf);intro bp0 up0;(conv=>whnf))
 repeat'(first|refine awz ?_|(refine And.intro ac ?_;conv=>whnf)|exact rZ|refine tW ?_ ?_|fail)
def CM(s:Int):Nat->Int
 |0=>s
 |k+1=>yk (CM s k)
theorem Al(h:kg s):∀k,kg (CM s k)
 |0=>h
 |k+1=>Ak (Al h k)
def lw(s:Int)(k:Nat):List Int:=(List.range k).map λj=>(CM s (j+1)).tmod 3
theorem KJ(s:Int)(k:Nat):(lw s (k+1)).map eI=(lw s k).map eI++[[dI ((yk (CM s k)).tmod 3)]]:=by
 simp[lw,List.range_succ,CM];rfl
theorem Sh(s:Int)(h:kg s):aN av 177 [.agg [dI s],pI 12,pI 3] (.tup [.agg [dI (CM s 12)],.one (.sl ((lw s 12).map eI))]):=by
 have l1:=aQ 12 0 64;have l2:=aQ 3 1 1000000000;rw[show aJ 12 0 64=true by decide]at l1;rw[show aJ 3 1 1000000000=true by decide]at l2;refine pO func177 call177 ntmps177 results177 λS=>?_;conv=>whnf
 repeat'((first|refine awz ?_|refine cP (iC h) ?_|refine cP (l1) ?_|refine cP (l2) ?_|fail)<;>conv=>whnf)
 refine aaK (λk:Nat=>k<=12) (11::[8,9,10,27,28,29,30,31,32,33,34,35,36,37,38,39,40,41]) (λk=>[(8,.one (.own 11))]) (λk=>[(11,.row 2 1 ((lw s k).map eI)),(3,.cells 92 [.d (dI (CM s k))]),(6,.cells 92 [.d (dI 0)])]) (λk=>12-k) 0 (Nat.zero_le _) ?_ sbW (λk hk=>?_)<;>(conv=>whnf)
 ·exact whd
 ·have hl:((lw s k).map eI).length=k:=by simp[lw]
  by_cases hlt:k<12
  ·have hc:decide ((((lw s k).map eI).length:Int)<12)=true:=by rw[hl];simp only[decide_eq_true_eq];omega
   have hs:=KJ s k;repeat'((first|refine awz ?_|refine cP (F5 _ 3 (Al h k) ac) ?_|refine And.intro (by simp only[hl,List.length_nil,List.length_cons];omega) ?_|fail)<;>conv=>whnf)
   all_goals
    refine a8.mk ⟨k+1,hlt,ac,?_,aaC (by rw[hs];rfl) sbW⟩;exact hds
  ·have e:k=12:=ac;subst e;have hc:decide ((((lw s 12).map eI).length:Int)<12)=false:=by rw[hl];rfl
   repeat'(first|refine awz ?_|exact rZ|fail)
end
open Go.Proofs.Tryz
open Go.ChangeShapes Go.WideShapes Go.RowKit
def yF:List (List Nat):=bC [0,1,0,3,0,5,389,138580619590,35602175901762]
def xu:List (List Nat):=bC [0,1,2,0,0,5,12676,451,0x2071851030811c8]
def oA:List (List Nat):=bC [0,1,0,3,4,16706,6527398017,0x61440c2046187]
theorem AL(l:List Int)(hl:l.length<=1048576):aN av 283 [.one (.sl (l.map eI))] (.val (.one (.sl (l.map eI)))):=by
 refine pO func283 call283 ntmps283 results283 λS=>?_;conv=>whnf
 repeat'((first|refine awz ?_|refine aW (by first|(intro y hy;obtain⟨a,_,rfl⟩:=List.mem_map.1 hy;rfl)|(simp;done)) ?_|refine a7 ak ?_|exact rZ|fail)<;>conv=>whnf)
theorem Ne(l:List Int)(hl:l.length<=1048576):dd av 283 [.one (.d (.sl (l.map eI)))] [] [(3,.row 2 1 (l.map eI))] [] (.val (.one (.own 3))):=by
 refine cH aM func283 rfl call283 ntmps283 (ace results283) rfl λS pv=>?_;conv=>whnf
 repeat'((first|refine awz ?_|refine aW (by first|(intro y hy;obtain⟨a,_,rfl⟩:=List.mem_map.1 hy;rfl)|(simp;done)) ?_|refine a7 ak ?_|exact rZ|fail)<;>conv=>whnf)
theorem ww(m:cX)(h:m.row.length<=1048576):aN av 258 [.agg m.ds] (.val (.agg m.ds)):=by
 refine pO func258 call258 ntmps258 results258 λS=>?_;conv=>whnf
 repeat'((first|refine awz ?_|refine aaJ aM 1 7 yF iI ae ae ae rfl ?_|refine cP (AL m.row h) ?_|exact rZ|fail)<;>conv=>whnf)
theorem Sw(l:List cX)(hl:l.length<=1048576)(hm:∀m∈l,abr 1048576 m):dd av 344 [.one (.d (.sl (l.map cX.ds)))] [] [(5,.row 137 3 (l.map cX.ds))] [] (.val (.one (.own 5))):=by
 refine cH aM func344 rfl call344 ntmps344 (ace results344) rfl λS pv=>?_;conv=>whnf
 repeat'(first|refine awz ?_|fail)
 refine aaK (λk:Nat=>k<=l.length) (5::[3,4,6,7,8,9,10,11,12,13,14,15,16,17,18,19]) (λk=>[(3,.one (.own 5)),(4,vI .i64 (k:Int))]) (λk=>[(9999,.frame (dC []) pv),(5,.row 137 3 ((l.take k).map cX.ds))]) (λk=>l.length-k) 0 (Nat.zero_le _) ?_ sbW (λk hk=>?_)<;>(conv=>whnf)
 ·exact whd
 ·repeat'(first|refine awz ?_|refine tW ?_ ?_|(intro h;conv=>whnf))
  ·have hlt:k<l.length:=ari;have hy:l[k].row.length<=1048576:=hm _ (List.getElem_mem hlt);repeat'((first|refine awz ?_|refine aaM hlt ?_|refine cP (ww l[k] hy) ?_|refine a7 ak ?_|refine aaH ari ari ?_|fail)<;>conv=>whnf)
   all_goals
    refine a8.mk ⟨k+1,hlt,ac,?_,aaC rfl (aaC (congrArg some (congrArg (AO.row 137 3) (ir cX.ds hlt).symm)) aaE)⟩;exact hds
  ·have e:k=l.length:=ari;subst e;rw[List.take_length];repeat'(first|refine awz ?_|exact rZ|fail)
theorem l4(n:ee)(h:aa5 1048576 n):dd av 255 [.agg (n.ds.map .d)] [] [(41,.row 137 3 (n.flight.map cX.ds))] [] (.val (.agg [.own 41,.d (.sl (n.cuts.map dJ.ds))])):=by
 obtain⟨h1,h2,h3⟩:=h;refine cH aM func255 rfl call255 ntmps255 (ace results255) rfl λS pv=>?_;conv=>whnf
 repeat'(first|refine awz ?_|fail)
 (refine aaL aM 1 (tkc [0,1,4,5] (.two 2 (onc [3,6,7,8] .done) 3 (onc [2,6,7,8] .done))) [(1,9980)] xu ae ae ae ae (λRz=>?_);(conv=>whnf);intro bp0 up0;(conv=>whnf))
 repeat'((first|refine awz ?_|refine aaI (Sw n.flight h1 h2) [(5,41)] rfl rfl ?_|refine aW (by first|(intro y hy;obtain⟨a,_,rfl⟩:=List.mem_map.1 hy;rfl)|(simp;done)) ?_|refine a7 ak ?_|exact rZ|refine tW ?_ ?_|fail)<;>conv=>whnf)
theorem l5(n:ee)(a:Int)(h:n.flight.length<=1048576):aN av 254 [.agg n.ds,pI a] (rB (aJ a 0 ((n.flight.length:Int)-1))):=by
 refine pO func254 call254 ntmps254 results254 λS=>?_;conv=>whnf
 repeat'((first|refine awz ?_|refine aaH ari ari ?_|refine cP (aQ a 0 _) ?_|fail)<;>conv=>whnf)
 all_goals simp
theorem sB(n:ee)(k:Nat)(hs:aa5 1048576 n)(hk:k<n.flight.length):dd av 257 [.agg (n.ds.map .d),.one (.d (dI (k:Int)))] [] [(9,.row 137 3 ((n.flight.take k++n.flight.drop (k+1)).map cX.ds))] [] (.val (.agg [.own 9,.d (.sl (n.cuts.map dJ.ds))])):=by
 have h1:=hs.1;have e1:List.drop 0 (List.take k (n.flight.map cX.ds))=(n.flight.take k).map cX.ds:=by simp[List.map_take]
 have e2:List.drop (k+1) (List.take n.flight.length (n.flight.map cX.ds))=(n.flight.drop (k+1)).map cX.ds:=by rw[List.take_of_length_le ah,List.map_drop]
 have e3:(n.flight.take k++n.flight.drop (k+1)).map cX.ds=[]++(n.flight.take k).map cX.ds++(n.flight.drop (k+1)).map cX.ds:=ah;rw[e3];refine cH aM func257 rfl call257 ntmps257 (ace results257) rfl λS pv=>?_;conv=>whnf
 repeat'(first|(refine abC (rid:=2) aM 0 41 137 3 (n.flight.map cX.ds) ?_;conv=>whnf)|refine awz ?_|(refine aaI (l4 n hs) [(41,41)] rfl rfl ?_;conv=>whnf)|(refine⟨0,k,rfl,rfl,Nat.zero_le _,al,?_⟩;conv=>whnf;rw[e1])|(refine⟨k+1,n.flight.length,rfl,(by simp[zI]),ac,ah,?_⟩;conv=>whnf;rw[e2])|((first|refine aW (by first|(intro y hy;obtain⟨a,_,rfl⟩:=List.mem_map.1 hy;rfl)|(simp;done)) ?_|refine a7 ak ?_|refine aaH ac ac ?_|fail)<;>conv=>whnf)|exact rZ|fail)
theorem KA(n:ee)(m:cX)(hn:dT n=true)(hm:iO m=true)(hs:aa5 1048576 n)(hr:m.row.length<=1048576)(hl:n.flight.length≠60):dd av 284 [.agg (n.ds.map .d),.agg (m.ds.map .d)] [] [(41,.row 137 3 ((n.flight++[m]).map cX.ds))] [] (.tup [.agg [.own 41,.d (.sl (n.cuts.map dJ.ds))],.one (.d (dB true))]):=by
 have h1:=hs.1;have c1:=g9 n;have c2:=jc m;rw[hn]at c1;rw[hm]at c2;have hc:((((n.flight.map cX.ds).length:Nat):Int)==60)=false:=al;have hlt:=(dQ hn).1;have e1:(n.flight++[m]).map cX.ds=n.flight.map cX.ds++[[dI m.frm,dI m.to_,.sl (m.row.map eI)]]:=by rw[List.map_append];rfl
 rw[e1];refine cH aM func284 rfl call284 ntmps284 (ace results284) rfl λS pv=>?_;conv=>whnf
 repeat'((first|refine awz ?_|refine cP (c1) ?_|refine cP (c2) ?_|refine aaI (l4 n hs) [(41,41)] rfl rfl ?_|fail)<;>conv=>whnf)
 (refine aaL aM 6 (.take 0 (.take 2 (.two 1 (onc [3,4,5] (.take 6 (.one 7 .done))) 3 (.two 1 (.one 4 (.one 5 (.take 6 (.one 7 .done)))) 4 (.one 1 (.one 5 (.take 6 (.one 7 .done)))))))) [(3,9980)] oA ae ae ae ae (λRz=>?_);(conv=>whnf);intro bp0 up0;(conv=>whnf))
 repeat'((first|refine awz ?_|refine cP (ww m hr) ?_|refine a7 ak ?_|exact rZ|refine tW ?_ ?_|fail)<;>conv=>whnf)
end Go.Proofs.YthgkdhnlehneeaaGreatDoor
