/- AvMD -/
import Derived.Test.YtlmoekpinpafeaaGreatAvFC
import Derived.Test.YtlmoekpinpafeaaGreatWB8
import Derived.Test.YtlmoekpinpafeaaGreatAvJ3
import Derived.Test.YtlmoekpinpafeaaGreatWData
import Derived.RangeFuncNested
import Derived.RangeFuncBound
import Derived.RangeFuncCalls
import Derived.RangeFuncLeaves
import Derived.Shelf.Abstract
import Derived.Shelf.RegionOpen
import Derived.WalkKit
import Derived.OwnWalkIn
import Derived.TacticsInMore
import Derived.LoopNIn
import Derived.LoopIn
import Derived.Maps.AppendAt
set_option maxHeartbeats 8000000
set_option linter.unusedVariables false
set_option linter.unusedSimpArgs false
set_option maxRecDepth 100000
open List (all_eq_true getElem?_map map_map mem_map mem_of_getElem?)
namespace Go.Proofs.YtlmoekpinpafeaaGreat
section
open Go.RowKit
variable {Z Z':Nat->Prop}{ρ:Nat->Value}{v:Value}{w w':World}
def AD.deadC:AD->AC
 | .pv v=> .d (.pv v)
 |_=> .dead
def AP1.deadV:AP1->AV
 | .one d=> .one d.deadC
 | .agg ds=> .agg (ds.map AD.deadC)
def AP.deadV:AP->AV
 | .val p=>p.deadV
 | .tup ps=> .tup (ps.map AP1.deadV)
theorem bK.deadC{d:AD}(h:bK Z w d v):dZ Z' w' ρ d.deadC v:=by
 cases h with
 |pv _ h1=>exact bK.pv _ h1
 |_=>trivial
theorem dJ.deadV{p:AP1}(h:dJ Z w p v):bv Z' w' ρ p.deadV v:=by
 cases p with
 |one d=>exact .one _ _ (bK.deadC h)
 |agg ds=>
  obtain⟨us,rfl,hl,hr⟩:=h;refine .agg _ us (by simp[hl]) λi c u hc hu=>?_;rw[List.getElem?_map]at hc;obtain⟨d,hd,rfl⟩:=Option.map_eq_some_iff.1 hc;exact(hr i d u hd hu).deadC
theorem qR.deadV{p:AP}(h:qR Z w p v):bv Z' w' ρ p.deadV v:=by
 cases p with
 |val p=>exact dJ.deadV h
 |tup ps=>
  obtain⟨us,rfl,hl,hr⟩:=h;refine .tup _ us (by simp[hl]) λi x u hx hu=>?_;rw[List.getElem?_map]at hx;obtain⟨q,hq,rfl⟩:=Option.map_eq_some_iff.1 hx;exact(hr i q u hq hu).deadV
def AP1.aa:AP1->AA
 | .one d=> .one (.d d)
 | .agg ds=> .agg (ds.map .d)
theorem V4(p:AP1):p.aa.v=p.v:=by cases p<;>rfl
def Qt(ob:List (Nat×AO))(r:AR)(K:AP->Prop):Prop:=
 match r with
 | .val a=>xE ob a.v λp=>K (.val p)
 | .tup l=>aRs ob (l.map AA.v) λps=>K (.tup ps)
theorem cV.data{E:a6}{f:FuncId}{args:List AA}{post:List (Nat×AO)}{r:AR}{ps:List AP1}{res:AP}(hc:cV E f args [] post [] r)(ha:args=ps.map AP1.aa)(hres:Qt post r (· =res)):aM E f ps res:=by
 subst ha;refine⟨hc.enter,λZ w us hz hg hl hr=>?_⟩;have hw0:WS E.W (fZ w Z (λ_=>undef) []) Z w (λ_=>undef) []:=
  ⟨rfl,rfl,rfl,Nat.le_refl _,λ_ _ _=>rfl,hz,λ_ _ _ h=>(by cases h),λ_ _ _ _ _ h=>(by cases h),λ_ _ h=>(by cases h),ji.nil,hg,λ_ h=>h,λ_ h=> .inl h⟩
 refine(hc.run Z w (λ_=>undef) us hw0 (by simpa using hl) λi x u hx hu=>?_).mono ?_
 ·rw[List.getElem?_map]at hx;obtain⟨p,hp,rfl⟩:=Option.map_eq_some_iff.1 hx;rw[V4];exact(hr i p u hp hu).v
 ·rintro e w' ⟨v,Z',ρ',rfl,hw,_,hv⟩;have hO:∀b,¬(fZ w Z (λ_=>undef) []).O b:=by
   rintro b ⟨id,o,h,_⟩;cases h
  refine⟨v,g6 Z' ρ' post,rfl,⟨hw.os,hw.tape,hw.output,hw.size,λb hb=>hw.old b hb (hO b)⟩,λb hb=> .inl (hw.z0 b hb),λb hb=>?_,?_⟩
  ·have hlt:=g6.lt hw b hb;rcases hb with hb|⟨id,o,ho,hb⟩
   ·rcases hw.znew b hb with h|h|h
    ·exact .inl h
    ·exact .inr ⟨h,hlt⟩
    ·exact(hO b h).elim
   ·rcases(hw.mine id o b ho hb).2 with h|h
    ·exact .inr ⟨h,hlt⟩
    ·exact(hO b h).elim
  ·cases r with
   |val a=>
    obtain⟨p,hp,hk⟩:=tf (K:=λp=>AP.val p=res) hw hv hres;subst hk;exact hp
   |tup l=>
    cases hv with
    |tup _ us' hl' h'=>
     obtain⟨ps',h1,h2,hk⟩:=g8 (E:=E) (S:=fZ w Z (λ_=>undef) []) (st:=⟨[],post⟩) (K:=λps=>AP.tup ps=res) hw hl' h' hres;subst hk;exact⟨us',rfl,h1,h2⟩
end
section
open Go.RowKit
variable {st:ASt}{K:AV->ASt->Prop}{c:Code}{f:FuncId}{pre:List (Nat×AO)}{args:List AA}{ids keep:List Nat}{α:Type}{E:a6}{S:bj}
structure de (E:a6) (f:FuncId) (args:List AA) (pre:List (Nat×AO)) {α:Type} (Q:α->Prop) (ids:List Nat) (post:α->List (Nat×AO)) (keep:List Nat) (res:α->AR):Prop where
 enter:∀(us:Array Value) w,(callFunc f us).run E.P w= .ok (.enter f us) w
 run:∀(Z:Nat->Prop) (w:World) (ρ:Nat->Value) (us:List Value),WS E.W (fZ w Z ρ pre) Z w ρ pre->us.length=args.length->(∀(i:Nat) x u,args[i]? =some x->us[i]? =some u->bv Z w ρ x.v u)->
  Calls E.P f us.toArray w λe w'=>∃(y:α) (v:Value) (Z':Nat->Prop) (ρ':Nat->Value),Q y/\e= .returned v/\WS E.W (fZ w Z ρ pre) Z' w' ρ' (post y)/\(∀id∈keep,ρ' id=ρ id)/\bv Z' w' ρ' (res y).v v
def Ix(ids:List Nat):List (Nat×AO):=ids.map λi=>(i,.row 0 0 [])
theorem FQ:∀{ids:List Nat} {l:List (Nat×AO)},l.map (·.1)=ids->∀i,dK (Ix ids) i=dK l i
 |_,[],rfl,i=>rfl
 |_,(k,o)::r,rfl,i=>by
  simp only[List.map_cons,Ix,dK];have:=FQ (l:=r) rfl i;unfold Ix at this;rw[this]
theorem Ol{l:List (Nat×AO)}(h:l.map (·.1)=ids){Z:Nat->Prop}{ρ:Nat->Value}{ob:List (Nat×AO)}:uq Z ρ ob (Ix ids)=uq Z ρ ob l:=by
 funext b;unfold uq;simp only[FQ h]
def Sv(E:a6)(rs:List ResultVar){α:Type}(Q:α->Prop)(ids:List Nat)(post:α->List (Nat×AO))(keep:List Nat)(pv:List Value)(res:α->AR):Exit->ASt->Prop
 | .ret,st=>xF E st (Ix ids) rs λv=>∃y,Q y/\v=res y/\xz st.ob ((9999,.frame (cE keep) pv)::post y)
 | .normal,st=>xF E st (Ix ids) rs λv=>∃y,Q y/\v=res y/\xz st.ob ((9999,.frame (cE keep) pv)::post y)
 |_,_=>False
theorem aT(he:E.Ok){fn:Func}{n:Nat}{rs:List ResultVar}{args:List AA}{pre:List (Nat×AO)}{Q:α->Prop}{ids:List Nat}{post:α->List (Nat×AO)}{keep:List Nat}{res:α->AR}(hf:E.P.funcs[f]? =some fn)(hb:fn.body=some c)
  (enter:∀(us:Array Value) w,(callFunc f us).run E.P w= .ok (.enter f us) w) (hn:fn.ntmps=n) (hrs:fn.results.toList=rs)
  (hsh:∀a,(post a).map (·.1)=ids) (hck:KJ args pre (keep.map λi=>(i,AO.cells 0 [])) keep=true) (hkc:∀a,keep.all (λi=>vO (post a) i)=true)
  (h:∀S pv,DM args n λtm=>AWP E S c (Sv E rs Q ids post keep pv res) ⟨tm,(9999,.frame (cE keep) pv)::pre⟩):de E f args pre Q ids post keep res:=by
 refine⟨enter,λZ w ρ us hws hl hr=>?_⟩;subst hn hrs;simp only[KJ,Bool.and_eq_true,all_eq_true,Bool.not_eq_true']at hck;obtain⟨⟨⟨hna,hnp⟩,hnh⟩,hkk⟩:=hck;have hp9:=Ff hnh;obtain⟨hle,hk⟩:=uw (h (fZ w Z ρ pre) (keep.map ρ));have relV:∀{x:AV} {v:Value},ud 9999 x=true->bv Z w ρ x v->bv Z w (λi=>if i=9999 then undef else ρ i) x v:=by
  intro x v hn hv;have:=lx (id:=9999) (y:=undef) hv;rwa[lR hn]at this
 have hs:Sim E.W (fZ w Z ρ pre) Z (λi=>if i=9999 then undef else ρ i) ⟨args.map AA.v++List.replicate (fn.ntmps-args.length) (.one .und),(9999,.frame (cE keep) (keep.map ρ))::pre⟩ {tmps:=us.toArray++Array.replicate (fn.ntmps-us.toArray.size) undef,defers:=[]} w:=by
  have key:∀id o,a5 ((9999,AO.frame (cE keep) (keep.map ρ))::pre) id=some o->(id=9999/\o= .frame (cE keep) (keep.map ρ))\/(id≠9999/\a5 pre id=some o):=by
   intro id o ho;unfold a5 at ho;split at ho
   ·rename_i e;subst e;injection ho with ho;exact .inl ⟨rfl,ho.symm⟩
   ·rename_i e;exact .inr ⟨λe'=>e e'.symm,ho⟩
  refine⟨⟨hws.os,hws.tape,hws.output,hws.size,hws.old,hws.zlt,λid o b ho hb=>?_,λi j oi oj b hi hj hij hbi hbj=>?_,λid o ho=>?_,⟨λid P Q ho=>?_,λi j P Q P' Q' hi hj=>?_⟩,hws.g,hws.z0,hws.znew⟩,by simp[hl],λi x v hx hv=>?_,rfl⟩
  ·rcases key id o ho with⟨rfl,rfl⟩|⟨hne,ho⟩
   ·simp only[if_true]at hb;cases hb
   ·simp only[if_neg hne]at hb;exact hws.mine id o b ho hb
  ·rcases key i oi hi with⟨rfl,rfl⟩|⟨hne,hi⟩
   ·simp only[if_true]at hbi;cases hbi
   ·rcases key j oj hj with⟨rfl,rfl⟩|⟨hne2,hj⟩
    ·simp only[if_true]at hbj;cases hbj
    ·simp only[if_neg hne]at hbi;simp only[if_neg hne2]at hbj;exact hws.sep i j oi oj b hi hj hij hbi hbj
  ·rcases key id o ho with⟨rfl,rfl⟩|⟨hne,ho⟩
   ·refine⟨by simp,by simp[cE],λi x u hx hu=>?_⟩;simp only[cE,getElem?_map]at hx hu;obtain⟨k,hk1,rfl⟩:=Option.map_eq_some_iff.1 hx;rw[hk1]at hu;simp only[Option.map_some]at hu;injection hu with hu
    subst hu;have hkm:=hkk k (mem_of_getElem? hk1);obtain⟨t,cs,hc⟩:=i7 hkm.1;obtain⟨b,us',hp,_⟩:=hws.obj k _ hc;have hk9:k≠9999:=by rintro rfl;rw[hp9]at hc;cases hc
    refine .one _ _ ⟨b,by simp only[if_neg hk9];rw[hp];rfl,by rw[hp]⟩
   ·have hob:=hws.obj id o ho;have hnk:=pp (hnp (id,o) (bR ho));cases o with
    |many P Q=>
     show(if id=9999 then undef else ρ id)=undef;rw[if_neg hne];exact hob
    |cells t cs=>
     have:=eM (id:=9999) (y:=undef) hne (show cu Z w ρ id (.cells t cs)from hob);rw[hnk]at this;exact this
    |row e s xs=>
     have:=eM (id:=9999) (y:=undef) hne (show cu Z w ρ id (.row e s xs)from hob);rw[hnk]at this;exact this
    |frame vs us=>
     have:=eM (id:=9999) (y:=undef) hne (show cu Z w ρ id (.frame vs us)from hob);rw[hnk]at this;exact this
    |any Q=>
     have:=eM (id:=9999) (y:=undef) hne (show cu Z w ρ id (.any Q)from hob);rw[hnk]at this;exact this
  ·rcases key id _ ho with⟨_,h0⟩|⟨hne,ho⟩
   ·cases h0
   ·obtain⟨h1,h2⟩:=hws.many.ok id P Q ho;refine⟨λb hb=>⟨(h1 b hb).1,(h1 b hb).2.1,(h1 b hb).2.2.1,λj o hj=>?_⟩,h2⟩;rcases key j o hj with⟨rfl,_⟩|⟨hne,hj⟩
    ·simp only[if_true];intro h0;cases h0
    ·simp only[if_neg hne];exact(h1 b hb).2.2.2 j o hj
  ·rcases key i _ hi with⟨_,h0⟩|⟨_,hi⟩
   ·cases h0
   ·rcases key j _ hj with⟨_,h0⟩|⟨_,hj⟩
    ·cases h0
    ·exact hws.many.sep i j P Q P' Q' hi hj
  ·simp only at hx hv;have hv':(us++List.replicate (fn.ntmps-us.length) undef)[i]? =some v:=by
    have:=hv;rw[<-Array.getElem?_toList]at this;simpa using this
   by_cases hi:i<us.length
   ·rw[List.getElem?_append_left (by simpa[hl]using hi),getElem?_map]at hx;obtain⟨p,hp,rfl⟩:=Option.map_eq_some_iff.1 hx;rw[List.getElem?_append_left hi]at hv';exact relV (KE (hna p (mem_of_getElem? hp))) (hr i p v hp hv')
   ·rw[List.getElem?_append_right al]at hx;rw[List.getElem?_append_right ac]at hv';have e1:=List.eq_of_mem_replicate (mem_of_getElem? hx);have e2:=List.eq_of_mem_replicate (mem_of_getElem? hv');subst e1 e2;exact .one _ _ (show dZ Z w _ .und undef from rfl)
 refine calls_of_wp hf hb (wp_mono (hk.run _ w ⟨Z,_,hs⟩) λe a' w' h'=>?_);obtain⟨st',⟨Z',ρ',hs'⟩,hk'⟩:=h';have fin:(xF E st' (Ix ids) fn.results.toList λv=>∃a,Q a/\v=res a/\xz st'.ob ((9999,.frame (cE keep) (keep.map ρ))::post a))->a'.defers=[]/\∃v,(results fn a'.tmps).run E.P w'= .ok v w'/\∃(a:α) (v0:Value) (Z':Nat->Prop) (ρ':Nat->Value),Q a/\Ending.returned v= .returned v0/\WS E.W (fZ w Z ρ pre) Z' w' ρ' (post a)/\(∀id∈keep,ρ' id=ρ id)/\bv Z' w' ρ' (res a).v v0:=by
  intro hr;obtain⟨v,p,h1,h2,y,hQ,h3,h4⟩:=Ct he hs' hr;subst h3;rw[Ol (hsh y)]at h2;have hsub:=nm h4;have hsubp:aK st'.ob (post y):=by
   obtain⟨_,_,_,h5⟩:=bY h4;exact nm h5
  refine⟨hs'.df,v,h1,y,v,uq Z' ρ' st'.ob (post y),ρ',hQ,rfl,hs'.ws.out hsubp,λid hid=>?_,h2⟩;have hkm:=hkk id hid;obtain⟨t,cs,hc⟩:=i7 hkm.1;obtain⟨t',cs',hc'⟩:=i7 (all_eq_true.1 (hkc y) id hid);obtain⟨b,us1,hp,_⟩:=hws.obj id _ hc;obtain⟨b',us2,hp',_⟩:=hs'.ws.obj id _ (hsubp id _ hc');obtain⟨_,hfl,hfr⟩:=hs'.ws.obj 9999 _ (hsub 9999 (.frame (cE keep) (keep.map ρ)) (by simp[a5]));obtain⟨i,hi,hid'⟩:=List.getElem_of_mem hid;have hx:(cE keep)[i]? =some (.one (.ref id 0 0 0)):=by simp[cE,hi,hid']
  have hu:(keep.map ρ)[i]? =some (ρ id):=by simp[hi,hid']
  cases hfr i _ _ hx hu with
  |one _ _ hrel=>
   obtain⟨b2,hb2,hv2⟩:=hrel;rw[hp']at hb2;injection hb2 with hb2
   rw[hp',hv2,<-hb2]
 cases e with
 |normal=>exact fin hk'
 |ret=>exact fin hk'
 |_=>exact hk'.elim
theorem Vk{S:bj}{st:ASt}{Q:α->Prop}{post:α->List (Nat×AO)}{res:α->AR}{K:AV->ASt->Prop}{cargs:List AV}(hc:de E f args pre Q ids post keep res)(m:List (Nat×Nat))
  (hck:∀y,kY m pre (post y) (res y)=true) (hargs:(args.map λa=>(v5 (aX m) a).v)=cargs) (hpre:∀i o,(i,o)∈pre->a5 st.ob (aX m i)=some (iL (aX m) o))
  (hex:∃y:α,True)
  (hk:∀y,Q y->K (EB (aX m) (res y)).v ⟨st.tm.map (m7 (pj m (post y) keep)),sB (lS (pj m (post y) keep) st.ob) ((post y).map λp=>(aX m p.1,iL (aX m) p.2))⟩):aG E S f cargs st K:=by
 subst hargs;refine⟨hc.enter,λZ ρ a w us hs hl hr=>?_⟩;obtain⟨y0,_⟩:=hex;have pre0:∀y,∀i o,a5 pre i=some o->a5 st.ob (aX m i)=some (iL (aX m) o)/\dK (post y) i=true/\lm o=true:=by
  intro y i o ho;have hck:=hck y;simp only[kY,Bool.and_eq_true,all_eq_true]at hck;have:=hck.1.1.2 _ (bR ho);simp only[Bool.and_eq_true]at this;exact⟨hpre i o (bR ho),this.1,this.2⟩
 have inj0:∀y {i j},dK (post y) i=true->dK (post y) j=true->aX m i=aX m j->i=j:=by
  intro y i j hi hj e;have hck:=hck y;simp only[kY,Bool.and_eq_true,all_eq_true]at hck;have hnd:=pq hck.1.1.1;obtain⟨oi,hoi⟩:=cq.1 hi;obtain⟨oj,hoj⟩:=cq.1 hj;exact lN (by rw[map_map];exact hnd) (mem_map.2 ⟨_,bR hoi,rfl⟩) (mem_map.2 ⟨_,bR hoj,rfl⟩) e
 have hget:=pre0 y0;have hinj:∀{i j},dK (post y0) i=true->dK (post y0) j=true->aX m i=aX m j->i=j:=λhi hj e=>inj0 y0 hi hj e;have hws0:WS E.W (fZ w Z (λi=>ρ (aX m i)) pre) Z w (λi=>ρ (aX m i)) pre:=by
  refine⟨rfl,rfl,rfl,Nat.le_refl _,λ_ _ _=>rfl,hs.ws.zlt,λid o b ho hb=>⟨(hs.ws.mine _ _ b (hget id o ho).1 hb).1,.inr ⟨id,o,ho,hb⟩⟩,λi j oi oj b hi hj hij hbi hbj=>?_,λid o ho=>GE (hget id o ho).2.2 (KR (hget id o ho).2.2 (KO (by rw[xU];exact(hget id o ho).2.2) (hs.ws.obj _ _ (hget id o ho).1))),Uq (λid P Q ho=>by have:=(hget id _ ho).2.2;cases this),hs.ws.g,λb hb=>hb,λb hb=> .inl hb⟩;exact hs.ws.sep _ _ _ _ b (hget i oi hi).1 (hget j oj hj).1 (λe=>hij (hinj (hget i oi hi).2.1 (hget j oj hj).2.1 e)) hbi hbj
 refine(hc.run Z w (λi=>ρ (aX m i)) us hws0 (by simpa using hl) λi p u h3 h4=>?_).mono ?_
 ·refine KQ (hr i _ u ?_ h4);rw[getElem?_map,h3];rfl
 rintro e w' ⟨y,v,Z',ρ',hQ,rfl,hw,hkeep,hv⟩;have hck:=hck y;simp only[kY,Bool.and_eq_true,all_eq_true]at hck;obtain⟨⟨⟨hnd,hpp⟩,hpo⟩,hres⟩:=hck;have hnd:=pq hnd;have hnd1:(((post y).map (·.1)).map (aX m)).Nodup:=by rw[map_map];exact hnd
 have hnd2:((post y).map (·.1)).Nodup:=pr hnd1;have hndm:(((post y).map λp=>(aX m p.1,iL (aX m) p.2)).map (·.1)).Nodup:=by rw[map_map];exact hnd
 have hinj:∀{i j},dK (post y) i=true->dK (post y) j=true->aX m i=aX m j->i=j:=by
  intro i j hi hj e;obtain⟨oi,hoi⟩:=cq.1 hi;obtain⟨oj,hoj⟩:=cq.1 hj;exact lN hnd1 (mem_map.2 ⟨_,bR hoi,rfl⟩) (mem_map.2 ⟨_,bR hoj,rfl⟩) e
 have hhas:∀{i},dK (post y) i=true↔i∈(post y).map (·.1):=by
  intro i;rw[cq];constructor
  ·rintro⟨o,ho⟩;exact mem_map.2 ⟨_,bR ho,rfl⟩
  ·intro h;obtain⟨p,hp,rfl⟩:=mem_map.1 h;exact⟨p.2,gT hnd2 hp⟩
 have hget:∀i o,a5 pre i=some o->a5 st.ob (aX m i)=some (iL (aX m) o)/\dK (post y) i=true/\lm o=true:=by
  intro i o ho;have:=hpp _ (bR ho);simp only[Bool.and_eq_true]at this;exact⟨hpre i o (bR ho),this.1,this.2⟩
 let ids:=(post y).map (·.1)
 let ρ1:=L1 (aX m) ids ρ' ρ
 let ks:=pj m (post y) keep
 have hin:∀i,dK (post y) i=true->ρ1 (aX m i)=ρ' i:=λi hi=>KS hnd1 (hhas.1 hi);have hout:∀j,j∉ids.map (aX m)->ρ1 j=ρ j:=λj hj=>GI hj;have hag:∀i,i∉ks->ρ1 i=ρ i:=by
  intro i hi;by_cases h:i∈ids.map (aX m)
  ·obtain⟨c,hc1,rfl⟩:=mem_map.1 h;rw[hin c (hhas.2 hc1)];refine hkeep c ?_;obtain⟨p,hp,rfl⟩:=mem_map.1 hc1;refine Classical.byContradiction λhn=>hi (mem_map.2 ⟨p,List.mem_filter.2 ⟨hp,?_⟩,rfl⟩);simp only[Bool.not_eq_true',List.any_eq_false];intro k hk2 e;rw[Nat.eq_of_beq_eq_true e]at hn;exact hn hk2
  ·exact hout i h
 have hksub:∀i,i∈ks->i∈ids.map (aX m):=by
  intro i hi;obtain⟨p,hp,rfl⟩:=mem_map.1 hi;exact mem_map.2 ⟨p.1,mem_map.2 ⟨p,(List.mem_filter.1 hp).1,rfl⟩,rfl⟩
 have hob:∀j o,a5 (sB (lS ks st.ob) ((post y).map λp=>(aX m p.1,iL (aX m) p.2))) j=some o->
   (∃c o',a5 (post y) c=some o'/\j=aX m c/\o=iL (aX m) o')\/(j∉ids.map (aX m)/\∃o',a5 st.ob j=some o'/\o=sa ks o'):=by
  intro j o ho;rw[uO hndm]at ho;split at ho
  ·rename_i o1 h1;injection ho with ho
   subst ho;obtain⟨p,hp,e⟩:=mem_map.1 (bR h1);injection e with e1 e2
   exact .inl ⟨p.1,p.2,gT hnd2 hp,e1.symm,e2.symm⟩
  ·rename_i h1;rw[sy]at ho;obtain⟨o',h2,rfl⟩:=Option.map_eq_some_iff.1 ho;refine .inr ⟨λhm=>?_,o',h2,rfl⟩;obtain⟨c,hc1,rfl⟩:=mem_map.1 hm;obtain⟨p,hp,rfl⟩:=mem_map.1 hc1;rw[gT hndm (mem_map.2 ⟨p,hp,rfl⟩)]at h1;cases h1
 have hmany:∀j P Q,a5 (sB (lS ks st.ob) ((post y).map λp=>(aX m p.1,iL (aX m) p.2))) j=some (.many P Q)->j∉ids.map (aX m)/\a5 st.ob j=some (.many P Q):=by
  intro j P Q ho;rcases hob j _ ho with⟨c,o',hc1,_,e⟩|⟨hj,o',ho',e⟩
  ·have:=hpo _ (bR hc1);cases o'<;>first|(cases e;done)|(cases this;done)
  ·exact⟨hj,by rw[ho',gR e.symm]⟩
 have hO:∀b,(fZ w Z (λi=>ρ (aX m i)) pre).O b->∃i o,a5 st.ob (aX m i)=some o/\dK (post y) i=true/\br (ρ (aX m i))=some b:=by
  rintro b ⟨i,o,ho,hb⟩;exact⟨i,_,(hget i o ho).1,(hget i o ho).2.1,hb⟩
 have hfar:∀j o b,j∉ids.map (aX m)->a5 st.ob j=some o->br (ρ j)=some b->¬(fZ w Z (λi=>ρ (aX m i)) pre).O b:=by
  intro j o b hj ho hb hOb;obtain⟨i,o2,ho2,hi,hb2⟩:=hO b hOb;refine hs.ws.sep j (aX m i) o o2 b ho ho2 (λe=>hj ?_) hb hb2;rw[e];exact mem_map.2 ⟨i,hhas.1 hi,rfl⟩
 have hsame:∀b,b<w.heap.size->¬(fZ w Z (λi=>ρ (aX m i)) pre).O b->w'.heap[b]? =w.heap[b]? :=hw.old;have hzn:∀b,Z b->w'.heap[b]? =w.heap[b]? :=by
  intro b hb;refine hsame b (hs.ws.zlt b hb) λhOb=>?_;obtain⟨i,o2,ho2,_,hb2⟩:=hO b hOb;exact(hs.ws.mine _ _ b ho2 hb2).1 hb
 have hsz:w.heap.size<=w'.heap.size:=hw.size;have hobase:∀b,(fZ w Z (λi=>ρ (aX m i)) pre).O b->S.w0.heap.size<=b\/S.O b:=by
  intro b hOb;obtain⟨i,o2,ho2,_,hb2⟩:=hO b hOb;exact(hs.ws.mine _ _ b ho2 hb2).2
 refine⟨v,(EB (aX m) (res y)).v,⟨st.tm.map (m7 ks),sB (lS ks st.ob) ((post y).map λp=>(aX m p.1,iL (aX m) p.2))⟩,Z',ρ1,rfl,⟨?_,by simp[hs.len],λi x u hx hu=>?_,hs.df⟩,C8 hin hres hv,hk y hQ⟩
 ·refine⟨hw.os.trans hs.ws.os,hw.tape.trans hs.ws.tape,hw.output.trans hs.ws.output,Nat.le_trans hs.ws.size hsz,λb hb hno=>?_,hw.zlt,λj o b ho hb=>?_,λi j oi oj b hi hj hij hbi hbj=>?_,λj o ho=>?_,⟨λid P Q ho=>?_,λi j P Q P' Q' hi hj=>?_⟩,hw.g,λb hb=>hw.z0 b (hs.ws.z0 b hb),λb hb=>?_⟩
  ·refine(hsame b (Nat.lt_of_lt_of_le hb hs.ws.size) λhOb=>?_).trans (hs.ws.old b hb hno);rcases hobase b hOb with h|h
   ·omega
   ·exact hno h
  ·rcases hob j o ho with⟨c,o',hc1,rfl,rfl⟩|⟨hj,o',ho',rfl⟩
   ·have hcp:=cq.2 ⟨o',hc1⟩;rw[hin c hcp]at hb;obtain⟨h1,h2⟩:=hw.mine c o' b hc1 hb;refine⟨h1,?_⟩;rcases h2 with h2|h2
    ·exact .inl (Nat.le_trans hs.ws.size h2)
    ·exact hobase b h2
   ·rw[hout j hj]at hb;obtain⟨h1,h2⟩:=hs.ws.mine j o' b ho' hb;refine⟨λhz=>?_,h2⟩;rcases hw.znew b hz with h3|h3|h3
    ·exact h1 h3
    ·have:=hs.ws.lt ho' hb;exact absurd (show w.heap.size<=b from h3) ac
    ·exact hfar j o' b hj ho' hb h3
  ·rcases hob i oi hi with⟨c,o',hc1,rfl,rfl⟩|⟨hi',o',ho',rfl⟩
   ·have hcp:=cq.2 ⟨o',hc1⟩;rw[hin c hcp]at hbi;rcases hob j oj hj with⟨c2,o2,hc2,rfl,rfl⟩|⟨hj',o2,ho2,rfl⟩
    ·have hcp2:=cq.2 ⟨o2,hc2⟩;rw[hin c2 hcp2]at hbj;exact hw.sep c c2 o' o2 b hc1 hc2 (λe=>hij (by rw[e])) hbi hbj
    ·rw[hout j hj']at hbj;rcases(hw.mine c o' b hc1 hbi).2 with h|h
     ·have:=hs.ws.lt ho2 hbj;exact absurd (show w.heap.size<=b from h) ac
     ·exact hfar j o2 b hj' ho2 hbj h
   ·rw[hout i hi']at hbi;rcases hob j oj hj with⟨c2,o2,hc2,rfl,rfl⟩|⟨hj',o2,ho2,rfl⟩
    ·have hcp2:=cq.2 ⟨o2,hc2⟩;rw[hin c2 hcp2]at hbj;rcases(hw.mine c2 o2 b hc2 hbj).2 with h|h
     ·have:=hs.ws.lt ho' hbi;exact absurd (show w.heap.size<=b from h) ac
     ·exact hfar i o' b hi' ho' hbi h
    ·rw[hout j hj']at hbj;exact hs.ws.sep i j o' o2 b ho' ho2 hij hbi hbj
  ·rcases hob j o ho with⟨c,o',hc1,rfl,rfl⟩|⟨hj,o',ho',rfl⟩
   ·have hcp:=cq.2 ⟨o',hc1⟩;exact GF (hpo _ (bR hc1)) (C7 hin hcp (hpo _ (bR hc1)) (GG (hpo _ (bR hc1)) (hw.obj c o' hc1)))
   ·refine xP (λh=>hj (hksub j h)) hag ?_;refine(hs.ws.obj j o' ho').mono hw.z0 hzn λb hb=>hsame b (hs.ws.lt ho' hb) (hfar j o' b hj ho' hb)
  ·obtain⟨hj,ho'⟩:=hmany id P Q ho;obtain⟨h1,h2⟩:=hs.ws.many.ok id P Q ho';have hnO:∀b,P b->¬(fZ w Z (λi=>ρ (aX m i)) pre).O b:=by
    intro b hb hOb;obtain⟨i,o2,ho2,_,hb2⟩:=hO b hOb;exact(h1 b hb).2.2.2 _ _ ho2 hb2
   refine⟨λb hb=>⟨Nat.lt_of_lt_of_le (h1 b hb).1 hsz,λhz=>?_,(h1 b hb).2.2.1,λj o hjo hbj=>?_⟩,λw2 hw2=>h2 w2 λb hb=>(hw2 b hb).trans (hsame b (h1 b hb).1 (hnO b hb))⟩
   ·rcases hw.znew b hz with h3|h3|h3
    ·exact(h1 b hb).2.1 h3
    ·have:=(h1 b hb).1;exact absurd (show w.heap.size<=b from h3) ac
    ·exact hnO b hb h3
   ·rcases hob j o hjo with⟨c,o',hc1,rfl,rfl⟩|⟨hj',o',ho2,rfl⟩
    ·rw[hin c (cq.2 ⟨o',hc1⟩)]at hbj;rcases(hw.mine c o' b hc1 hbj).2 with h3|h3
     ·have:=(h1 b hb).1;exact absurd (show w.heap.size<=b from h3) ac
     ·exact hnO b hb h3
    ·rw[hout j hj']at hbj;exact(h1 b hb).2.2.2 j o' ho2 hbj
  ·exact hs.ws.many.sep i j P Q P' Q' (hmany i P Q hi).2 (hmany j P' Q' hj).2
  ·rcases hw.znew b hb with h|h|h
   ·exact hs.ws.znew b h
   ·exact .inr (.inl (Nat.le_trans hs.ws.size h))
   ·exact .inr (hobase b h)
 ·simp only[getElem?_map]at hx;obtain⟨x0,h0,rfl⟩:=Option.map_eq_some_iff.1 hx;exact uK hag ((hs.tm i x0 u h0 hu).mono hw.z0 hzn)
theorem TF{S:bj}{st:ASt}{Q:α->Prop}{post:α->List (Nat×AO)}{res:α->AR}{K:AV->ASt->Prop}{cargs:List AV}(hc:de E f args pre Q ids post keep res)(m:List (Nat×Nat))(y0:α)
  (hck:∀y,kY m pre (post y) (res y)=true) (hargs:(args.map λa=>(v5 (aX m) a).v)=cargs) (hp:Oo m st.ob pre True) (hk:∀y,Q y->sZ (pj m (post y) keep) st λst=>uA m st.ob (post y) λob=>J9 m (res y) λr=>K r ⟨st.tm,ob⟩):aG E S f cargs st K:=
 Vk hc m hck hargs (zA hp).1 ⟨y0,trivial⟩ λy hQ=>Cn (uB (qU (hk y hQ)))
theorem Wv{post:List (Nat×AO)}{res:AR}(hc:cV E f args pre post keep res):de E f args pre (λ_:Unit=>True) (post.map (·.1)) (λ_=>post) keep (λ_=>res):=
 ⟨hc.enter,λZ w ρ us h1 h2 h3=>(hc.run Z w ρ us h1 h2 h3).mono λe w' ⟨v,Z',ρ',h4,h5,h6,h7⟩=>⟨(),v,Z',ρ',trivial,h4,h5,h6,h7⟩⟩
structure bq (E:a6) (f:FuncId) (args:List AP1) {α:Type} (Q:α->Prop) (res:α->AP):Prop where
 enter:∀(us:Array Value) w,(callFunc f us).run E.P w= .ok (.enter f us) w
 run:∀(Z:Nat->Prop) (w:World) (us:List Value),(∀b,Z b->b<w.heap.size)->GZ E.W Z w->us.length=args.length->(∀(i:Nat) p u,args[i]? =some p->us[i]? =some u->dJ Z w p u)->
  Calls E.P f us.toArray w λe w'=>∃(y:α) (v:Value) (Z':Nat->Prop),Q y/\e= .returned v/\Below w.heap.size w w'/\(∀b,Z b->Z' b)/\(∀b,Z' b->Z b\/(w.heap.size<=b/\b<w'.heap.size))/\qR Z' w' (res y) v
def Su(E:a6)(rs:List ResultVar){α:Type}(Q:α->Prop)(res:α->AP):Exit->ASt->Prop
 | .ret,st=>Fj E st rs λv=>∃y,Q y/\v=res y
 | .normal,st=>Fj E st rs λv=>∃y,Q y/\v=res y
 |_,_=>False
theorem aO(he:E.Ok){fn:Func}{n:Nat}{rs:List ResultVar}{args:List AP1}{Q:α->Prop}{res:α->AP}(hf:E.P.funcs[f]? =some fn)(hb:fn.body=some c)
  (enter:∀(us:Array Value) w,(callFunc f us).run E.P w= .ok (.enter f us) w) (hn:fn.ntmps=n) (hrs:fn.results.toList=rs)
  (h:∀S,zk args n λtm=>AWP E S c (Su E rs Q res) ⟨tm,[]⟩):bq E f args Q res:=by
 refine⟨enter,λZ w us hz hg hl hr=>?_⟩;subst hn hrs;obtain⟨hle,hk⟩:=np (h ⟨w,λ_=>False,Z⟩);have hs:Sim E.W ⟨w,λ_=>False,Z⟩ Z (λ_=>undef) ⟨args.map AP1.v++List.replicate (fn.ntmps-args.length) (.one .und),[]⟩ {tmps:=us.toArray++Array.replicate (fn.ntmps-us.toArray.size) undef,defers:=[]} w:=by
  refine⟨⟨rfl,rfl,rfl,Nat.le_refl _,λ_ _ _=>rfl,hz,λid o b ho _=>(by cases ho),λi j oi oj b hi _ _ _ _=>(by cases hi),λid o ho=>(by cases ho),ji.nil,hg,λb hb=>hb,λb hb=> .inl hb⟩,by simp[hl],λi x v hx hv=>?_,rfl⟩;simp only at hx hv;have hv':(us++List.replicate (fn.ntmps-us.length) undef)[i]? =some v:=by
   have:=hv;rw[<-Array.getElem?_toList]at this;simpa using this
  by_cases hi:i<us.length
  ·rw[List.getElem?_append_left (by simpa[hl]using hi),getElem?_map]at hx;obtain⟨p,hp,rfl⟩:=Option.map_eq_some_iff.1 hx;rw[List.getElem?_append_left hi]at hv';exact(hr i p v hp hv').v
  ·rw[List.getElem?_append_right al]at hx;rw[List.getElem?_append_right ac]at hv';have e1:=List.eq_of_mem_replicate (mem_of_getElem? hx);have e2:=List.eq_of_mem_replicate (mem_of_getElem? hv');subst e1 e2;exact .one _ _ (show dZ Z w (λ_=>undef) .und undef from rfl)
 refine calls_of_wp hf hb (wp_mono (hk.run _ w ⟨Z,_,hs⟩) λe a' w' h'=>?_);obtain⟨st',⟨Z',ρ',hs'⟩,hk'⟩:=h';have fin:(Fj E st' fn.results.toList λv=>∃y,Q y/\v=res y)->a'.defers=[]/\∃v,(results fn a'.tmps).run E.P w'= .ok v w'/\∃(y:α) (v0:Value) (Z':Nat->Prop),Q y/\Ending.returned v= .returned v0/\Below w.heap.size w w'/\(∀b,Z b->Z' b)/\(∀b,Z' b->Z b\/(w.heap.size<=b/\b<w'.heap.size))/\qR Z' w' (res y) v0:=by
  intro hr;obtain⟨v,p,h1,h2,y,hQ,h3⟩:=Fn he hs' hr;subst h3;refine⟨hs'.df,v,h1,y,v,g6 Z' ρ' st'.ob,hQ,rfl,⟨hs'.ws.os,hs'.ws.tape,hs'.ws.output,hs'.ws.size,λb hb=>hs'.ws.old b hb (λh=>h)⟩,λb hb=> .inl (hs'.ws.z0 b hb),λb hb=>?_,h2⟩;have hlt:=g6.lt hs'.ws b hb;rcases hb with hb|⟨id,o,ho,hb⟩
  ·rcases hs'.ws.znew b hb with h4|h4|h4
   ·exact .inl h4
   ·exact .inr ⟨h4,hlt⟩
   ·exact h4.elim
  ·rcases(hs'.ws.mine id o b ho hb).2 with h4|h4
   ·exact .inr ⟨h4,hlt⟩
   ·exact h4.elim
 cases e with
 |normal=>exact fin hk'
 |ret=>exact fin hk'
 |_=>exact hk'.elim
theorem aM.q{args:List AP1}{res:AP}(hc:aM E f args res){Q:α->Prop}{r:α->AP}(y:α)(hQ:Q y)(e:res=r y):bq E f args Q r:=
 ⟨hc.enter,λZ w us h1 h2 h3 h4=>(hc.run Z w us h1 h2 h3 h4).mono λ_ _ ⟨v,Z',h5,h6,h7,h8,h9⟩=>⟨y,v,Z',hQ,h5,h6,h7,h8,e▸h9⟩⟩
theorem Ws{args:List AP1}{β:Type}{Q:α->Prop}{R:β->Prop}{r:α->AP}{s:β->AP}(hc:bq E f args Q r)(h:∀y,Q y->∃z,R z/\r y=s z):bq E f args R s:=
 ⟨hc.enter,λZ w us h1 h2 h3 h4=>(hc.run Z w us h1 h2 h3 h4).mono λ_ _ ⟨y,v,Z',hQ,h5,h6,h7,h8,h9⟩=>by
  obtain⟨z,hR,e⟩:=h y hQ;exact⟨z,v,Z',hR,h5,h6,h7,h8,e▸h9⟩⟩
theorem aG.q{args:List AV}{ps:List AP1}{Q:α->Prop}{res:α->AP}(hc:bq E f ps Q res)(hps:aPs args (· =ps))(hk:∀y,Q y->K (res y).v st):aG E S f args st K:=by
 refine⟨hc.enter,λZ ρ a w us hs hl hr=>?_⟩;have hws0:WS E.W S Z w ρ []:=hs.ws.sub Tx;obtain⟨ps',h1,h2,rfl⟩:=g8 (E:=E) (S:=S) (st:=⟨[],[]⟩) hws0 hl hr (DR hps);refine(hc.run Z w us hs.ws.zlt hs.ws.g h1 λi p u h3 h4=>?_).mono ?_
 ·have:=h2 i p u h3 h4;have hz:∀b,g6 Z ρ [] b->Z b:=by rintro b (hb|⟨id,o,ho,_⟩);exact hb;cases ho
  cases p with
  |one d=>exact bK.mono hz (λ_ _=>rfl) this
  |agg ds=>obtain⟨us,e,hl,hr⟩:=this;exact⟨us,e,hl,λi d u h5 h6=>(hr i d u h5 h6).mono hz λ_ _=>rfl⟩
 ·rintro e w' ⟨y,v,Z',hQ,rfl,hb,hz,hz2,hv⟩;exact⟨v,(res y).v,st,Z',ρ,rfl,hs.grow (eJ hb) hz hz2,hv.v,hk y hQ⟩
end
section
open Go.Proofs.Tryz
open Go.ChangeShapes Go.WideShapes Go.RowKit
variable {a s:Int}
def uC:List (List Nat):=a8 [0,0,0,194,65,347943211332]
def gx(s:Int):Prop:=0<=s/\s<999999937
def uh(s:Int):Int:=(48271*s+11).tmod 999999937
theorem v6(h:gx s):gx (uh s):=by
 unfold gx uh at*
 rw[Int.tmod_eq_emod_of_nonneg ac];omega
theorem Oe{n:Int}(ha:0<=a)(hn:0<n):0<=a.tmod n/\a.tmod n<n:=by
 rw[Int.tmod_eq_emod_of_nonneg ha];exact⟨Int.emod_nonneg _ ac,Int.emod_lt_of_pos _ hn⟩
theorem kW{x b:Int}(h:a<=x/\x<=b):aI x a b=true:=by simp only[aI,Bool.and_eq_true,decide_eq_true_eq];exact h
theorem Ma(s:Int):aM av 61 [.agg [dI s]] (rB (aI s 0 999999936)):=by
 refine pO func61 call61 ntmps61 results61 λS=>?_;conv=>whnf
 repeat'(first|refine awz ?_|(refine cP (aN _ _ _) ?_;conv=>whnf)|exact rZ|fail)
theorem gh(h:gx s):aM av 61 [.agg [dI s]] (rB true):=by
 have:=Ma s;rwa[kW (show 0<=s/\s<=999999936 from⟨h.1,by have:=h.2;omega⟩)]at this
theorem tu(s:Int)(h:0<=s/\s<=1000000):aM av 33 [pI s] (.val (.agg [dI s])):=by
 have e1:s.tmod 999999937=s:=by rw[Int.tmod_eq_emod_of_nonneg h.1];omega
 have e2:(s.tmod 999999937+999999937).tmod 999999937=s:=by rw[e1,Int.tmod_eq_emod_of_nonneg ac];omega
 refine pO func33 call33 ntmps33 results33 λS=>?_;conv=>whnf
 repeat'((first|refine awz ?_|refine And.intro ac ?_|refine Tz (by rw[e1];omega) (by rw[e1];omega) ?_|fail)<;>conv=>whnf)
 all_goals(rw[e2])
theorem Df(s:Int)(h:gx s):aM av 112 [.agg [dI s]] (.tup [.agg [dI (uh s)],.one (dI (uh s))]):=by
 have hs:=h;unfold gx at hs;refine pO func112 call112 ntmps112 results112 λS=>?_;conv=>whnf
 repeat'((first|refine awz ?_|refine cP (gh h) ?_|refine Tz ac ac ?_|refine And.intro ac ?_|exact rZ|fail)<;>conv=>whnf)
theorem Bf(s n:Int)(h:gx s)(hn:1<=n/\n<=1000000000):aM av 84 [.agg [dI s],pI n] (.tup [.agg [dI (uh s)],.one (dI ((uh s).tmod n))]):=by
 have l1:=aN n 1 1000000000;rw[kW hn]at l1;have hr:=v6 h;unfold gx at hr;refine pO func84 call84 ntmps84 results84 λS=>?_;conv=>whnf
 repeat'((first|refine awz ?_|refine cP (gh h) ?_|refine cP (l1) ?_|refine cP (Df s h) ?_|fail)<;>conv=>whnf)
 (refine TD aL 6 (tkc [0,1,2] (.two 3 (.one 4 (.take 5 .done)) 4 (.one 3 (.take 5 .done)))) [(6,9980)] uC ae ae ae ae (λRz=>?_);(conv=>whnf);intro bp0 up0;(conv=>whnf))
 repeat'(first|refine awz ?_|(refine And.intro ac ?_;conv=>whnf)|exact rZ|refine tW ?_ ?_|fail)
def x7(s:Int):Nat->Int
 |0=>s
 |k+1=>uh (x7 s k)
theorem v7(h:gx s):∀k,gx (x7 s k)
 |0=>h
 |k+1=>v6 (v7 h k)
def jM(s:Int)(k:Nat):List Int:=(List.range k).map λj=>(x7 s (j+1)).tmod 3
theorem E6(s:Int)(k:Nat):(jM s (k+1)).map eI=(jM s k).map eI++[[dI ((uh (x7 s k)).tmod 3)]]:=by
 simp[jM,List.range_succ,x7];rfl
theorem Mo(s:Int)(h:gx s):aM av 113 [.agg [dI s],pI 12,pI 3] (.tup [.agg [dI (x7 s 12)],.one (.sl ((jM s 12).map eI))]):=by
 have l1:=aN 12 0 64;have l2:=aN 3 1 1000000000;rw[show aI 12 0 64=true by decide]at l1;rw[show aI 3 1 1000000000=true by decide]at l2;refine pO func113 call113 ntmps113 results113 λS=>?_;conv=>whnf
 repeat'((first|refine awz ?_|refine cP (gh h) ?_|refine cP (l1) ?_|refine cP (l2) ?_|fail)<;>conv=>whnf)
 refine TE (λk:Nat=>k<=12) (11::[8,9,10,27,28,29,30,31,32,33,34,35,36,37,38,39,40,41]) (λk=>[(8,.one (.own 11))]) (λk=>[(11,.row 2 1 ((jM s k).map eI)),(3,.cells 102 [.d (dI (x7 s k))]),(6,.cells 102 [.d (dI 0)])]) (λk=>12-k) 0 (Nat.zero_le _) ?_ sbW (λk hk=>?_)<;>(conv=>whnf)
 ·exact whd
 ·have hl:((jM s k).map eI).length=k:=by simp[jM]
  by_cases hlt:k<12
  ·have hc:decide ((((jM s k).map eI).length:Int)<12)=true:=by rw[hl];simp only[decide_eq_true_eq];omega
   have hs:=E6 s k;repeat'((first|refine awz ?_|refine cP (Bf _ 3 (v7 h k) ac) ?_|refine And.intro (by simp only[hl,List.length_nil,List.length_cons];omega) ?_|fail)<;>conv=>whnf)
   all_goals
    refine aW.mk ⟨k+1,hlt,ac,?_,Tu (by rw[hs];rfl) sbW⟩;exact hds
  ·have e:k=12:=ac;subst e;have hc:decide ((((jM s 12).map eI).length:Int)<12)=false:=by rw[hl];rfl
   repeat'(first|refine awz ?_|exact rZ|fail)
end
open Go.Proofs.Tryz
open Go.ChangeShapes Go.WideShapes Go.RowKit
def uF:List (List Nat):=a8 [0,1,0,3,0,5,389,138580619590,35602175901762]
def tE:List (List Nat):=a8 [0,1,2,0,0,5,12676,451,0x2071851030811c8]
def mq:List (List Nat):=a8 [0,1,0,3,4,16706,6527398017,0x61440c2046187]
theorem wz(l:List Int)(hl:l.length<=1048576):aM av 190 [.one (.sl (l.map eI))] (.val (.one (.sl (l.map eI)))):=by
 refine pO func190 call190 ntmps190 results190 λS=>?_;conv=>whnf
 repeat'((first|refine awz ?_|refine aP (by first|(intro y hy;obtain⟨a,_,rfl⟩:=List.mem_map.1 hy;rfl)|(simp;done)) ?_|refine aQ ak ?_|exact rZ|fail)<;>conv=>whnf)
theorem Hs(l:List Int)(hl:l.length<=1048576):cV av 190 [.one (.d (.sl (l.map eI)))] [] [(3,.row 2 1 (l.map eI))] [] (.val (.one (.own 3))):=by
 refine bL aL func190 rfl call190 ntmps190 (WA results190) rfl λS pv=>?_;conv=>whnf
 repeat'((first|refine awz ?_|refine aP (by first|(intro y hy;obtain⟨a,_,rfl⟩:=List.mem_map.1 hy;rfl)|(simp;done)) ?_|refine aQ ak ?_|exact rZ|fail)<;>conv=>whnf)
theorem sV(m:DMsg)(h:m.row.length<=1048576):aM av 165 [.agg m.ds] (.val (.agg m.ds)):=by
 refine pO func165 call165 ntmps165 results165 λS=>?_;conv=>whnf
 repeat'((first|refine awz ?_|refine TB aL 1 7 uF gt ae ae ae rfl ?_|refine cP (wz m.row h) ?_|exact rZ|fail)<;>conv=>whnf)
theorem ME(l:List DMsg)(hl:l.length<=1048576)(hm:∀m∈l,DMsg.small 1048576 m):cV av 213 [.one (.d (.sl (l.map DMsg.ds)))] [] [(5,.row 120 3 (l.map DMsg.ds))] [] (.val (.one (.own 5))):=by
 refine bL aL func213 rfl call213 ntmps213 (WA results213) rfl λS pv=>?_;conv=>whnf
 repeat'(first|refine awz ?_|fail)
 refine TE (λk:Nat=>k<=l.length) (5::[3,4,6,7,8,9,10,11,12,13,14,15,16,17,18,19]) (λk=>[(3,.one (.own 5)),(4,vI .i64 (k:Int))]) (λk=>[(9999,.frame (cE []) pv),(5,.row 120 3 ((l.take k).map DMsg.ds))]) (λk=>l.length-k) 0 (Nat.zero_le _) ?_ sbW (λk hk=>?_)<;>(conv=>whnf)
 ·exact whd
 ·repeat'(first|refine awz ?_|refine tW ?_ ?_|(intro h;conv=>whnf))
  ·have hlt:k<l.length:=ari;have hy:l[k].row.length<=1048576:=hm _ (List.getElem_mem hlt);repeat'((first|refine awz ?_|refine TJ hlt ?_|refine cP (sV l[k] hy) ?_|refine aQ ak ?_|refine Tz ari ari ?_|fail)<;>conv=>whnf)
   all_goals
    refine aW.mk ⟨k+1,hlt,ac,?_,Tu rfl (Tu (congrArg some (congrArg (AO.row 120 3) (gY DMsg.ds hlt).symm)) Tx)⟩;exact hds
  ·have e:k=l.length:=ari;subst e;rw[List.take_length];repeat'(first|refine awz ?_|exact rZ|fail)
theorem kg(n:DNet)(h:DNet.small 1048576 n):cV av 162 [.agg (n.ds.map .d)] [] [(41,.row 120 3 (n.flight.map DMsg.ds))] [] (.val (.agg [.own 41,.d (.sl (n.cuts.map DLink.ds))])):=by
 obtain⟨h1,h2,h3⟩:=h;refine bL aL func162 rfl call162 ntmps162 (WA results162) rfl λS pv=>?_;conv=>whnf
 repeat'(first|refine awz ?_|fail)
 (refine TD aL 1 (tkc [0,1,4,5] (.two 2 (onc [3,6,7,8] .done) 3 (onc [2,6,7,8] .done))) [(1,9980)] tE ae ae ae ae (λRz=>?_);(conv=>whnf);intro bp0 up0;(conv=>whnf))
 repeat'((first|refine awz ?_|refine TA (ME n.flight h1 h2) [(5,41)] rfl rfl ?_|refine aP (by first|(intro y hy;obtain⟨a,_,rfl⟩:=List.mem_map.1 hy;rfl)|(simp;done)) ?_|refine aQ ak ?_|exact rZ|refine tW ?_ ?_|fail)<;>conv=>whnf)
theorem kj(n:DNet)(a:Int)(h:n.flight.length<=1048576):aM av 161 [.agg n.ds,pI a] (rB (aI a 0 ((n.flight.length:Int)-1))):=by
 refine pO func161 call161 ntmps161 results161 λS=>?_;conv=>whnf
 repeat'((first|refine awz ?_|refine Tz ari ari ?_|refine cP (aN a 0 _) ?_|fail)<;>conv=>whnf)
 all_goals simp
theorem pH(n:DNet)(k:Nat)(hs:DNet.small 1048576 n)(hk:k<n.flight.length):cV av 164 [.agg (n.ds.map .d),.one (.d (dI (k:Int)))] [] [(9,.row 120 3 ((n.flight.take k++n.flight.drop (k+1)).map DMsg.ds))] [] (.val (.agg [.own 9,.d (.sl (n.cuts.map DLink.ds))])):=by
 have h1:=hs.1;have e1:List.drop 0 (List.take k (n.flight.map DMsg.ds))=(n.flight.take k).map DMsg.ds:=by simp[List.map_take]
 have e2:List.drop (k+1) (List.take n.flight.length (n.flight.map DMsg.ds))=(n.flight.drop (k+1)).map DMsg.ds:=by rw[List.take_of_length_le ai,List.map_drop]
 have e3:(n.flight.take k++n.flight.drop (k+1)).map DMsg.ds=[]++(n.flight.take k).map DMsg.ds++(n.flight.drop (k+1)).map DMsg.ds:=ai;rw[e3];refine bL aL func164 rfl call164 ntmps164 (WA results164) rfl λS pv=>?_;conv=>whnf
 repeat'(first|(refine Ug (rid:=2) aL 0 41 120 3 (n.flight.map DMsg.ds) ?_;conv=>whnf)|refine awz ?_|(refine TA (kg n hs) [(41,41)] rfl rfl ?_;conv=>whnf)|(refine⟨0,k,rfl,rfl,Nat.zero_le _,al,?_⟩;conv=>whnf;rw[e1])|(refine⟨k+1,n.flight.length,rfl,(by simp[rW]),ac,ai,?_⟩;conv=>whnf;rw[e2])|((first|refine aP (by first|(intro y hy;obtain⟨a,_,rfl⟩:=List.mem_map.1 hy;rfl)|(simp;done)) ?_|refine aQ ak ?_|refine Tz ac ac ?_|fail)<;>conv=>whnf)|exact rZ|fail)
theorem EQ(n:DNet)(m:DMsg)(hn:dg n=true)(hm:jC m=true)(hs:DNet.small 1048576 n)(hr:m.row.length<=1048576)(hl:n.flight.length≠60):cV av 191 [.agg (n.ds.map .d),.agg (m.ds.map .d)] [] [(41,.row 120 3 ((n.flight++[m]).map DMsg.ds))] [] (.tup [.agg [.own 41,.d (.sl (n.cuts.map DLink.ds))],.one (.d (dB true))]):=by
 have h1:=hs.1;have c1:=fG n;have c2:=gW m;rw[hn]at c1;rw[hm]at c2;have hc:((((n.flight.map DMsg.ds).length:Nat):Int)==60)=false:=al;have hlt:=(cI hn).1;have e1:(n.flight++[m]).map DMsg.ds=n.flight.map DMsg.ds++[[dI m.frm,dI m.to_,.sl (m.row.map eI)]]:=by rw[List.map_append];rfl
 rw[e1];refine bL aL func191 rfl call191 ntmps191 (WA results191) rfl λS pv=>?_;conv=>whnf
 repeat'((first|refine awz ?_|refine cP (c1) ?_|refine cP (c2) ?_|refine TA (kg n hs) [(41,41)] rfl rfl ?_|fail)<;>conv=>whnf)
 (refine TD aL 6 (.take 0 (.take 2 (.two 1 (onc [3,4,5] (.take 6 (.one 7 .done))) 3 (.two 1 (.one 4 (.one 5 (.take 6 (.one 7 .done)))) 4 (.one 1 (.one 5 (.take 6 (.one 7 .done)))))))) [(3,9980)] mq ae ae ae ae (λRz=>?_);(conv=>whnf);intro bp0 up0;(conv=>whnf))
 repeat'((first|refine awz ?_|refine cP (sV m hr) ?_|refine aQ ak ?_|exact rZ|refine tW ?_ ?_|fail)<;>conv=>whnf)
section
variable {l:List DDue}{k:Nat}
def qu:List (List Nat):=a8 [0,0,66,12417,1052803,84680772,6509830341,486455906566,35601001230663,35601001230663,0x24714308110620a,0xb2881840420c51c9,0x3091c50c204418828b,0xd2ca20610108314724c,0x38c24714308110620a2cd,0x81840420c51cf34b28930e,0x40e30928b34f1c50c2044188,0x112061010831473cd2ca24c390,0x49038c24a2cd3c7143081106211,0x134481840420c51cf34b28930e412,0x51240e30928b34f1c50c2044188453,0x51240e30928b34f1c50c2044188453,0x164d12061010831473cd2ca24c390494,0x154d12061010831473cd2ca24c3904945d6,0x6165d449038c24a2cd3c71430811062114d5,0x51240e30928b34f1c50c2044188453,0x51240e30928b34f1c50c2044188453,0x6934481840420c51cf34b28930e41251b,0x1c6d449038c24a2cd3c71430811062114da,0x195534481840420c51cf34b28930e41251759875a6dc,0x79c6da75859751240e30928b34f1c50c2044188453559,0x1449038c24a2cd3c71430811062114df6555d661d69b71e,0x4481840420c51cf34b28930e42079c6da7585975597d3494]
def qH:List (List Nat):=dN 29 [6,2,4,13,40,121,364,1093,42646,16402,29524,88573,265720,797161,2391484,7174453,21523360,64570081,193710244,581130733,67868514973264,67791805716442,67802266069645,67830160344853,67924303523680,5929276873900,2540122436128,4234699655014,0xac970cc4721]
theorem um(x y:DDue):aM av 308 [.agg x.ds,.agg y.ds] (rB (vG x y)):=by
  refine pO func308 call308 ntmps308 results308 λS=>?_;conv=>whnf
  repeat'(first|refine awz ?_|refine tB ?_ ?_|(intro h;conv=>whnf))
  all_goals
    refine dh ?_;first
      |(simp_all[vG];done)
      |(simp_all[vG];omega)
def jD(l:List DDue):Bool:=decide (l.length<=8)&&l.all nH&&fI vG l&&d5 xI l
theorem Iz(j:DJobs):gz j=(aI j.index 0 2000&&tOk j.time&&(j.holder==0||fz j.holder)&&aI j.epoch 0 1000&&aI j.til 0 1001000&&jD j.opens):=by simp only[gz,jD,Bool.and_assoc]
theorem Gn(h:¬l.length<=8):jD l=false:=by simp[jD,h]
theorem BJ(hk:k<l.length)(h:bZ nH vG l k hk=false):jD l=false:=by
  rcases Bool.and_eq_false_iff.1 (nD hk h)with h|h<;>simp only[jD,h,Bool.and_false,Bool.false_and]
theorem Gm{j:Nat}(hj:j<k)(hk:k<l.length)(h:(l[j]'(ac)).id=l[k].id):jD l=false:=by
  have:=rv (R:=xI) hj hk (by simp[xI,h]);simp only[jD,this,Bool.and_false]
theorem Gp(h:l.length<=8)(hc:(l.all nH&&fI vG l)=true)(hd:d5 xI l=true):jD l=true:=by
  rw[Bool.and_eq_true]at hc;simp only[jD,h,hc.1,hc.2,hd,decide_true,Bool.and_self]
theorem Bj(l:List DDue):aM av 268 [.one (.sl (l.map DDue.ds))] (rB (jD l)):=by
  refine pO func268 call268 ntmps268 results268 λS=>?_;conv=>whnf
  repeat'(first|refine awz ?_|refine tB ?_ ?_|(intro h;conv=>whnf))
  · rw[Gn ari]
  · have h1:l.length<=8:=ari;clear h;refine TE (λk:Nat=>k<=l.length/\(∀(j:Nat) (hj:j<k) (hl:j<l.length),bZ nH vG l j hl=true)/\∀(i j:Nat) (hi:i<j) (hj:j<k) (hl:j<l.length),xI (l[i]'(ac)) l[j]=false) (2::3::4::rg 8 55) (λk=>[(3,vI .i64 (k:Int))]) (λk=>[]) (λk=>l.length-k) 0 ⟨ac,ac,ac⟩ ?_ Tx (λk hR=>?_)<;>(conv=>whnf)
    · exact whd
    · obtain⟨hk,hall,hdup⟩:=hR;repeat'((first|refine awz ?_|refine TB aL 6 29 qu qH ae ae ae rfl ?_|refine TO ari (λhlt=>?_)|refine T8 ari ari (λhpv=>?_)|refine Tz (n:=_-_) ari ari ?_|refine cP (yN _) ?_|refine cP (bP _) ?_|refine cP (um _ _) ?_|refine tB ?_ ?_|intro h)<;>conv=>whnf)
      all_goals first
        |(rw[BJ (k:=k) ari (by first|(refine dG _ ?_;simp_all[nH,tOk];done)|(rw[bU _ ari];simp_all[nH,tOk];done)|(rw[ch _ ari];simp_all[nH,tOk];done)|(exfalso;assumption))];done)
        |(rw[Gp h1 (nI hall ari) (CI ari hdup)];done)
        |skip
      all_goals
        have hkl:k<l.length:=ari;have hch:bZ nH vG l k hkl=true:=(by first|(refine dG _ ?_;simp_all[nH,tOk];done)|(rw[bU _ ari];simp_all[nH,tOk];done)|(rw[ch _ ari];simp_all[nH,tOk];done)|(exfalso;assumption));refine TE (λq:Nat=>q<=k/\∀(i:Nat) (hi:i<q) (hik:i<k),xI (l[i]'(ac)) l[k]=false) (2::4::rg 47 16) (λq=>[(4,vI .i64 (q:Int))]) (λ_=>[]) (λq=>k-q) 0 ⟨ac,ac⟩ ?_ Tx (λq hQ=>?_)<;>(conv=>whnf)
        · exact whd
        · obtain⟨hq,hno⟩:=hQ;repeat'((first|refine awz ?_|refine TB aL 11 10 jR jT ae ae ae rfl ?_|refine TO (k:=q) ari (λhqt=>?_)|refine TO (k:=k) ari (λhlt=>?_)|refine Tz ari ari ?_|refine tB ?_ ?_|intro h)<;>conv=>whnf)
          all_goals first
            |(rw[Gm (j:=q) (k:=k) ari ari (by simpa using h)];done)
            | (have hjq : ∀ hqk : q < k, xI (l[q]'(ac)) l[k] = false := fun hqk => h
               refine aW.mk ⟨q+1,⟨ari,λi hi hik=>?_⟩,ari,?_,Tx⟩
               · by_cases hiq:i=q
                 · subst hiq;exact hjq hik
                 · exact hno i ac hik
               · exact hds)
            | (refine aW.mk ⟨k + 1, ⟨ari, kp hall ari hch, Bw ari hdup fun i hi => hno i ari hi⟩, ari, ?_, Tx⟩
               exact hds)
theorem kb(j:DJobs):aM av 212 [.agg j.ds] (rB (gz j)):=by
  rw[Iz];refine pO func212 call212 ntmps212 results212 λS=>?_;conv=>whnf
  repeat'((first|refine awz ?_|refine cP (aN _ _ _) ?_|refine cP (bP _) ?_|refine cP (ym _) ?_|refine cP (Bj j.opens) ?_|refine tB ?_ ?_|intro h)<;>conv=>whnf)
  all_goals
    refine dh ?_;simp_all[tOk]
theorem kf(v:DView):aM av 159 [.agg v.ds] (rB (gz v.jobs)):=by
  refine pO func159 call159 ntmps159 results159 λS=>?_;conv=>whnf
  repeat'(first|refine awz ?_|(refine cP (kb v.jobs) ?_;conv=>whnf)|exact rr|fail)
theorem iM(s:DSched):aM av 104 [.agg s.ds] (rB (eZ s)):=by
  refine pO func104 call104 ntmps104 results104 λS=>?_;conv=>whnf
  repeat'((first|refine awz ?_|refine cP (eO _) ?_|refine cP (aN _ _ _) ?_|refine cP (kf s.view) ?_|refine cP (gE s.op) ?_|refine T0 (z4 s.op op0) rfl rfl rfl rfl rfl ?_|refine tB ?_ ?_|intro h)<;>conv=>whnf)
  all_goals
    refine dh ?_;first
      |(simp_all[eZ];done)
      |(simp_all[eZ,aI];omega)
      | (have hb := Nf (x := s.seq) am
         simp_all[eZ];rw[Bool.eq_iff_iff];simp;omega)
end
theorem N2{a b:DSched}:a=b↔(a.id=b.id/\a.seq=b.seq/\a.view=b.view/\a.busy=b.busy/\a.op=b.op/\a.index=b.index):=by
 cases a;cases b;simp[DSched.mk.injEq]
theorem p7(s:DSched):aM av 105 [.agg s.ds] (rB (decide (s=fW s.id))):=by
 refine pO func105 call105 ntmps105 results105 λS=>?_;conv=>whnf
 repeat'((first|refine awz ?_|refine T0 (z4 s.op op0) rfl rfl rfl rfl rfl ?_|refine tB ?_ ?_|intro h)<;>conv=>whnf)
 all_goals
  refine dh ?_;obtain⟨i,q,⟨⟨a,b,c,d,e,l⟩⟩,u,o,x⟩:=s;rw[Bool.eq_iff_iff,decide_eq_true_iff,N2];simp_all[fW,DView.mk.injEq,DJobs.mk.injEq]
theorem mD(s:DSched)(id:Int)(up:Bool):aM av 74 [.agg s.ds,.one (dI id),.one (dB up)] (rB (cY s id up)):=by
 refine pO func74 call74 ntmps74 results74 λS=>?_;conv=>whnf
 repeat'((first|refine awz ?_|refine cP (iM s) ?_|refine cP (p7 s) ?_|refine tB ?_ ?_|intro h)<;>conv=>whnf)
 all_goals
  refine dh ?_;first
   |(simp_all[cY];done)
   |(simp_all[cY];rw[Bool.eq_iff_iff];simp;done)
section
variable {s:DState}
def qt:List (List Nat):=a8 [0,1,0,8259,1060930,84414660,0,7,26666395521543]
def qG:List (List Nat):=dN 8 [5850,5851,5840,5845,5872,5953,728,1457]
theorem MH(h:(aI s.index 0 2000&&tOk s.time&&bo s.pairs&&bu s.jobs&&dD s.lease)=false):a9 s=false:=by simp only[a9,h,Bool.false_and]
theorem MI{k:Nat}(hk:k<s.jobs.length)(h:decide (s.jobs[k].fired<=s.index)=false):a9 s=false:=by
  have:=ru (p:=λj:DJob=>decide (j.fired<=s.index)) hk h;simp only[a9,this,Bool.and_false]
theorem Hu(h:(aI s.index 0 2000&&tOk s.time&&bo s.pairs&&bu s.jobs&&dD s.lease)=true)(hj:s.jobs.all (λj=>decide (j.fired<=s.index))=true):a9 s=true:=by simp only[a9,h,hj,Bool.and_self]
theorem OK{l:List DJob}(h:bu l=true):l.length<=8:=by
  simp only[bu,Bool.and_eq_true,decide_eq_true_eq]at h;exact h.1.1.1
theorem di(s:DState)(hs:s.pairs.length<=9223372036854775806):aM av 155 [.agg s.ds] (rB (a9 s)):=by
  refine pO func155 call155 ntmps155 results155 λS=>?_;conv=>whnf
  repeat'((first|refine awz ?_|refine cP (aN _ _ _) ?_|refine cP (cU _) ?_|refine cP (dX s.pairs) ?_|refine cP (dH s.jobs) ?_|refine cP (dW s.lease) ?_|refine tB ?_ ?_|intro h)<;>conv=>whnf)
  all_goals first
    |(rw[MH (by first|(simp_all[tOk];done)|(exfalso;assumption))];done)
    |skip
  have hyes:(aI s.index 0 2000&&tOk s.time&&bo s.pairs&&bu s.jobs&&dD s.lease)=true:=by simp_all[tOk]
  have h8:s.jobs.length<=8:=OK (by simp_all);refine TE (λk:Nat=>k<=s.jobs.length/\∀(j:Nat) (hj:j<k) (hl:j<s.jobs.length),decide (s.jobs[j].fired<=s.index)=true) (2::3::rg 32 16) (λk=>[(3,vI .i64 (k:Int))]) (λ_=>[(1,.cells 56 (s.ds.map .d))]) (λk=>s.jobs.length-k) 0 ⟨ac,ac⟩ ?_ sbW (λk hR=>?_)<;>(conv=>whnf)
  · exact whd
  · obtain⟨hk,hall⟩:=hR;repeat'((first|refine awz ?_|refine TB aL 6 8 qt qG ae ae ae rfl ?_|refine TO ari (λhlt=>?_)|refine Tz ari ari ?_|refine tB ?_ ?_|intro h)<;>conv=>whnf)
    all_goals first
      |(rw[MI (k:=k) ari (by first|(simp_all;done)|(exfalso;assumption))];done)
      | (refine aW.mk ⟨k + 1, ⟨ari, mf (p := fun j : DJob => decide (j.fired ≤ s.index)) hall ari (by simp_all)⟩, ari, ?_, sbW⟩
         exact hds)
      |(rw[Hu hyes (o5 (p:=λj:DJob=>decide (j.fired<=s.index)) hall ari)])
theorem wj(a b:List DPair)(ha:a.length<=9223372036854775806):aM av 210 [.one (.sl (a.map DPair.ds)),.one (.sl (b.map DPair.ds))] (rB (bo a&&bo b&&decide (a=b))):=by
  refine pO func210 call210 ntmps210 results210 λS=>?_;conv=>whnf
  repeat'((first|refine awz ?_|refine cP (dX a) ?_|refine cP (dX b) ?_|refine tB ?_ ?_|intro h)<;>conv=>whnf)
  · refine dh ?_;have e:bo a=false:=by simp_all
    rw[e];rfl
  · refine dh ?_;have e:bo b=false:=by simp_all
    rw[e,Bool.and_false];rfl
  · rw[IL aq,Bool.and_false]
  · have hlen:a.length=b.length:=aq;have ea:bo a=true:=by simp_all
    have eb:bo b=true:=by simp_all
    rw[ea,eb];refine TE (λk:Nat=>k<=a.length/\∀(j:Nat) (hj:j<k) (h1:j<a.length) (h2:j<b.length),a[j]=b[j]) (4::5::rg 21 15) (λk=>[(5,vI .i64 (k:Int))]) (λ_=>[]) (λk=>a.length-k) 0 ⟨ac,ac⟩ ?_ Tx (λk hR=>?_)<;>(conv=>whnf)
    · exact whd
    · obtain⟨hk,hall⟩:=hR;repeat'((first|refine awz ?_|refine TB aL 6 8 db bX ae ae ae rfl ?_|refine TO ari (λhlt=>?_)|refine Tz ari ari ?_|refine T0 (Ap _ _) rfl rfl rfl rfl rfl ?_|refine tB ?_ ?_|intro h)<;>conv=>whnf)
      all_goals first
        |(rw[NB (k:=k) ari ari (by first|(simpa using h)|(exfalso;assumption)),Bool.and_false];done)
        | (refine aW.mk ⟨k + 1, ⟨ari, E7 hall fun h1 h2 => by simpa using h⟩, ari, ?_, Tx⟩
           exact hds)
        | (have hkk : k = a.length := ari
           rw[Ie hlen λj h1 h2=>hall j ac h1 h2];rfl)
theorem yk(a b:List DJob)(ha:a.length<=9223372036854775806):aM av 211 [.one (.sl (a.map DJob.ds)),.one (.sl (b.map DJob.ds))] (rB (bu a&&bu b&&decide (a=b))):=by
  refine pO func211 call211 ntmps211 results211 λS=>?_;conv=>whnf
  repeat'((first|refine awz ?_|refine cP (dH a) ?_|refine cP (dH b) ?_|refine tB ?_ ?_|intro h)<;>conv=>whnf)
  · refine dh ?_;have e:bu a=false:=by simp_all
    rw[e];rfl
  · refine dh ?_;have e:bu b=false:=by simp_all
    rw[e,Bool.and_false];rfl
  · rw[IL aq,Bool.and_false]
  · have hlen:a.length=b.length:=aq;have ea:bu a=true:=by simp_all
    have eb:bu b=true:=by simp_all
    rw[ea,eb];refine TE (λk:Nat=>k<=a.length/\∀(j:Nat) (hj:j<k) (h1:j<a.length) (h2:j<b.length),a[j]=b[j]) (4::5::rg 21 15) (λk=>[(5,vI .i64 (k:Int))]) (λ_=>[]) (λk=>a.length-k) 0 ⟨ac,ac⟩ ?_ Tx (λk hR=>?_)<;>(conv=>whnf)
    · exact whd
    · obtain⟨hk,hall⟩:=hR;repeat'((first|refine awz ?_|refine TB aL 6 8 db bX ae ae ae rfl ?_|refine TO ari (λhlt=>?_)|refine Tz ari ari ?_|refine T0 (CS _ _) rfl rfl rfl rfl rfl ?_|refine tB ?_ ?_|intro h)<;>conv=>whnf)
      all_goals first
        |(rw[NB (k:=k) ari ari (by first|(simpa using h)|(exfalso;assumption)),Bool.and_false];done)
        | (refine aW.mk ⟨k + 1, ⟨ari, E7 hall fun h1 h2 => by simpa using h⟩, ari, ?_, Tx⟩
           exact hds)
        | (have hkk : k = a.length := ari
           rw[Ie hlen λj h1 h2=>hall j ac h1 h2];rfl)
theorem mF(h:a9 s=true):bo s.pairs=true/\bu s.jobs=true:=by
  simp only[a9,Bool.and_eq_true]at h;exact⟨h.1.1.1.2,h.1.1.2⟩
theorem wl(a b:DState)(ha:a.pairs.length<=9223372036854775806)(hb:b.pairs.length<=9223372036854775806)(hj:a.jobs.length<=9223372036854775806):aM av 157 [.agg a.ds,.agg b.ds] (rB (a9 a&&a9 b&&decide (a=b))):=by
  refine pO func157 call157 ntmps157 results157 λS=>?_;conv=>whnf
  repeat'((first|refine awz ?_|refine cP (di a ha) ?_|refine cP (di b hb) ?_|refine cP (wj a.pairs b.pairs ha) ?_|refine cP (yk a.jobs b.jobs hj) ?_|refine T0 (xJ a.lease b.lease) rfl rfl rfl rfl rfl ?_|refine tB ?_ ?_|intro h)<;>conv=>whnf)
  all_goals
    refine dh ?_;obtain⟨i1,t1,p1,j1,l1⟩:=a;obtain⟨i2,t2,p2,j2,l2⟩:=b;first
      | (have q1 := mF (s := ⟨i1, t1, p1, j1, l1⟩) am
         have q2:=mF (s:=⟨i2,t2,p2,j2,l2⟩) am;simp_all[DState.mk.injEq];done)
      | (have q1 := mF (s := ⟨i1, t1, p1, j1, l1⟩) am
         have q2:=mF (s:=⟨i2,t2,p2,j2,l2⟩) am;simp_all[DState.mk.injEq];rw[Bool.eq_iff_iff];simp;done)
      |(simp_all[DState.mk.injEq];done)
      |(simp_all[DState.mk.injEq];rw[Bool.eq_iff_iff];simp;done)
theorem ye:aM av 158 [] (.val (.agg fb.ds)):=by
  refine pO func158 call158 ntmps158 results158 λS=>?_;conv=>whnf
  repeat'(first|refine awz ?_|fail)
  all_goals rfl
theorem MJ{s:DStore}{b:Bool}(h:(cS s.disk&&a9 s.state&&aI s.num 0 1000000000&&aI s.last 0 s.state.index&&((s.num==0)==(s.last==0))&&(s.busy==0||(decide (s.num<1000000000)&&decide (s.last<s.busy)&&decide (s.busy<=s.state.index))))=b):b=storeOk s:=h.symm
theorem fV(s:DStore)(hs:s.state.pairs.length<=9223372036854775806):aM av 102 [.agg s.ds] (rB (storeOk s)):=by
  refine pO func102 call102 ntmps102 results102 λS=>?_;conv=>whnf
  repeat'((first|refine awz ?_|refine Tz (by simp_all[aI,a9];omega) (by simp_all[aI,a9];omega) ?_|refine cP (gX s.disk) ?_|refine cP (di s.state hs) ?_|refine cP (aN _ _ _) ?_|refine tB ?_ ?_|intro h)<;>conv=>whnf)
  all_goals
    refine dh (MJ ?_);first
      |(simp_all;done)
      |(simp_all;omega)
      |(simp_all[aI];rw[Bool.eq_iff_iff];simp;omega)
end
section
variable {b:Bool}{c:DClient}{k:Nat}
def lJ:List (List Nat):=a8 [0,1,129,12354,1056835,84676740,1056835,416645656903,17730751197510,0x91851c80c1084,0x2840810c81c5189,0xb24614720304210a,0x30a10204320714624b,0xa10204320714624d2cc,0x38c2cd24614720304210a,0xf2840810c81c518934b30e,0x40e30b3491851c80c108428f,0x113ca10204320714624d2cc390,0x3ca10204320714624d2cc392411,0x1345048e30b3491851c80c108428f,0x50f2840810c81c518934b30e490453,0x154d141238c2cd24614720304210a3d4,0x5943ca10204320714624d2cc3924114d5,0x143ca10204320714624d2cc3924114d7556,0x6165574d141238c2cd24614720304210a3d4]
def lL:List (List Nat):=dN 7 [0,1,4,13,1498,1579,688]
def rG:List (List Nat):=a8 [0,1,129,12354,1056835,84676740,6510088389,486455648518,84676740,9731313861,692614078729,0x81840810c51cb24a,0x14304210c2892c7188,0xd2061cb24a3040810c5,0x3850c108430a24b1c620d,0xf3481872c928c10204314e,0x40e14304210c2892c718834f,0xe14304210c2892c71883513d0,0x4903d13481872c928c10204314e,0x133850c108430a24b1c620d44f412,0x51240f44d2061cb24a3040810c5393,0x154ce14304210c2892c71883513d0494,0x4ce14304210c2892c71883513d0496515,0x1755459240f44d2061cb24a3040810c5393]
def rR:List (List Nat):=dN 11 [0,1,4,13,40,170707,170950,171679,6439,13000,32683]
def nG:List (List Nat):=a8 [0,1,0,8259,1060930,0,6,0,29064,2392455,0,11,0,0x50810c428718824c2cd,0x38d2cc2481872840c1085]
def nL:List (List Nat):=dN 13 [1594098,1594099,1594088,1594093,1594120,1539890,1540133,1537460,1538675,1545236,1121930,1180979,531440]
theorem Ob{a b:DStore}:a=b↔(a.disk=b.disk/\a.state=b.state/\a.num=b.num/\a.last=b.last/\a.busy=b.busy):=by
  cases a;cases b;simp[DStore.mk.injEq]
theorem MG:a9 fb=true:=by decide
theorem QR(s:DState):(a9 s&&a9 fb&&decide (s=fb))=decide (s=fb):=by
  by_cases h:s=fb
  · simp[h,MG]
  · simp[h]
theorem p8(s:DStore)(hs:s.state.pairs.length<=9223372036854775806)(hj:s.state.jobs.length<=9223372036854775806):aM av 103 [.agg s.ds] (rB (fk s)):=by
  refine pO func103 call103 ntmps103 results103 λS=>?_;conv=>whnf
  repeat'((first|refine awz ?_|refine TB aL 1 7 lJ lL ae ae ae rfl ?_|refine cP (cG s.disk) ?_|refine cP (ye) ?_|refine cP (wl s.state fb hs ah hj) ?_|refine tB ?_ ?_|intro h)<;>conv=>whnf)
  all_goals
    refine dh ?_;try simp only[QR]at*
    rw[Bool.eq_iff_iff];simp[fk,Ob];simp_all
theorem yo(s:DStore)(up:Bool)(hs:s.state.pairs.length<=9223372036854775806)(hj:s.state.jobs.length<=9223372036854775806):aM av 73 [.agg s.ds,.one (dB up)] (rB (if up then storeOk s else fk s)):=by
  refine pO func73 call73 ntmps73 results73 λS=>?_;conv=>whnf
  repeat'((first|refine awz ?_|refine cP (fV s hs) ?_|refine cP (p8 s hs hj) ?_|refine tB ?_ ?_|intro h)<;>conv=>whnf)
  all_goals
    refine dh ?_;simp_all
def l13(k:Int):Int:=if k==1 then 1 else if k==2 then 2 else if k==3 then 3 else 0
theorem Hp(k:Int):aM av 137 [.one (dI k)] (.val (pI (l13 k))):=by
  refine pO func137 call137 ntmps137 results137 λS=>?_;conv=>whnf
  repeat'(first|refine awz ?_|refine tB ?_ ?_|(intro h;conv=>whnf))
  all_goals simp_all[l13]
theorem Dj(w:DWant):aM av 93 [.agg w.ds] (rB (eC w)):=by
  refine pO func93 call93 ntmps93 results93 λS=>?_;conv=>whnf
  repeat'((first|refine awz ?_|refine TB aL 3 11 rG rR ae ae ae rfl ?_|refine cP (gE w.op) ?_|refine cP (oz _) ?_|refine cP (Hp w.kind) ?_|refine T0 (z4 w.op op0) rfl rfl rfl rfl rfl ?_|refine tB ?_ ?_|intro h)<;>conv=>whnf)
  all_goals
    refine dh ?_;first
      |(simp_all[eC,op0,l13];done)
      |(by_cases k1:w.kind=1<;>by_cases k2:w.kind=2<;>by_cases k3:w.kind=3<;>simp_all[eC,op0,l13])
theorem Sb(x:Int):aI x 0 1=(x==0||x==1):=by
  rw[Bool.eq_iff_iff];simp[aI];omega
theorem Dk(w:DWant)(g:DGot)(q l:Int):aM av 94 [.agg w.ds,.agg g.ds,.one (dI q),.one (dI l)] (rB (pS w g q l)):=by
  refine pO func94 call94 ntmps94 results94 λS=>?_;conv=>whnf
  repeat'((first|refine awz ?_|refine cP (aN _ _ _) ?_|refine cP (km _) ?_|refine tB ?_ ?_|intro h)<;>conv=>whnf)
  all_goals
    refine dh ?_;try simp only[Sb]at*
    first
      |(simp_all[pS];done)
      | (have e0 : aI 0 0 999 = true := by decide
         rw[Bool.eq_iff_iff];simp_all[pS,aI];omega)
theorem Ed{α:Type}{l:List α}{d:α}(h:k<l.length):l.getD k d=l[k]:=by simp[List.getD_eq_getElem?_getD,h]
def clG(c:DClient)(k:Nat):Bool:=pS (c.todo.getD k ⟨0,op0,0⟩) (c.gots.getD k ⟨0,0,0,0⟩) ((k:Int)+1) (jB c.gots k)
theorem Ng{l:Int}(h1:k<c.todo.length)(h2:k<c.gots.length)(hl:l=jB c.gots k)(h:pS c.todo[k] c.gots[k] ((k:Int)+1) l=b):clG c k=b:=by
  rw[<-h,hl];simp only[clG,Ed h1,Ed h2]
theorem LG(h2:k<c.gots.length):c.gots[k].index=jB c.gots (k+1):=by
  simp only[jB,Ed h2]
theorem H4(h:((c.id==4||c.id==5)&&c.todo.all eC&&decide (c.todo.length<=12)&&decide (c.gots.length<=c.todo.length))=false):cr c=false:=by simp only[cr,h,Bool.false_and]
theorem H5(hk:k<c.gots.length)(h:clG c k=false):cr c=false:=by
  have:=Ox (ok:=clG c) hk h;simp only[cr];unfold clG at this;rw[this];simp
theorem DX(h:((c.id==4||c.id==5)&&c.todo.all eC&&decide (c.todo.length<=12)&&decide (c.gots.length<=c.todo.length))=true)(ha:∀k,k<c.gots.length->clG c k=true)(hb:(c.last==jB c.gots c.gots.length)=b):cr c=b:=by
  have:=Ft (ok:=clG c) ha;unfold clG at this;simp only[cr,h,this,hb,Bool.true_and]
theorem O5{p:Nat->Bool}(h:∀j,j<k->p j=true)(hk:p k=true):∀j,j<k+1->p j=true:=λj hj=>by
  rcases Nat.lt_succ_iff_lt_or_eq.1 hj with h1|h1
  · exact h j h1
  · rw[h1];exact hk
def vA(c:DClient):Bool:=(c.id==4||c.id==5)&&c.todo.all eC&&decide (c.todo.length<=12)&&decide (c.gots.length<=c.todo.length)
theorem NP(h:vA c=false):cr c=false:=H4 h
theorem dM(c:DClient)(ht:c.todo.length<=9223372036854775806)(hg:c.gots.length<=9223372036854775806):aM av 66 [.agg c.ds] (rB (cr c)):=by
  refine pO func66 call66 ntmps66 results66 λS=>?_;conv=>whnf
  repeat'(first|refine awz ?_|refine tB ?_ ?_|(intro h;conv=>whnf))
  all_goals first
    | (have hno : vA c = false := by (first | (simp_all [vA]; done) | (rw [← Bool.not_eq_true]; simp_all [vA]; done) | (rw [← Bool.not_eq_true]; simp_all [vA]; intros; omega))
       rw[NP hno];done)
    |skip
  all_goals
    have hpre0:((c.id==4||c.id==5)&&decide (c.todo.length<=12)&&decide (c.gots.length<=c.todo.length))=true:=by(first|(simp_all;done)|(simp_all;omega))
    have hle:c.gots.length<=c.todo.length:=by simp only[Bool.and_eq_true,decide_eq_true_iff]at hpre0;exact hpre0.2
    refine TE (λk:Nat=>k<=c.todo.length/\∀(j:Nat) (hj:j<k) (hl:j<c.todo.length),eC c.todo[j]=true) (2::3::rg 29 14) (λk=>[(3,vI .i64 (k:Int))]) (λ_=>[(1,.cells 71 (c.ds.map .d))]) (λk=>c.todo.length-k) 0 ⟨ac,ac⟩ ?_ sbW (λk hR=>?_)<;>(conv=>whnf)
    · exact whd
    · obtain⟨hk,hall⟩:=hR;repeat'((first|refine awz ?_|refine TO ari (λhlt=>?_)|refine Tz ari ari ?_|refine cP (Dj c.todo[k]) ?_|refine tB ?_ ?_|intro h)<;>conv=>whnf)
      all_goals first
        | (have hno:vA c=false:=by
             have:=ru (p:=eC) (k:=k) ari (by first|(simpa using h)|(exfalso;assumption));simp only[vA,this,Bool.and_false,Bool.false_and]
           rw[NP hno];done)
        | (refine aW.mk ⟨k + 1, ⟨ari, mf hall ari (by simp_all)⟩, ari, ?_, sbW⟩
           exact hds)
        |skip
      have hpre:vA c=true:=by
        have e:=o5 (p:=eC) hall ari;simp only[vA,e,Bool.and_true];exact hpre0
      refine TE (λg:Nat×Int=>g.1<=c.gots.length/\g.2=jB c.gots g.1/\∀j,j<g.1->clG c j=true) (2::4::5::rg 43 28) (λg=>[(4,vI .i64 g.2),(5,vI .i64 (g.1:Int))]) (λ_=>[(1,.cells 71 (c.ds.map .d))]) (λg=>c.gots.length-g.1) (0,0) ⟨ac,rfl,ac⟩ ?_ sbW (λg hR=>?_)<;>(conv=>whnf)
      · exact whd
      · obtain⟨hk,hl,hall⟩:=hR;repeat'((first|refine awz ?_|refine TB aL 12 13 nG nL ae ae ae rfl ?_|refine TO ari (λhlt=>?_)|refine Tz ari ari ?_|refine cP (Dk c.todo[g.1] c.gots[g.1] _ _) ?_|refine tB ?_ ?_|intro h)<;>conv=>whnf)
        all_goals first
          |(rw[H5 (k:=g.1) ari (Ng ari ari hl (by first|(simpa using h)|(exfalso;assumption)))];done)
          | (refine aW.mk ⟨(g.1 + 1, c.gots[g.1].index), ⟨ari, LG ari, O5 hall (Ng ari ari hl (by first | (simpa using h) | assumption | (exfalso; assumption)))⟩, ari, ?_, sbW⟩
             exact hds)
          | (have hkk : g.1 = c.gots.length := ari
             rw[DX hpre (λk hk'=>hall k ac) (by rw[<-hkk,<-hl])])
end
section
open Go.Shelf
variable {Bb Bd n₀:Nat}{W W':World}
attribute [local go_sem] Oper.semAt_some
def Sg(e:DEntry):Array Value:= #[.int .i64 e.index,.int .i64 e.time,.int .i64 e.client,.int .i64 e.seq,.int .i64 e.op.kind,.int .i64 e.op.a,.int .i64 e.op.b,.int .i64 e.op.c,.int .i64 e.op.d]
def lC(n₀ Bb Bd:Nat)(W W':World):Prop:=W.heap.size<=W'.heap.size/\∀k,(k<n₀\/k=Bb\/k=Bd)->W'.heap[k]? =W.heap[k]?
theorem lC.refl(W:World):lC n₀ Bb Bd W W:=⟨Nat.le_refl _,λ_ _=>rfl⟩
theorem lC.trans{A B C:World}(h:lC n₀ Bb Bd A B)(h':lC n₀ Bb Bd B C):lC n₀ Bb Bd A C:=⟨Nat.le_trans h.1 h'.1,λk hk=>(h'.2 k hk).trans (h.2 k hk)⟩
theorem lC.cell(h:lC n₀ Bb Bd W W'){p:Addr}(hk:p.block<n₀\/p.block=Bb\/p.block=Bd):W'.cell? p=W.cell? p:=by
 unfold World.cell?;rw[h.2 _ hk]
theorem lC.alloc(W:World)(o:Obj)(h0:n₀<=W.heap.size)(hb:Bb<W.heap.size)(hd:Bd<W.heap.size):lC n₀ Bb Bd W (W.alloc o):=
 ⟨by simp,λk hk=>Below.heap_alloc _ _ k ac⟩
def HD(n₀:Nat)(W:World)(A:Option Addr)(es:List DEntry):Prop:=es=[]\/∃b off,A=some ⟨b,off,none⟩/\b<n₀/\∀(k:Nat) (hk:k<es.length) (j:Nat) (u:Value),(Sg es[k])[j]? =some u->W.cell? ⟨b,off+k*9+j,none⟩=some u
theorem HD.keep{A:Option Addr}{es:List DEntry}(h:lC n₀ Bb Bd W W'):HD n₀ W A es->HD n₀ W' A es
 | .inl e=> .inl e
 | .inr ⟨b,off,e,hb,hc⟩=> .inr ⟨b,off,e,hb,λk hk j u hu=>(h.cell (p:=⟨b,off+k*9+j,none⟩) (.inl hb)).trans (hc k hk j u hu)⟩
end
open Go.Shelf
attribute [local go_sem] Oper.semAt_some
section
variable {b:Bool}{w:DWorld}
def qy:List (List Nat):=a8 [0,1,129,12354,1056835,84676740,6510088389,84676740,8657572037,623894601992,44534549721417,0x71430421062c920a,0x30a2092c6102043147,0x50c108434718b24828c,0x38c28824b1873440810c5,0xf14304210d1c62c920a30e,0x40e30a2092c61cd10204314f,0xf14304210d1c62c920a30e,0x48e30a2092c61cd10204314f,0x133c50c108434718b24828c392,0x51238c28824b1873440810c53d3,0x113c50c108434718b24828c390553494,0x59449355038c28824b1873440810c53d1,0xf14304210d1c62c920a30e5d14154d2516]
def qL:List (List Nat):=dN 21 [0,1,4,13,40,175081,175324,2065,4252,10813,30496,88573,265720,797161,2391484,10338387493,10352736400,121965709,251105872,638526361,1800787828]
def qz:List (List Nat):=a8 [0,1,0,3,259,20676,2165850309,486456451138,35322986508615,0x91c50c4181088,0x2880811840c51c9,0x91c50c4181088,0x3080811840c51c9,0xd24714310604220c,0x38c20204610314724d,0xb24714310604220a3cd30e,0x40e30d3ca20204610314724b,0x91c50c418108844b28f34c390]
def qM:List (List Nat):=dN 15 [720,721,8,17,44,125,364,1093,3280,14181601,14201284,167305,344452,875893,2470216]
theorem yq(h:w.up.length=6){k:Nat}(hk:k<6):(w.up.map eB)[k]? =some [dB (dy w k)]:=by
  have hl:k<w.up.length:=ac;rw[List.getElem?_map,List.getElem?_eq_getElem hl];simp[dy,List.getD_eq_getElem?_getD,hl]
theorem PQ(h:(((w.up.map eB).length:Int) !=6)=false):w.up.length=6:=by
  simp at h;omega
theorem Ds{n:DLogNode}(h:DLogNode.small 1048576 n):Fb n:=by
  obtain⟨⟨⟨h1,h2,h3,h4⟩,g1,g2,g3,g4⟩,k1,k2,k3,k4,k5⟩:=h;simp only[DHead.small,DBook.small]at k1 k2 k3;exact⟨ac,λy hy=>by have:=h2 y hy;omega,ac,λy hy=>by have:y.row.length<=1048576:=h4 y hy;omega,ac,λy hy=>by have:=g2 y hy;omega,ac,λy hy=>by have:y.row.length<=1048576:=g4 y hy;omega,ac,ac,ac,ac,ac⟩
def pW(two:DTwo):DLogNode:=⟨two,d8,d8,false,⟨0,0,[]⟩,[],0,[]⟩
theorem IH(n:DLogNode):iC n=(fc n.two&&decide (n=pW n.two)):=by
  show(fc n.two&&(n==pW n.two))=_;rw[yG]
theorem uo(n:DLogNode):aM av 101 [.agg n.ds] (rB (iC n)):=by
  rw[IH];refine pO func101 call101 ntmps101 results101 λS=>?_;conv=>whnf
  repeat'((first|refine awz ?_|refine cP (cZ n.two) ?_|refine cP (jK n.head) ?_|refine cP (jK n.nxt) ?_|refine tB ?_ ?_|intro h)<;>conv=>whnf)
  all_goals
    refine dh ?_;rw[Bool.eq_iff_iff];simp only[decide_eq_true_iff,Bool.and_eq_true,PS,pW,OB];simp_all
theorem Do(n:DLogNode)(up:Bool)(hs:Fb n):aM av 72 [.agg n.ds,.one (dB up)] (rB (if up then logOk n else iC n)):=by
  refine pO func72 call72 ntmps72 results72 λS=>?_;conv=>whnf
  repeat'((first|refine awz ?_|refine cP (l4 n hs.head hs.owe hs.seen hs.nxt) ?_|refine cP (uo n) ?_|refine tB ?_ ?_|intro h)<;>conv=>whnf)
  all_goals
    refine dh ?_;simp_all
theorem RW(h:(((w.up.map eB).length:Int) !=6)=true):¬w.up.length=6:=by
  simp at h;omega
theorem PJ(h:(((w.clocks.map eI).length:Int) !=6)=true):¬w.clocks.length=6:=by
  simp at h;omega
theorem Sc(h:(((w.clocks.map eI).length:Int) !=6)=false):w.clocks.length=6:=by
  simp at h;omega
theorem mg(w:DWorld):bz w=(cK w.clocks&&decide (w.up.length=6)&&dg w.net&&(dy w 4&&dy w 5&&cr w.ann&&w.ann.id==4&&cr w.bob&&w.bob.id==5)&&(cY w.left 2 (dy w 2)&&cY w.right 3 (dy w 3))&&(if dy w 0 then logOk w.log else iC w.log)&&(if dy w 1 then storeOk w.store else fk w.store)):=by
  simp only[bz,Bool.and_assoc]
theorem NF(h:(!b)=true):b=false:=by rwa[Bool.not_eq_true']at h
theorem As(h:(!b)=false):b=true:=by rwa[Bool.not_eq_false']at h
theorem cJ(w:DWorld)(hs:DWorld.small 1048576 w):aM av 57 [.agg w.ds] (rB (bz w)):=by
  obtain⟨s1,⟨_,s2⟩,s3,s4,s5,s6,s7,s8⟩:=hs;simp only[DState.small,DSched.small,DView.small,DJobs.small,DClient.small]at s2 s3 s4 s5 s6;refine pO func57 call57 ntmps57 results57 λS=>?_;conv=>whnf
  repeat'((first|refine awz ?_|refine Ty 4 _ rfl (yq (PQ am) ah) ?_|refine Ty 5 _ rfl (yq (PQ am) ah) ?_|refine tB ?_ ?_|intro h)<;>conv=>whnf)
  all_goals first
    | (have hno := RW h
       refine dh ?_;rw[mg];simp only[hno,decide_false,Bool.and_false,Bool.false_and];done)
    | (have hno := PJ h
       refine dh ?_;rw[mg];simp only[cK,hno,decide_false,Bool.and_false,Bool.false_and];done)
    | (refine dh ?_
       rw[mg];simp only[NF h,Bool.and_false,Bool.false_and];done)
    |skip
  have h6:w.up.length=6:=PQ am;have hc6:w.clocks.length=6:=Sc am;have u4:dy w 4=true:=by
    have:(!dy w 4)=false:=am;exact As this
  have u5:dy w 5=true:=As h;repeat'((first|refine awz ?_|refine TB aL 3 21 qy qL ae ae ae rfl ?_|refine TB aL 5 15 qz qM ae ae ae rfl ?_|refine Ty 0 _ rfl (yq h6 ah) ?_|refine Ty 1 _ rfl (yq h6 ah) ?_|refine Ty 2 _ rfl (yq h6 ah) ?_|refine Ty 3 _ rfl (yq h6 ah) ?_|refine cP (ww w.clocks hc6) ?_|refine cP (Do w.log _ (Ds s1)) ?_|refine cP (yo w.store _ ac ac) ?_|refine cP (mD w.left _ _) ?_|refine cP (mD w.right _ _) ?_|refine cP (dM w.ann ac ac) ?_|refine cP (dM w.bob ac ac) ?_|refine cP (fG w.net) ?_|refine tB ?_ ?_|intro h)<;>conv=>whnf)
  all_goals
    refine dh ?_;rw[mg];simp only[h6,u4,u5,decide_true,Bool.true_and,Bool.and_true];first
      |(simp only[NF h,Bool.false_and,Bool.and_false];done)
      | (have e := NF h
         rw[e];simp only[Bool.and_false,Bool.false_and];done)
      |(simp_all;done)
      | (have b1 : cK w.clocks = true := As am
         have b2:(if dy w 0=true then logOk w.log else iC w.log)=true:=As am;have b3:(if dy w 1=true then storeOk w.store else fk w.store)=true:=As am;have b4:cY w.left 2 (dy w 2)=true:=As am;have b5:cY w.right 3 (dy w 3)=true:=As am;have b6:cr w.ann=true:=am;have b7:(w.ann.id==4)=true:=am;have b8:cr w.bob=true:=am;have b9:(w.bob.id==5)=true:=am;simp only[b1,b2,b3,b4,b5,b6,b7,b8,b9,Bool.and_true,Bool.true_and])
end
def mJ:List (List Nat):=a8 [0,1,2,0,4,197,387,0x7185103081187]
def jO:List (List Nat):=a8 [0,1,0,0,4,323,0,0,8,25159,0,11,3187074,0xd30b28920718510308128d]
theorem om(d:DDisk)(h:bN d=true):aM av 197 [.agg d.ds] (.val (.agg (fD d).ds)):=by
 have n1:(!bN d)=false:=by rw[h];rfl
 refine pO func197 call197 ntmps197 results197 λS=>?_;conv=>whnf
 repeat'((first|refine awz ?_|refine cP (cG d) ?_|refine TA (MB d h) [(1001,8)] rfl rfl ?_|exact rZ|fail)<;>conv=>whnf)
theorem ku(t:DTwo)(h:fc t=true):aM av 141 [.agg t.ds] (.val (.agg (jr t).ds)):=by
 obtain⟨f1,f2,f3⟩:=dr h;have n1:(!fc t)=false:=by rw[h];rfl
 refine pO func141 call141 ntmps141 results141 λS=>?_;conv=>whnf
 repeat'(first|refine awz ?_|(refine cP (cZ t) ?_;conv=>whnf)|fail)
 (refine TD aL 3 (tkc [0,1,3,4] (onc [2,5,6,7] .done)) [(1,9980)] mJ ae ae ae ae (λRz=>?_);(conv=>whnf);intro bp0 up0;(conv=>whnf))
 repeat'((first|refine awz ?_|refine cP (om t.a f1) ?_|refine cP (om t.b f2) ?_|exact rZ|fail)<;>conv=>whnf)
theorem pA(t:DTwo)(a:Int)(r:List Int)(h:fc t=true)(h1:t.a.wait.length<60)(h2:t.b.wait.length<60)(ha:aI a 0 ((t.a.kept.length:Int)-1)=true)(hr:bm r=true)(hl:r.length<48):aM av 140 [.agg t.ds,pI a,.one (.sl (r.map eI))] (.tup [.agg (pR t a r).ds,.one (dB true)]):=by
 obtain⟨f1,f2,f3⟩:=dr h;have n1:(!fc t)=false:=by rw[h];rfl
 have ha2:aI a 0 ((t.b.kept.length:Int)-1)=true:=by rw[<-f3];exact ha
 have hs:=fx hr hl;have hz:(((List.map eI (r++[jg r])).length:Int)==0)=false:=al;have c1:=wq t.a a _ f1 h1 ha hs;have c2:=wq t.b a _ f2 h2 ha2 hs;refine pO func140 call140 ntmps140 results140 λS=>?_;conv=>whnf
 repeat'((first|refine awz ?_|refine cP (cZ t) ?_|refine cP (l6 r hr hl) ?_|refine cP (c1) ?_|refine cP (c2) ?_|exact rZ|fail)<;>conv=>whnf)
theorem yc(t:DTwo)(a:Int)(r:List Int)(h:fc t=true)(h1:t.a.wait.length<60)(h2:t.b.wait.length<60)(ha:aI a 0 ((t.a.kept.length:Int)-1)=true)(hr:bm r=true)(hl:r.length<48):aM av 95 [.agg t.ds,pI a,.one (.sl (r.map eI))] (.val (.agg (jr (pR t a r)).ds)):=by
 have hw:=DA h h1 h2 ha hr hl;refine pO func95 call95 ntmps95 results95 λS=>?_;conv=>whnf
 repeat'((first|refine awz ?_|refine cP (pA t a r h h1 h2 ha hr hl) ?_|refine cP (ku _ hw) ?_|exact rZ|fail)<;>conv=>whnf)
theorem pB(n:Nat)(h:1<=n/\n<=40):aM av 98 [pI (n:Int)] (.val (.agg (fU n).ds)):=by
 have n1:(!aI (n:Int) 1 40)=false:=by simp[aI];omega
 refine pO func98 call98 ntmps98 results98 λS=>?_;conv=>whnf
 repeat'(first|refine awz ?_|(refine cP (aN _ _ _) ?_;conv=>whnf)|fail)
 refine⟨n,rfl,rfl,Nat.le_trans (Nat.mul_le_mul_left _ h.2) ah,ac,?_⟩;conv=>whnf
 repeat'(first|refine awz ?_|fail)
 all_goals(simp[fU,DDisk.ds,cW];done)
theorem Dd(n:Nat)(h:1<=n/\n<=40):aM av 96 [pI (n:Int)] (.val (.agg (⟨fU n,fU n⟩:DTwo).ds)):=by
 refine pO func96 call96 ntmps96 results96 λS=>?_;conv=>whnf
 repeat'(first|refine awz ?_|(refine cP (pB n h) ?_;conv=>whnf)|exact rZ|fail)
theorem A6:aM av 97 [.agg d8.ds] (.val (.one (.sl (wH.map eI)))):=by
 have n1:(!cT d8)=false:=ah;refine pO func97 call97 ntmps97 results97 λS=>?_;conv=>whnf
 repeat'(first|refine awz ?_|(refine cP (fF d8 (by simp[d8])) ?_;conv=>whnf)|fail)
 refine Ub 5 ?_;conv=>whnf
 repeat'((first|refine awz ?_|refine cP (ia [] _ rfl) ?_|refine Tz ah ah ?_|refine aQ an ?_|exact rZ|fail)<;>conv=>whnf)
def it:DDisk:=fD (jN (fU 22) 0 OL)
theorem A7:aM av 68 [] (.val (.agg (⟨it,it⟩:DTwo).ds)):=by
 have h:=pi (n:=22) ac;have c:=yc ⟨fU 22,fU 22⟩ 0 wH (oC ⟨h,h,rfl⟩) ah ah ah vh ah;refine pO func68 call68 ntmps68 results68 λS=>?_;conv=>whnf
 repeat'((first|refine awz ?_|refine cP (Dd 22 ac) ?_|refine cP (A6) ?_|refine cP (c) ?_|exact rZ|fail)<;>conv=>whnf)
theorem Db:aM av 53 [] (.val (.agg (pW ⟨it,it⟩).ds)):=by
 refine pO func53 call53 ntmps53 results53 λS=>?_;conv=>whnf
 repeat'(first|refine awz ?_|(refine cP (A7) ?_;conv=>whnf)|exact rZ|fail)
theorem yd:aM av 69 [] (.val (.agg (fU 8).ds)):=by
 refine pO func69 call69 ntmps69 results69 λS=>?_;conv=>whnf
 repeat'(first|refine awz ?_|(refine cP (pB 8 ac) ?_;conv=>whnf)|exact rZ|fail)
def vX:DStore:=⟨fU 8,fb,0,0,0⟩
theorem yf:aM av 54 [] (.val (.agg vX.ds)):=by
 refine pO func54 call54 ntmps54 results54 λS=>?_;conv=>whnf
 repeat'(first|refine awz ?_|(refine cP (yd) ?_;conv=>whnf)|exact rZ|fail)
theorem sL:aM av 55 [pI 2] (.val (.agg (fW 2).ds)):=by
 refine pO func55 call55 ntmps55 results55 λS=>?_;conv=>whnf
 repeat'(first|refine awz ?_|(refine cP (eO _) ?_;conv=>whnf)|exact rZ|fail)
theorem sM:aM av 55 [pI 3] (.val (.agg (fW 3).ds)):=by
 refine pO func55 call55 ntmps55 results55 λS=>?_;conv=>whnf
 repeat'(first|refine awz ?_|(refine cP (eO _) ?_;conv=>whnf)|exact rZ|fail)
theorem Dc:aM av 56 [] (.val (.agg (⟨[],[]⟩:DNet).ds)):=by
 refine pO func56 call56 ntmps56 results56 λS=>?_;conv=>whnf
 repeat'(first|refine awz ?_|exact rZ|fail)
theorem pG(x:DClient)(hs:DClient.small 1048576 x):aM av 67 [.agg x.ds] (.val (.agg x.ds)):=by
 obtain⟨h1,h2⟩:=(show x.todo.length<=1048576/\x.gots.length<=1048576 from hs);refine pO func67 call67 ntmps67 results67 λS=>?_;conv=>whnf
 repeat'(first|refine awz ?_|fail)
 (refine TD aL 1 (tkc [0,1,3,4,7,8,10,11] (.two 2 (.two 5 (onc [6,9,12,13] .done) 6 (onc [5,9,12,13] .done)) 6 (onc [2,5,9,12,13] .done))) [(1,9980)] jO ae ae ae ae (λRz=>?_);(conv=>whnf);intro bp0 up0;(conv=>whnf))
 repeat'((first|refine awz ?_|refine aP (by first|(intro y hy;obtain⟨a,_,rfl⟩:=List.mem_map.1 hy;rfl)|(simp;done)) ?_|refine aQ an ?_|exact rZ|refine tW ?_ ?_|fail)<;>conv=>whnf)
def dU(id:Int)(l:List DWant):DClient:=let c:DClient:=⟨id,l,[],0⟩;if cr c then c else⟨0,[],[],0⟩
theorem wh(id:Int)(l:List DWant)(h:l.length<=1048576):aM av 52 [pI id,.one (.sl (l.map DWant.ds))] (.val (.agg (dU id l).ds)):=by
 have hs:DClient.small 1048576 ⟨id,l,[],0⟩:=⟨h,by simp⟩;cases hc:cr ⟨id,l,[],0⟩with
 |false=>
  have n1:(!cr ⟨id,l,[],0⟩)=true:=by rw[hc];rfl
  have e:dU id l=⟨0,[],[],0⟩:=by simp[dU,hc]
  rw[e];refine pO func52 call52 ntmps52 results52 λS=>?_;conv=>whnf
  repeat'(first|refine awz ?_|(refine cP (dM ⟨id,l,[],0⟩ ao ai) ?_;conv=>whnf)|exact rZ|fail)
 |true=>
  have n1:(!cr ⟨id,l,[],0⟩)=false:=by rw[hc];rfl
  have e:dU id l=⟨id,l,[],0⟩:=by simp[dU,hc]
  rw[e];refine pO func52 call52 ntmps52 results52 λS=>?_;conv=>whnf
  repeat'((first|refine awz ?_|refine cP (dM ⟨id,l,[],0⟩ ao ai) ?_|refine cP (pG ⟨id,l,[],0⟩ hs) ?_|exact rZ|fail)<;>conv=>whnf)
def pk(ann bob:List DWant):DWorld:=⟨pW ⟨it,it⟩,vX,fW 2,fW 3,dU 4 ann,dU 5 bob,⟨[],[]⟩,[0,0,0,0,0,0],[true,true,true,true,true,true]⟩
section
variable {a:Int}{k:List (List Int)}{l:List DWrite}
def jp:List (List Nat):=a8 [0,1,0,0,4,324,811269,118768003,8873454354759]
def jw:List (List Nat):=dN 8 [6552,6553,710,26,53,134,368,1097]
def Ex(o:Option (List Int)):AP:= .tup [.one (.sl ((o.getD []).map eI)),.one (dB o.isSome)]
theorem Bz{l:List Int}(h:bm l=false\/l=[]\/jg l.dropLast≠l.getLastD 0):jW l=none:=by
 unfold jW;rcases h with h|h|h
 ·simp[h]
 ·simp[h]
 ·have:(jg l.dropLast==l.getLastD 0)=false:=by simpa using h
  rw[this,Bool.and_false];rfl
theorem sO(l:List Int):aM av 128 [.one (.sl (l.map eI))] (Ex (jW l)):=by
 cases hr:bm l with
 |false=>
  have n1:(!bm l)=true:=by rw[hr];rfl
  rw[Bz (.inl hr)];unfold Ex;refine pO func128 call128 ntmps128 results128 λS=>?_;conv=>whnf
  repeat'(first|refine awz ?_|(refine cP (bM l) ?_;conv=>whnf)|exact rZ|fail)
 |true=>
  have n1:(!bm l)=false:=by rw[hr];rfl
  by_cases hn:l=[]
  ·have n2:(((l.map eI).length:Int)==0)=true:=by simp[hn]
   rw[Bz (.inr (.inl hn))];unfold Ex;refine pO func128 call128 ntmps128 results128 λS=>?_;conv=>whnf
   repeat'(first|refine awz ?_|(refine cP (bM l) ?_;conv=>whnf)|exact rZ|fail)
  ·have n2:(((l.map eI).length:Int)==0)=false:=by simp[hn]
   have hpos:0<l.length:=List.length_pos_iff.2 hn;have h48:=dl hr;have hd:bm l.dropLast=true:=C9 hr ai (λx hx=>List.dropLast_subset _ hx);have hcut:((l.map eI).take (l.length-1)).drop 0=l.dropLast.map eI:=by rw[List.drop_zero,<-List.map_take,List.dropLast_eq_take]
   have hlast:(l.map eI)[l.length-1]? =some (eI (l.getLastD 0)):=by
    rw[List.getElem?_map,<-List.getLast?_eq_getElem?,List.getLast?_eq_some_getLast hn,List.getLastD_eq_getLast?,List.getLast?_eq_some_getLast hn];rfl
   have so:=Be l.dropLast hd;have hdl:l.dropLast.length<=1048576:=al;by_cases hs:jg l.dropLast=l.getLastD 0
   ·have e:jW l=some l.dropLast:=by
     unfold jW;have e2:l.isEmpty=false:=by simpa using hn
     rw[hr,e2,hs];simp
    have n3:(!(jg l.dropLast==l.getLastD 0))=false:=by simp[hs]
    rw[e];unfold Ex;refine pO func128 call128 ntmps128 results128 λS=>?_;conv=>whnf
    repeat'((first|refine awz ?_|refine cP (bM l) ?_|(refine⟨0,l.length-1,rfl,(by show _=_;simp;omega),Nat.zero_le _,ai,(by intro y hy;obtain⟨a,_,rfl⟩:=List.mem_map.1 hy;rfl),?_⟩;rw[hcut])|refine cP (cH l.dropLast hdl) ?_|refine Tz ari ari ?_|fail)<;>conv=>whnf)
    (refine TB aL 4 8 jp jw ae ae ae rfl ?_;conv=>whnf)
    repeat'((first|refine awz ?_|refine cP (so) ?_|refine Ty (l.length-1) _ al hlast ?_|refine Tz ari ari ?_|exact rZ|fail)<;>conv=>whnf)
    done
   ·have n3:(!(jg l.dropLast==l.getLastD 0))=true:=by simpa using hs
    rw[Bz (.inr (.inr hs))];unfold Ex;refine pO func128 call128 ntmps128 results128 λS=>?_;conv=>whnf
    repeat'((first|refine awz ?_|refine cP (bM l) ?_|(refine⟨0,l.length-1,rfl,(by show _=_;simp;omega),Nat.zero_le _,ai,(by intro y hy;obtain⟨a,_,rfl⟩:=List.mem_map.1 hy;rfl),?_⟩;rw[hcut])|refine cP (cH l.dropLast hdl) ?_|refine Tz ari ari ?_|fail)<;>conv=>whnf)
    (refine TB aL 4 8 jp jw ae ae ae rfl ?_;conv=>whnf)
    repeat'((first|refine awz ?_|refine cP (so) ?_|refine Ty (l.length-1) _ al hlast ?_|refine Tz ari ari ?_|exact rZ|fail)<;>conv=>whnf)
    done
theorem LY{j:Nat}(hj:j<l.length)(h1:l[j].at_=a)(h2:∀(i:Nat) (hi:i<l.length),j<i->l[i].at_≠a):C2 k l a=l[j].row:=by
 have e:l.reverse.find? (λw=>w.at_==a)=some l[j]:=by
  have e0:l=l.take j++l[j]::l.drop (j+1):=by rw[<-List.drop_eq_getElem_cons hj,List.take_append_drop]
  have hn:(l.drop (j+1)).reverse.find? (λw=>w.at_==a)=none:=by
   rw[List.find?_eq_none];intro w hw;obtain⟨i,hi,rfl⟩:=List.getElem_of_mem (List.mem_reverse.1 hw);rw[List.getElem_drop];simp only[List.length_drop]at hi;have:=h2 (j+1+i) ac ac;simpa using this
  conv=>lhs;rw[e0]
  rw[List.reverse_append,List.reverse_cons,List.append_assoc,List.find?_append,hn];simp[h1]
 unfold C2;rw[e]
theorem IZ(h:∀(i:Nat) (hi:i<l.length),l[i].at_≠a):C2 k l a=k.getD a.toNat []:=by
 have e:l.reverse.find? (λw=>w.at_==a)=none:=by
  rw[List.find?_eq_none];intro w hw;obtain⟨i,hi,rfl⟩:=List.getElem_of_mem (List.mem_reverse.1 hw);simpa using h i hi
 unfold C2;rw[e]
theorem xm(d:DDisk)(a:Int)(h:bN d=true)(ha:aI a 0 ((d.kept.length:Int)-1)=true):aM av 306 [.agg d.ds,pI a] (.tup [.one (.sl ((my d a).map eI)),.one (dB true)]):=by
 obtain⟨f1,f2,f3,f4,f5⟩:=cz h;have n1:(!bN d)=false:=by rw[h];rfl
 have n2:(!aI a 0 ((d.kept.length:Int)-1))=false:=by rw[ha];rfl
 have har:0<=a/\a<=(d.kept.length:Int)-1:=by simpa[aI]using ha
 refine pO func306 call306 ntmps306 results306 λS=>?_;conv=>whnf
 repeat'((first|refine awz ?_|refine cP (cG d) ?_|refine cP (dn d a f2) ?_|refine Tz ari ari ?_|fail)<;>conv=>whnf)
 refine TE (λk:Nat=>k<=d.wait.length/\∀(i:Nat) (hi:i<d.wait.length),k<=i->d.wait[i].at_≠a) (4::5::6::rg 21 19) (λk=>[(6,vI .i64 ((k:Int)-1))]) (λk=>[(2,.cells 39 (d.ds.map .d))]) (λk=>k) (d.wait.map DWrite.ds).length ⟨by simp,λi hi hk=>by simp at hk;omega⟩ ?_ sbW (λk hk=>?_)<;>(conv=>whnf)
 ·exact whd
 ·obtain⟨hk,hall⟩:=hk;cases k with
  |zero=>
   have hc:decide (((0:Nat):Int)-1>=0)=false:=ah;have e:my d a=d.kept[a.toNat]'(ac):=by
    show C2 d.kept d.wait a=_;rw[IZ λi hi=>hall i hi (Nat.zero_le _),List.getD_eq_getElem?_getD,List.getElem?_eq_getElem ac];first|rfl|done
   have h48:=dl (f4 _ (List.getElem_mem (show a.toNat<d.kept.length by omega)));rw[e];repeat'((first|refine awz ?_|refine AIx.int har.1 ac ?_|refine cP (cH (d.kept[a.toNat]'(ac)) ac) ?_|exact rZ|fail)<;>conv=>whnf)
  |succ k=>
   have hlt:k<d.wait.length:=ac;have hc:decide ((((k+1:Nat):Int)-1)>=0)=true:=by simp only[decide_eq_true_eq,ge_iff_le];omega
   have hix:(((k+1:Nat):Int)-1)=(k:Int):=ac;have h48:=dl (gn (f5 _ (List.getElem_mem hlt))).2;by_cases hw:d.wait[k].at_=a
   ·have e:my d a=d.wait[k].row:=LY hlt hw λi hi hki=>hall i hi hki;have hb:(d.wait[k].at_==a)=true:=by simpa using hw
    rw[e];repeat'((first|refine awz ?_|refine Ty k (DWrite.ds d.wait[k]) hix (by simp[hlt]) ?_|refine cP (cH d.wait[k].row ac) ?_|exact rZ|fail)<;>conv=>whnf)
   ·have hb:(d.wait[k].at_==a)=false:=by simpa using hw
    repeat'((first|refine awz ?_|refine Ty k (DWrite.ds d.wait[k]) hix (by simp[hlt]) ?_|refine Tz ac ac ?_|fail)<;>conv=>whnf)
    refine aW.mk ⟨k,⟨ac,λi hi hki=>?_⟩,ac,?_,sbW⟩
    ·rcases Nat.eq_or_lt_of_le hki with e|e
     ·subst e;exact hw
     ·exact hall i hi e
    ·rw[hix];exact hds
theorem Ba(a b:List Int)(ha:a.length<=1048576):aM av 322 [.one (.sl (a.map eI)),.one (.sl (b.map eI))] (rB (decide (a=b))):=by
 by_cases hl:a.length=b.length
 ·have n1:(((a.map eI).length:Int) !=((b.map eI).length:Int))=false:=by simp[hl]
  refine pO func322 call322 ntmps322 results322 λS=>?_;conv=>whnf
  repeat'(first|refine awz ?_|fail)
  refine TE (λk:Nat=>k<=a.length/\∀(j:Nat) (h1:j<a.length) (h2:j<b.length),j<k->a[j]=b[j]) (4::5::rg 11 15) (λk=>[(5,vI .i64 (k:Int))]) (λk=>[]) (λk=>a.length-k) 0 ⟨Nat.zero_le _,λj _ _ h=>by omega⟩ ?_ Tx (λk hk=>?_)<;>(conv=>whnf)
  ·exact whd
  ·obtain⟨hk,hall⟩:=hk;by_cases hlt:k<a.length
   ·have hlt2:k<b.length:=ac;have hc:decide ((k:Int)<((a.map eI).length:Int))=true:=by simp only[decide_eq_true_eq,List.length_map];omega
    by_cases he:a[k]=b[k]
    ·have hb:(a[k] !=b[k])=false:=by simpa using he
     repeat'(first|refine awz ?_|fail)
     (refine TB aL 6 8 db bX ae ae ae rfl ?_;conv=>whnf)
     repeat'((first|refine awz ?_|refine TJ hlt ?_|refine TJ hlt2 ?_|refine Tz ac ac ?_|fail)<;>conv=>whnf)
     refine aW.mk ⟨k+1,⟨ac,λj h1 h2 hj=>?_⟩,ac,?_,Tx⟩
     ·rcases Nat.eq_or_lt_of_le (Nat.le_of_lt_succ hj)with e|e
      ·subst e;exact he
      ·exact hall j h1 h2 e
     ·exact hds
    ·have hb:(a[k] !=b[k])=true:=by simpa using he
     have e:decide (a=b)=false:=by
      rw[decide_eq_false_iff_not];intro e;subst e;exact he rfl
     rw[e];repeat'(first|refine awz ?_|fail)
     (refine TB aL 6 8 db bX ae ae ae rfl ?_;conv=>whnf)
     repeat'((first|refine awz ?_|refine TJ hlt ?_|refine TJ hlt2 ?_|exact rZ|fail)<;>conv=>whnf)
   ·have hc:decide ((k:Int)<((a.map eI).length:Int))=false:=by simp only[decide_eq_false_iff_not,List.length_map];omega
    have e:decide (a=b)=true:=by
     rw[decide_eq_true_eq];exact List.ext_getElem hl λj h1 h2=>hall j h1 h2 ac
    rw[e];repeat'(first|refine awz ?_|exact rZ|fail)
 ·have n1:(((a.map eI).length:Int) !=((b.map eI).length:Int))=true:=by simp only[List.length_map,bne_iff_ne,ne_eq];omega
  have e:decide (a=b)=false:=by
   rw[decide_eq_false_iff_not];intro e;exact hl (by rw[e])
  rw[e];refine pO func322 call322 ntmps322 results322 λS=>?_;conv=>whnf
  repeat'(first|refine awz ?_|exact rZ|fail)
theorem A9(t:DTwo)(a:Int)(h:fc t=true)(ha:aI a 0 ((t.a.kept.length:Int)-1)=true):aM av 302 [.agg t.ds,pI a] (.val (.one (.sl ((gD t a).map cW)))):=by
 obtain⟨f1,f2,f3⟩:=dr h;have h40:=(cz f1).2.1;have n1:(!fc t)=false:=by rw[h];rfl
 have n2:(!aI a 0 ((t.a.kept.length:Int)-1))=false:=by rw[ha];rfl
 have c1:=xm t.a a f1 ha;have c2:=xm t.b a f2 (by rw[<-f3];exact ha);have u1:=sO (my t.a a);have u2:=sO (my t.b a);unfold gD;cases e1:jW (my t.a a)with
 |none=>
  rw[e1]at u1;cases e2:jW (my t.b a)with
  |none=>
   rw[e2]at u2;refine pO func302 call302 ntmps302 results302 λS=>?_;conv=>whnf
   repeat'((first|refine awz ?_|refine cP (cZ t) ?_|refine cP (dn t.a a h40) ?_|refine cP (c1) ?_|refine cP (c2) ?_|refine cP (u1) ?_|refine cP (u2) ?_|exact rZ|fail)<;>conv=>whnf)
  |some y=>
   rw[e2]at u2;refine pO func302 call302 ntmps302 results302 λS=>?_;conv=>whnf
   repeat'((first|refine awz ?_|refine cP (cZ t) ?_|refine cP (dn t.a a h40) ?_|refine cP (c1) ?_|refine cP (c2) ?_|refine cP (u1) ?_|refine cP (u2) ?_|refine aQ an ?_|exact rZ|fail)<;>conv=>whnf)
 |some x=>
  rw[e1]at u1;have hx:=dl (dY e1).1;cases e2:jW (my t.b a)with
  |none=>
   rw[e2]at u2;refine pO func302 call302 ntmps302 results302 λS=>?_;conv=>whnf
   repeat'((first|refine awz ?_|refine cP (cZ t) ?_|refine cP (dn t.a a h40) ?_|refine cP (c1) ?_|refine cP (c2) ?_|refine cP (u1) ?_|refine cP (u2) ?_|refine aQ an ?_|exact rZ|fail)<;>conv=>whnf)
  |some y=>
   rw[e2]at u2;have sr:=Ba x y ac;by_cases hxy:x=y
   ·have hb:(x==y)=true:=by simpa using hxy
    have hd:decide (x=y)=true:=by simpa using hxy
    rw[hd]at sr;simp only[hb,if_true];refine pO func302 call302 ntmps302 results302 λS=>?_;conv=>whnf
    repeat'((first|refine awz ?_|refine cP (cZ t) ?_|refine cP (dn t.a a h40) ?_|refine cP (c1) ?_|refine cP (c2) ?_|refine cP (u1) ?_|refine cP (u2) ?_|refine cP (sr) ?_|refine aQ an ?_|exact rZ|fail)<;>conv=>whnf)
   ·have hb:(x==y)=false:=by simpa using hxy
    have hd:decide (x=y)=false:=by simpa using hxy
    rw[hd]at sr;simp only[hb,if_false,Bool.false_eq_true];refine pO func302 call302 ntmps302 results302 λS=>?_;conv=>whnf
    repeat'((first|refine awz ?_|refine cP (cZ t) ?_|refine cP (dn t.a a h40) ?_|refine cP (c1) ?_|refine cP (c2) ?_|refine cP (u1) ?_|refine cP (u2) ?_|refine cP (sr) ?_|refine aQ an ?_|exact rZ|fail)<;>conv=>whnf)
end
section
variable {l:List Int}
def oP:List (List Nat):=a8 [0,1,0,3,0,5,0,7,2121986,0,10,11,49929,0xd30b28920718510308134d]
def qi:List (List Nat):=a8 [0,1,0,3,0,5,388,8642,0x207185103081208]
def ie:List (List Nat):=a8 [0,1,129,0,4,324,0,7,519,0,10,714,0,13,909,0x30421841491c830a2cf34e,0,0x1140e34f2ca3081c9144182043]
def ii:List (List Nat):=dN 17 [100442322,100442323,100442326,100441646,100441673,100441754,100423394,100424123,100426310,99930590,99950273,100009322,86624882,87156323,88750646,93267895,43046720]
theorem aZ{n:Nat}:∀{l:List Int},l.length=n+1->∃a r,l=a::r/\r.length=n
 |[],h=>by cases h
 |a::r,h=>⟨a,r,rfl,by simpa using h⟩
theorem Ai(h0:l.length=5):∃a b c d e,l=[a,b,c,d,e]:=by
 obtain⟨a,r1,rfl,h1⟩:=aZ h0;obtain⟨b,r2,rfl,h2⟩:=aZ h1;obtain⟨c,r3,rfl,h3⟩:=aZ h2;obtain⟨d,r4,rfl,h4⟩:=aZ h3;obtain⟨e,r5,rfl,h5⟩:=aZ h4;obtain rfl:=List.eq_nil_of_length_eq_zero h5;exact⟨a,b,c,d,e,rfl⟩
theorem Nw(h0:l.length=9):∃i t c s k a b x d,l=[i,t,c,s,k,a,b,x,d]:=by
 obtain⟨i,r1,rfl,h1⟩:=aZ h0;obtain⟨t,r2,rfl,h2⟩:=aZ h1;obtain⟨c,r3,rfl,h3⟩:=aZ h2;obtain⟨s,r4,rfl,h4⟩:=aZ h3;obtain⟨k,r5,rfl,h5⟩:=aZ h4;obtain⟨a,r6,rfl,h6⟩:=aZ h5;obtain⟨b,r7,rfl,h7⟩:=aZ h6;obtain⟨x,r8,rfl,h8⟩:=aZ h7;obtain⟨d,r9,rfl,h9⟩:=aZ h8;obtain rfl:=List.eq_nil_of_length_eq_zero h9;exact⟨i,t,c,s,k,a,b,x,d,rfl⟩
theorem IG(h0:l.length=11):∃i t c s k a b x d y z,l=[i,t,c,s,k,a,b,x,d,y,z]:=by
 obtain⟨i,r1,rfl,h1⟩:=aZ h0;obtain⟨t,r2,rfl,h2⟩:=aZ h1;obtain⟨c,r3,rfl,h3⟩:=aZ h2;obtain⟨s,r4,rfl,h4⟩:=aZ h3;obtain⟨k,r5,rfl,h5⟩:=aZ h4;obtain⟨a,r6,rfl,h6⟩:=aZ h5;obtain⟨b,r7,rfl,h7⟩:=aZ h6;obtain⟨x,r8,rfl,h8⟩:=aZ h7;obtain⟨d,r9,rfl,h9⟩:=aZ h8;obtain⟨y,r10,rfl,h10⟩:=aZ h9;obtain⟨z,r11,rfl,h11⟩:=aZ h10;obtain rfl:=List.eq_nil_of_length_eq_zero h11;exact⟨i,t,c,s,k,a,b,x,d,y,z,rfl⟩
theorem Ep(h0:l.length=13):∃n b t u v w p q s g f x y,l=[n,b,t,u,v,w,p,q,s,g,f,x,y]:=by
 obtain⟨n,r1,rfl,h1⟩:=aZ h0;obtain⟨b,r2,rfl,h2⟩:=aZ h1;obtain⟨t,r3,rfl,h3⟩:=aZ h2;obtain⟨u,r4,rfl,h4⟩:=aZ h3;obtain⟨v,r5,rfl,h5⟩:=aZ h4;obtain⟨w,r6,rfl,h6⟩:=aZ h5;obtain⟨p,r7,rfl,h7⟩:=aZ h6;obtain⟨q,r8,rfl,h8⟩:=aZ h7;obtain⟨s,r9,rfl,h9⟩:=aZ h8;obtain⟨g,r10,rfl,h10⟩:=aZ h9;obtain⟨f,r11,rfl,h11⟩:=aZ h10;obtain⟨x,r12,rfl,h12⟩:=aZ h11;obtain⟨y,r13,rfl,h13⟩:=aZ h12;obtain rfl:=List.eq_nil_of_length_eq_zero h13;exact⟨n,b,t,u,v,w,p,q,s,g,f,x,y,rfl⟩
def PK:DEntry:=⟨0,0,0,0,⟨0,0,0,0,0⟩⟩
def xd(o:Option DEntry):AP:= .tup [.agg (o.getD PK).ds,.one (dB o.isSome)]
def pOp(o:Option DOp):AP:= .tup [.agg (o.getD ⟨0,0,0,0,0⟩).ds,.one (dB o.isSome)]
def od(l:List Int):Option DOp:=match l with
 |[k,a,b,c,d]=>if lT ⟨k,a,b,c,d⟩then some ⟨k,a,b,c,d⟩else none
 |_=>none
theorem A8(o:DOp)(h:lT o=true):aM av 300 [.agg o.ds] (.val (.one (.sl ((opL o).map eI)))):=by
 have n1:(!lT o)=false:=by rw[h];rfl
 refine pO func300 call300 ntmps300 results300 λS=>?_;conv=>whnf
 repeat'(first|refine awz ?_|(refine cP (gE o) ?_;conv=>whnf)|exact rZ|fail)
theorem x8(e:DEntry)(h:bn e=true):cV av 275 [.agg (e.ds.map .d)] [] [(15,.row 2 1 ((uG e).map eI))] [] (.val (.one (.own 15))):=by
 have n1:(!bn e)=false:=by rw[h];rfl
 have ho:=(d6 h).2.2.2.2;refine bL aL func275 rfl call275 ntmps275 (WA results275) rfl λS pv=>?_;conv=>whnf
 repeat'(first|refine awz ?_|(refine cP (ba e) ?_;conv=>whnf)|fail)
 (refine TD aL 3 (tkc [0,1,2,3,4,5,6,7,9,10] (.two 8 (.one 11 (.one 12 (.take 13 .done))) 11 (.one 8 (.one 12 (.take 13 .done))))) [(1,9980)] oP ae ae ae ae (λRz=>?_);(conv=>whnf);intro bp0 up0;(conv=>whnf))
 repeat'((first|refine awz ?_|refine cP (A8 e.op ho) ?_|refine aP (by first|(intro y hy;obtain⟨a,_,rfl⟩:=List.mem_map.1 hy;rfl)|(simp;done)) ?_|refine aQ (by simp only[List.length_map,List.length_nil,List.length_append,List.length_cons,List.length_take,opL,uG]<;>omega) ?_|exact rZ|refine tW ?_ ?_|fail)<;>conv=>whnf)
 done
theorem uV(e:DEntry):aM av 255 [.agg e.ds] (.val (.one (.sl ((eA e).map eI)))):=by
 cases h:bn e with
 |false=>
  have n1:(!bn e)=true:=by rw[h];rfl
  have e1:eA e=[]:=by simp[eA,h]
  rw[e1];refine pO func255 call255 ntmps255 results255 λS=>?_;conv=>whnf
  repeat'(first|refine awz ?_|(refine cP (ba e) ?_;conv=>whnf)|exact rZ|fail)
 |true=>
  have n1:(!bn e)=false:=by rw[h];rfl
  have e1:eA e=uG e++[e.index,e.index]:=by simp[eA,h]
  rw[e1];refine pO func255 call255 ntmps255 results255 λS=>?_;conv=>whnf
  repeat'(first|refine awz ?_|(refine cP (ba e) ?_;conv=>whnf)|fail)
  (refine TD aL 3 (tkc [0,2,3,4,5] (.two 1 (.one 6 (.one 7 (.take 8 .done))) 6 (.one 1 (.one 7 (.take 8 .done))))) [(1,9980)] qi ae ae ae ae (λRz=>?_);(conv=>whnf);intro bp0 up0;(conv=>whnf))
  repeat'((first|refine awz ?_|refine TA (x8 e h) [(15,915)] rfl rfl ?_|refine aQ (by simp only[List.length_map,List.length_nil,List.length_append,List.length_cons,List.length_take,opL,uG]<;>omega) ?_|exact rZ|refine tW ?_ ?_|fail)<;>conv=>whnf)
  done
theorem Hc(l:List Int):aM av 270 [.one (.sl (l.map eI))] (pOp (od l)):=by
 by_cases hl:l.length=5
 ·obtain⟨k,a,b,c,d,rfl⟩:=Ai hl;cases ho:lT ⟨k,a,b,c,d⟩with
  |false=>
   have n1:(!lT ⟨k,a,b,c,d⟩)=true:=by rw[ho];rfl
   have e:od [k,a,b,c,d]=none:=by simp[od,ho]
   rw[e];unfold pOp;refine pO func270 call270 ntmps270 results270 λS=>?_;conv=>whnf
   repeat'(first|refine awz ?_|fail)
   (refine TB aL 3 17 ie ii ae ae ae rfl ?_;conv=>whnf)
   repeat'((first|refine awz ?_|refine Ty 0 _ rfl rfl ?_|refine Ty 1 _ rfl rfl ?_|refine Ty 2 _ rfl rfl ?_|refine Ty 3 _ rfl rfl ?_|refine Ty 4 _ rfl rfl ?_|refine cP (gE ⟨k,a,b,c,d⟩) ?_|exact rZ|fail)<;>conv=>whnf)
  |true=>
   have n1:(!lT ⟨k,a,b,c,d⟩)=false:=by rw[ho];rfl
   have e:od [k,a,b,c,d]=some ⟨k,a,b,c,d⟩:=by simp[od,ho]
   rw[e];unfold pOp;refine pO func270 call270 ntmps270 results270 λS=>?_;conv=>whnf
   repeat'(first|refine awz ?_|fail)
   (refine TB aL 3 17 ie ii ae ae ae rfl ?_;conv=>whnf)
   repeat'((first|refine awz ?_|refine Ty 0 _ rfl rfl ?_|refine Ty 1 _ rfl rfl ?_|refine Ty 2 _ rfl rfl ?_|refine Ty 3 _ rfl rfl ?_|refine Ty 4 _ rfl rfl ?_|refine cP (gE ⟨k,a,b,c,d⟩) ?_|exact rZ|fail)<;>conv=>whnf)
 ·have n1:(((l.map eI).length:Int) !=5)=true:=by simp only[List.length_map,bne_iff_ne,ne_eq];omega
  have e:od l=none:=by
   unfold od;split
   ·exact absurd rfl hl
   ·rfl
  rw[e];unfold pOp;refine pO func270 call270 ntmps270 results270 λS=>?_;conv=>whnf
  repeat'(first|refine awz ?_|exact rZ|fail)
end
section
variable {l:List Int}
def fM:List (List Nat):=a8 [0,1,129,0,4,324,0,7,519,0,10,714,0,0x30421841491c830a2cd,0,0xf38d2ca3081c9144182043]
def fP:List (List Nat):=dN 15 [11160234,11160235,11160238,11159558,11159585,11159666,11141306,11142035,11144222,10648502,10668185,10727234,10097378,10363099,4782968]
def bV:List (List Nat):=a8 [0,1,129,12354,1056835,84676740,6510088389,1056835,135008388,9731313864,0x1c50c108418a209,0x40810cb248286147,0x30714628824b0c1084,0xd1020432c920a1851cc,0x38c1c518a2092c304210d,0xf3440810cb24828614730e,0xd1020432c920a1851cc,0x44c1c518a2092c304210d,0x123440810cb248286147311,0x1038c1c518a2092c304210d3d3452,0x3440810cb2482861473144914cf390]
def bW:List (List Nat):=dN 19 [0,1,4,13,56902,56983,57226,2146,4333,10894,29524,88573,265720,1120011907,1121606230,1126389199,42249559,85296280,214436443]
theorem EC(h:l.length≠9):f9 l=none:=by
 unfold f9;split
 ·exact absurd rfl h
 ·rfl
theorem GL(h:l.length≠11):hN l=none:=by
 unfold hN;split
 ·exact absurd rfl h
 ·rfl
theorem GK(h:l.length≠13):iD l=none:=by
 unfold iD;split
 ·exact absurd rfl h
 ·rfl
theorem yj(l:List Int):aM av 277 [.one (.sl (l.map eI))] (xd (f9 l)):=by
 by_cases hl:l.length=9
 ·obtain⟨i,t,c,s,k,a,b,x,d,rfl⟩:=Nw hl;have ro:=Hc [k,a,b,x,d];cases ho:lT ⟨k,a,b,x,d⟩with
  |false=>
   have e:f9 [i,t,c,s,k,a,b,x,d]=none:=by simp[f9,bn,ho]
   have e2:od [k,a,b,x,d]=none:=by simp[od,ho]
   rw[e2]at ro;rw[e];unfold xd;refine pO func277 call277 ntmps277 results277 λS=>?_;conv=>whnf
   repeat'((first|refine awz ?_|refine⟨4,9,rfl,rfl,by decide,ai,(by intro y hy;obtain⟨a,_,rfl⟩:=List.mem_map.1 hy;rfl),?_⟩|refine cP (ro) ?_|fail)<;>conv=>whnf)
   (refine TB aL 4 15 fM fP ae ae ae rfl ?_;conv=>whnf)
   repeat'((first|refine awz ?_|refine Ty 0 _ rfl rfl ?_|refine Ty 1 _ rfl rfl ?_|refine Ty 2 _ rfl rfl ?_|refine Ty 3 _ rfl rfl ?_|exact rZ|fail)<;>conv=>whnf)
  |true=>
   have e2:od [k,a,b,x,d]=some ⟨k,a,b,x,d⟩:=by simp[od,ho]
   rw[e2]at ro;cases he:bn ⟨i,t,c,s,⟨k,a,b,x,d⟩⟩with
   |false=>
    have n1:(!bn ⟨i,t,c,s,⟨k,a,b,x,d⟩⟩)=true:=by rw[he];rfl
    have e:f9 [i,t,c,s,k,a,b,x,d]=none:=by simp[f9,he]
    rw[e];unfold xd;refine pO func277 call277 ntmps277 results277 λS=>?_;conv=>whnf
    repeat'((first|refine awz ?_|refine⟨4,9,rfl,rfl,by decide,ai,(by intro y hy;obtain⟨a,_,rfl⟩:=List.mem_map.1 hy;rfl),?_⟩|refine cP (ro) ?_|fail)<;>conv=>whnf)
    (refine TB aL 4 15 fM fP ae ae ae rfl ?_;conv=>whnf)
    repeat'((first|refine awz ?_|refine Ty 0 _ rfl rfl ?_|refine Ty 1 _ rfl rfl ?_|refine Ty 2 _ rfl rfl ?_|refine Ty 3 _ rfl rfl ?_|refine cP (ba ⟨i,t,c,s,⟨k,a,b,x,d⟩⟩) ?_|exact rZ|fail)<;>conv=>whnf)
   |true=>
    have n1:(!bn ⟨i,t,c,s,⟨k,a,b,x,d⟩⟩)=false:=by rw[he];rfl
    have e:f9 [i,t,c,s,k,a,b,x,d]=some ⟨i,t,c,s,⟨k,a,b,x,d⟩⟩:=by simp[f9,he]
    rw[e];unfold xd;refine pO func277 call277 ntmps277 results277 λS=>?_;conv=>whnf
    repeat'((first|refine awz ?_|refine⟨4,9,rfl,rfl,by decide,ai,(by intro y hy;obtain⟨a,_,rfl⟩:=List.mem_map.1 hy;rfl),?_⟩|refine cP (ro) ?_|fail)<;>conv=>whnf)
    (refine TB aL 4 15 fM fP ae ae ae rfl ?_;conv=>whnf)
    repeat'((first|refine awz ?_|refine Ty 0 _ rfl rfl ?_|refine Ty 1 _ rfl rfl ?_|refine Ty 2 _ rfl rfl ?_|refine Ty 3 _ rfl rfl ?_|refine cP (ba ⟨i,t,c,s,⟨k,a,b,x,d⟩⟩) ?_|exact rZ|fail)<;>conv=>whnf)
 ·have n1:(((l.map eI).length:Int) !=9)=true:=by simp only[List.length_map,bne_iff_ne,ne_eq];omega
  rw[EC hl];unfold xd;refine pO func277 call277 ntmps277 results277 λS=>?_;conv=>whnf
  repeat'(first|refine awz ?_|exact rZ|fail)
theorem Jx(l:List Int):aM av 323 [.one (.sl (l.map eI))] (xd (hN l)):=by
 by_cases hl:l.length=11
 ·obtain⟨i,t,c,s,k,a,b,x,d,y,z,rfl⟩:=IG hl;have re:=yj [i,t,c,s,k,a,b,x,d];by_cases hy:y=i
  ·have n1:(y !=i)=false:=by simpa using hy
   by_cases hz:z=i
   ·have n2:(z !=i)=false:=by simpa using hz
    have e:hN [i,t,c,s,k,a,b,x,d,y,z]=f9 [i,t,c,s,k,a,b,x,d]:=by simp[hN,f9,hy,hz]
    rw[e];unfold xd at re⊢;refine pO func323 call323 ntmps323 results323 λS=>?_;conv=>whnf
    repeat'(first|refine awz ?_|fail)
    (refine TB aL 1 19 bV bW ae ae ae rfl ?_;conv=>whnf)
    repeat'((first|refine awz ?_|refine Ty 0 _ rfl rfl ?_|refine Ty 9 _ rfl rfl ?_|refine Ty 10 _ rfl rfl ?_|refine⟨0,9,rfl,rfl,by decide,ai,(by intro y hy;obtain⟨a,_,rfl⟩:=List.mem_map.1 hy;rfl),?_⟩|refine cP (re) ?_|exact rZ|fail)<;>conv=>whnf)
   ·have n2:(z !=i)=true:=by simpa using hz
    have e:hN [i,t,c,s,k,a,b,x,d,y,z]=none:=by simp[hN,hz]
    rw[e];unfold xd;refine pO func323 call323 ntmps323 results323 λS=>?_;conv=>whnf
    repeat'(first|refine awz ?_|fail)
    (refine TB aL 1 19 bV bW ae ae ae rfl ?_;conv=>whnf)
    repeat'((first|refine awz ?_|refine Ty 0 _ rfl rfl ?_|refine Ty 9 _ rfl rfl ?_|refine Ty 10 _ rfl rfl ?_|exact rZ|fail)<;>conv=>whnf)
  ·have n1:(y !=i)=true:=by simpa using hy
   have e:hN [i,t,c,s,k,a,b,x,d,y,z]=none:=by simp[hN,hy]
   rw[e];unfold xd;refine pO func323 call323 ntmps323 results323 λS=>?_;conv=>whnf
   repeat'(first|refine awz ?_|fail)
   (refine TB aL 1 19 bV bW ae ae ae rfl ?_;conv=>whnf)
   repeat'((first|refine awz ?_|refine Ty 0 _ rfl rfl ?_|refine Ty 9 _ rfl rfl ?_|exact rZ|fail)<;>conv=>whnf)
 ·have n1:(((l.map eI).length:Int) !=11)=true:=by simp only[List.length_map,bne_iff_ne,ne_eq];omega
  rw[GL hl];unfold xd;refine pO func323 call323 ntmps323 results323 λS=>?_;conv=>whnf
  repeat'(first|refine awz ?_|fail)
  (refine TB aL 1 19 bV bW ae ae ae rfl ?_;conv=>whnf)
  repeat'(first|refine awz ?_|exact rZ|fail)
theorem tw(i:Int)(h:1<=i/\i<=2000):aM av 256 [pI i] (.val (pI (fX i))):=by
 have n1:(!aI i 1 2000)=false:=by simp[aI];omega
 have e:fX i=2+i.tmod 20:=by rw[fX,Int.tmod_eq_emod_of_nonneg ac]
 have hr:0<=i.tmod 20/\i.tmod 20<20:=by rw[Int.tmod_eq_emod_of_nonneg ac];omega
 rw[e];refine pO func256 call256 ntmps256 results256 λS=>?_;conv=>whnf
 repeat'((first|refine awz ?_|refine cP (fw i) ?_|refine And.intro ah ?_|refine Tz ac ac ?_|exact rZ|fail)<;>conv=>whnf)
theorem Mn(i:Int)(h:¬(1<=i/\i<=2000)):aM av 256 [pI i] (.val (pI (-1))):=by
 have n1:(!aI i 1 2000)=true:=by simp[aI];omega
 refine pO func256 call256 ntmps256 results256 λS=>?_;conv=>whnf
 repeat'(first|refine awz ?_|(refine cP (fw i) ?_;conv=>whnf)|exact rZ|fail)
end
end Go.Proofs.YtlmoekpinpafeaaGreat
