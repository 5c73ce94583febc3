/- AvJ4 -/
import Derived.Test.YtnlhpdbijmnkhaaGreatDoorAvJ3
import Derived.Lib.BufferWrite
set_option linter.unusedVariables false
set_option linter.unusedSimpArgs false
set_option maxRecDepth 100000
namespace Go.Proofs.YtnlhpdbijmnkhaaGreatDoor
open Go.RowKit
inductive AA where
 |one (c:AC)
 |agg (cs:List AC)
inductive AR where
 |val (a:AA)
 |tup (l:List AA)
def AA.v:AA->AV
 | .one c=> .one c
 | .agg cs=> .agg cs
def AR.v:AR->AV
 | .val a=>a.v
 | .tup l=> .tup (l.map AA.v)
def fh(w:World)(Z:Nat->Prop)(ρ:Nat->Value)(pre:List (Nat×AO)):aZ:=⟨w,λb=>∃id o,az pre id=some o/\aO (ρ id)=some b,Z⟩
structure a6 (E:aE) (f:FuncId) (args:List AA) (pre post:List (Nat×AO)) (keep:List Nat) (res:AR):Prop where
 enter:∀(us:Array Value) w,(callFunc f us).run E.P w= .ok (.enter f us) w
 run:∀(Z:Nat->Prop) (w:World) (ρ:Nat->Value) (us:List Value),WS E.W (fh w Z ρ pre) Z w ρ pre->us.length=args.length->(∀(i:Nat) x u,args[i]? =some x->us[i]? =some u->aV Z w ρ x.v u)->
  Calls E.P f us.toArray w λe w'=>∃v Z' ρ',e= .returned v/\WS E.W (fh w Z ρ pre) Z' w' ρ' post/\(∀id∈keep,ρ' id=ρ id)/\aV Z' w' ρ' res.v v
def dc:List (Nat×AO)->Nat->Bool
 |[],_=>false
 |(k,_)::r,i=>match Nat.beq k i with
  |true=>true
  |false=>dc r i
theorem cA:∀{l:List (Nat×AO)} {i:Nat},dc l i=true↔∃o,az l i=some o
 |[],i=>by simp[dc,az]
 |(k,o)::r,i=>by
  simp only[dc,az]
  cases e:Nat.beq k i with
  |true=>rw[if_pos (Nat.eq_of_beq_eq_true e)];simp
  |false=>rw[if_neg (Nat.ne_of_beq_eq_false e)];exact cA
theorem Br{l:List (Nat×AO)}{i:Nat}(h:dc l i=false):az l i=none:=by
 cases e:az l i with
 |none=>rfl
 |some o=>rw[cA.2 ⟨o,e⟩]at h;cases h
def qt(post ob:List (Nat×AO))(c:AC)(K:AC->Prop):Prop:=
 match c with
 | .own id=>match dc post id with
  |true=>K (.own id)
  |false=>aOb ob id λo=>match o with
   | .row _ _ xs=>K (.d (.sl xs))
   |_=>False
 | .ref id k s off=>match dc post id with
  |true=>K (.ref id k s off)
  |false=>False
 |c=>K c
def x7(post ob:List (Nat×AO)):List AC->(List AC->Prop)->Prop
 |[],K=>K []
 |c::r,K=>qt post ob c λc=>x7 post ob r λr=>K (c::r)
def Bw(post ob:List (Nat×AO))(x:AV)(K:AA->Prop):Prop:=
 match x with
 | .one c=>qt post ob c λc=>K (.one c)
 | .agg cs=>x7 post ob cs λcs=>K (.agg cs)
 | .tup _=>False
def pX(Z:Nat->Prop)(ρ:Nat->Value)(ob post:List (Nat×AO))(b:Nat):Prop:=Z b\/∃id o,az ob id=some o/\dc post id=false/\aO (ρ id)=some b
section
variable {T:World->Prop} {S:aZ} {Z:Nat->Prop} {w:World} {ρ:Nat->Value} {ob post:List (Nat×AO)}
theorem th(h:WS T S Z w ρ ob){c:AC}{K:AC->Prop}{v:Value}(hv:cH Z w ρ c v)(hk:qt post ob c K):∃c',cH (pX Z ρ ob post) w ρ c' v/\K c':=by
 have upb:∀b,Z b->pX Z ρ ob post b:=λb hb=> .inl hb
 have up:∀{d:AD} {v:Value},bj Z w d v->bj (pX Z ρ ob post) w d v:=λhd=>hd.mono upb λ_ _=>rfl
 cases c with
 |own id=>
  cases e:dc post id with
  |true=>simp only[qt,e]at hk;exact⟨.own id,hv,hk⟩
  |false=>
   simp only[qt,e]at hk
   obtain⟨o,ho,hk⟩:=bw hk
   split at hk
   ·rename_i e' s xs
    obtain⟨us,h0,hl,hxs,hus,hown,hd⟩:=h.obj id _ ho
    refine⟨.d (.sl xs),?_,hk⟩
    have hv:v=ρ id:=hv.1
    subst hv
    show bj (pX Z ρ ob post) w (.sl xs) (ρ id)
    rcases hown.2 with⟨hv,hn⟩|⟨g,cap,cur,hv,_,hg,h1,h2,h3,h4⟩
    ·have:xs=[]:=List.eq_nil_of_length_eq_zero hn
     subst this
     rw[hv]
     exact .sl [] none 0 0 [] (Nat.le_refl _) (Nat.zero_le _) rfl Iy Iy (.inl rfl) Iy
    ·rw[hv]
     refine .sl xs _ cap s us h1 h2 hl hxs hus (.inr ⟨g,0,rfl,.inr ⟨id,_,ho,e,by rw[hv];rfl⟩,λi u hu=>?_⟩) λi j x u a b e1 e2 e3 e4=>up (hd i j x u a b e1 e2 e3 e4)
     rw[Nat.zero_add]
     exact lj hown (by rw[hv];rfl) hu
   ·exact hk.elim
 |ref id k s off=>
  cases e:dc post id with
  |true=>simp only[qt,e]at hk;exact⟨.ref id k s off,hv,hk⟩
  |false=>simp only[qt,e]at hk
 |_=>exact⟨_,cH.mono upb (λ_ _=>rfl) hv,hk⟩
theorem qu(h:WS T S Z w ρ ob):∀{cs:List AC} {us:List Value} {K:List AC->Prop},pU Z w ρ cs us->x7 post ob cs K->∃ds,us.length=ds.length/\(∀(i:Nat) d u,ds[i]? =some d->us[i]? =some u->cH (pX Z ρ ob post) w ρ d u)/\K ds
 |[],us,K,hr,hk=>⟨[],hr.1,by simp,hk⟩
 |c::r,[],K,hr,hk=>by have:=hr.1;simp at this
 |c::r,u::us,K,hr,hk=>by
  obtain⟨d,hd,hk⟩:=th h (hr.2 0 c u rfl rfl) hk
  obtain⟨ds,hl,hds,hk⟩:=qu h (cs:=r) (us:=us) ⟨by simpa using hr.1,λi c u h1 h2=>hr.2 (i+1) c u (by simpa using h1) (by simpa using h2)⟩ hk
  refine⟨d::ds,by simp[hl],λi x y h1 h2=>?_,hk⟩
  cases i with
  |zero=>simp at h1 h2;subst h1 h2;exact hd
  |succ i=>exact hds i x y (by simpa using h1) (by simpa using h2)
theorem tj(h:WS T S Z w ρ ob){x:AV}{K:AA->Prop}{v:Value}(hv:aV Z w ρ x v)(hk:Bw post ob x K):∃p,aV (pX Z ρ ob post) w ρ p.v v/\K p:=by
 cases hv with
 |one c v hv=>obtain⟨d,hd,hk⟩:=th (K:=λc=>K (.one c)) h hv hk;exact⟨.one d,.one _ _ hd,hk⟩
 |agg cs us hl hr=>obtain⟨ds,h1,h2,hk⟩:=qu (K:=λcs=>K (.agg cs)) h ⟨hl,hr⟩ hk;exact⟨.agg ds,.agg _ _ h1 h2,hk⟩
 |tup vs us hl hr=>exact hk.elim
theorem WS.out(h:WS T S Z w ρ ob)(hs:ae ob post):WS T S (pX Z ρ ob post) w ρ post:=by
 have h':=h.sub hs
 refine⟨h.os,h.tape,h.output,h.size,h.old,?_,λid o b ho hb=>⟨?_,(h'.mine id o b ho hb).2⟩,h'.sep,λid o ho=>(h'.obj id o ho).mono (λb hb=> .inl hb) (λ_ _=>rfl) λ_ _=>rfl,⟨λid P Q ho=>⟨λb hb=>?_,(h.many.ok id P Q (hs _ _ ho)).2⟩,λi j P Q P' Q' hi hj=>h.many.sep i j P Q P' Q' (hs _ _ hi) (hs _ _ hj)⟩,?_,λb hb=> .inl (h.z0 b hb),?_⟩
 ·rintro b (hb|⟨id,o,ho,_,hb⟩)
  ·exact h.zlt b hb
  ·exact h.lt ho hb
 ·rintro(hz|⟨id2,o2,ho2,hn,hb2⟩)
  ·exact(h'.mine id o b ho hb).1 hz
  ·refine h.sep id id2 o o2 b (hs id o ho) ho2 (λe=>?_) hb hb2
   subst e
   rw[cA.2 ⟨o,ho⟩]at hn
   cases hn
 ·obtain⟨h1,h2,h3,h4⟩:=(h.many.ok id P Q (hs _ _ ho)).1 b hb
  refine⟨h1,?_,h3,λj o hj=>h4 j o (hs _ _ hj)⟩
  rintro(hz|⟨id2,o2,ho2,_,hb2⟩)
  ·exact h2 hz
  ·exact h4 id2 o2 ho2 hb2
 ·obtain⟨w1,g1,g2,g3⟩:=h.g
  exact⟨w1,g1,g2,λb hb=> .inl (g3 b hb)⟩
 ·rintro b (hb|⟨id,o,ho,_,hb⟩)
  ·exact h.znew b hb
  ·exact .inr (h.mine id o b ho hb).2
end
section
variable {E:aE} {S:aZ} {st:ASt}
def x9(E:aE)(st:ASt)(post:List (Nat×AO))(r:ResultVar)(K:AA->Prop):Prop:=
 match r with
 | .tmp t=>aTm st.tm t λv=>Bw post st.ob v K
 | .cell t ty=>aTm st.tm t λx=>oL E st ty x λv=>Bw post st.ob v K
def ya(E:aE)(st:ASt)(post:List (Nat×AO)):List ResultVar->(List AA->Prop)->Prop
 |[],K=>K []
 |r::rs,K=>x9 E st post r λp=>ya E st post rs λps=>K (p::ps)
def vX(E:aE)(st:ASt)(post:List (Nat×AO))(rs:List ResultVar)(K:AR->Prop):Prop:=
 match rs with
 |[r]=>x9 E st post r λp=>K (.val p)
 |rs=>ya E st post rs λps=>K (.tup ps)
def vQ(ob:List (Nat×AO)):List (Nat×AO)->Prop
 |[]=>True
 |(i,o)::r=>aOb ob i λo'=>o'=o/\vQ ob r
theorem nZ{ob:List (Nat×AO)}:∀{l:List (Nat×AO)},vQ ob l->ae ob l
 |[],_=>ae.nil
 |(i,o)::r,h=>by
  obtain⟨o',ho,rfl,hr⟩:=bw h
  exact ae.cons ho (nZ hr)
def bD(keep:List Nat):List AV:=keep.map λid=> .one (.ref id 0 0 0)
def Hv(E:aE)(rs:List ResultVar)(post:List (Nat×AO))(keep:List Nat)(pv:List Value)(res:AR):Exit->ASt->Prop
 | .ret,st=>vX E st post rs λv=>v=res/\vQ st.ob ((9999,.frame (bD keep) pv)::post)
 | .normal,st=>vX E st post rs λv=>v=res/\vQ st.ob ((9999,.frame (bD keep) pv)::post)
 |_,_=>False
theorem qC(he:E.Ok){post:List (Nat×AO)}{Z:Nat->Prop}{ρ:Nat->Value}{a:Act}{w:World}(h:Sim E.W S Z ρ st a w){r:ResultVar}{K:AA->Prop}(hk:x9 E st post r K):
  ∃(v:Value) (p:AA),(fF a.tmps r).run E.P w= .ok v w/\aV (pX Z ρ st.ob post) w ρ p.v v/\K p:=by
 cases r with
 |tmp t=>
  obtain⟨x,hx,hk⟩:=iN hk
  have hlt:t<a.tmps.size:=by rw[h.len];exact(List.getElem?_eq_some_iff.1 hx).1
  obtain⟨p,hp,hk⟩:=tj h.ws (h.tm t x _ hx (Array.getElem?_eq_getElem hlt)) hk
  exact⟨a.tmps[t],p,by simp[fF,hlt],hp,hk⟩
 |cell t ty=>
  obtain⟨x,hx,hk⟩:=iN hk
  have hlt:t<a.tmps.size:=by rw[h.len];exact(List.getElem?_eq_some_iff.1 hx).1
  obtain⟨b,off,v,y,e,hr,hy,hk⟩:=rj he h (h.tm t x _ hx (Array.getElem?_eq_getElem hlt)) hk
  obtain⟨p,hp,hk⟩:=tj h.ws hy hk
  refine⟨v,p,?_,hp,hk⟩
  simp[fF,hlt,e,asAddr,hr]
theorem qD(he:E.Ok){post:List (Nat×AO)}{Z:Nat->Prop}{ρ:Nat->Value}{a:Act}{w:World}(h:Sim E.W S Z ρ st a w):∀{rs:List ResultVar} {K:List AA->Prop},ya E st post rs K->
  ∃(vs:List Value) (ps:List AA),(rs.mapM (fF a.tmps)).run E.P w= .ok vs w/\vs.length=ps.length/\(∀(i:Nat) p u,ps[i]? =some p->vs[i]? =some u->aV (pX Z ρ st.ob post) w ρ p.v u)/\ps.length=rs.length/\K ps
 |[],K,hk=>⟨[],[],rfl,rfl,by simp,rfl,hk⟩
 |r::rs,K,hk=>by
  obtain⟨v,p,h1,h2,hk⟩:=qC he h hk
  obtain⟨vs,ps,h3,h4,h5,h6,hk⟩:=qD he h (rs:=rs) hk
  refine⟨v::vs,p::ps,?_,by simp[h4],λi q u h7 h8=>?_,by simp[h6],hk⟩
  ·rw[List.mapM_cons,Sem.run_bind,h1]
   simp only[Result.andThen_ok]
   rw[Sem.run_bind,h3]
   rfl
  ·cases i with
   |zero=>simp at h7 h8;subst h7 h8;exact h2
   |succ i=>exact h5 i q u (by simpa using h7) (by simpa using h8)
theorem z7(he:E.Ok){post:List (Nat×AO)}{Z:Nat->Prop}{ρ:Nat->Value}{a:Act}{w:World}(h:Sim E.W S Z ρ st a w){fn:Func}{K:AR->Prop}(hk:vX E st post fn.results.toList K):
  ∃v p,(results fn a.tmps).run E.P w= .ok v w/\aV (pX Z ρ st.ob post) w ρ p.v v/\K p:=by
 unfold vX at hk
 have hres:∀vs:List Value,(fn.results.toList.mapM (fF a.tmps)).run E.P w= .ok vs w->(results fn a.tmps).run E.P w= .ok (if h:vs.toArray.size=1 then vs.toArray[0]else .tuple vs.toArray) w:=by
  intro vs hvs
  have e:results fn a.tmps=(do let vs<-fn.results.mapM (fF a.tmps);pure (if h:vs.size=1 then vs[0]else .tuple vs)):=rfl
  rw[e,Sem.run_bind,Array.mapM_eq_mapM_toList,Sem.run_map,hvs]
  rfl
 split at hk
 ·rename_i r hr
  obtain⟨v,p,h1,h2,hk⟩:=qC he h hk
  refine⟨v,.val p,?_,h2,hk⟩
  have:=hres [v] (by rw[hr,List.mapM_cons,Sem.run_bind,h1];rfl)
  rw[this]
  rfl
 ·rename_i hne
  obtain⟨vs,ps,h1,h2,h3,h4,hk⟩:=qD he h hk
  refine⟨_,.tup ps,hres vs h1,?_,hk⟩
  have:¬vs.toArray.size=1:=by
   intro e
   have:fn.results.toList.length=1:=by simp at e;omega
   obtain⟨r,hr⟩:=List.length_eq_one_iff.1 this
   exact hne r hr
  rw[dif_neg this]
  refine .tup _ vs (by simp[h2]) λi x u hx hu=>?_
  rw[List.getElem?_map]at hx
  obtain⟨p,hp,rfl⟩:=Option.map_eq_some_iff.1 hx
  exact h3 i p u hp hu
end
def tz(p:AA)(K:AV->Prop):Prop:=
 match p with
 | .one c=>K (.one c)
 | .agg cs=>K (.agg cs)
theorem oc{p:AA}{K:AV->Prop}(h:tz p K):K p.v:=by cases p<;>exact h
def xZ:List AA->Nat->(List AV->Prop)->Prop
 |[],n,K=>zl n K
 |_::_,0,_=>False
 |p::r,n+1,K=>tz p λv=>xZ r n λtm=>K (v::tm)
theorem qi:∀{args:List AA} {n:Nat} {K:List AV->Prop},xZ args n K->args.length<=n/\K (args.map AA.v++List.replicate (n-args.length) (.one .und))
 |[],n,K,h=>⟨Nat.zero_le _,by simpa using oa h⟩
 |_::_,0,_,h=>h.elim
 |p::r,n+1,K,h=>by
  obtain⟨h1,h2⟩:=qi (args:=r) (n:=n) (K:=λtm=>K (p.v::tm)) (oc h)
  refine⟨by simp;omega,?_⟩
  simpa[Nat.succ_sub_succ]using h2
def pG(ob:List (Nat×AO))(i:Nat):Bool:=match az ob i with
 |some (.cells _ _)=>true
 |_=>false
def Ec(id:Nat):AA->Bool
 | .one c=>jD id c
 | .agg cs=>cs.all (jD id)
theorem Dq{id:Nat}{a:AA}(h:Ec id a=true):nz id a.v=true:=by cases a<;>exact h
def Ed(args:List AA)(pre post:List (Nat×AO))(keep:List Nat):Bool:=
 args.all (Ec 9999)&&pre.all (λp=>tV 9999 p.2)&& !dc pre 9999&&keep.all (λi=>pG pre i&&pG post i)
theorem kZ{ob:List (Nat×AO)}{i:Nat}(h:pG ob i=true):∃t cs,az ob i=some (.cells t cs):=by
 unfold pG at h
 split at h
 ·rename_i t cs e;exact⟨t,cs,e⟩
 ·cases h
theorem aL{E:aE}(he:E.Ok){f:FuncId}{fn:Func}{c:Code}{n:Nat}{rs:List ResultVar}{args:List AA}{pre post:List (Nat×AO)}{keep:List Nat}{res:AR}(hf:E.P.funcs[f]? =some fn)(hb:fn.body=some c)
  (enter:∀(us:Array Value) w,(callFunc f us).run E.P w= .ok (.enter f us) w) (hn:fn.ntmps=n) (hrs:fn.results.toList=rs)
  (hck:Ed args pre post keep=true)
  (h:∀S pv,xZ args n λtm=>AWP E S c (Hv E rs post keep pv res) ⟨tm,(9999,.frame (bD keep) pv)::pre⟩):a6 E f args pre post keep res:=by
 refine⟨enter,λZ w ρ us hws hl hr=>?_⟩
 subst hn hrs
 simp only[Ed,Bool.and_eq_true,List.all_eq_true,Bool.not_eq_true']at hck
 obtain⟨⟨⟨hna,hnp⟩,hnh⟩,hkk⟩:=hck
 have hp9:=Br hnh
 obtain⟨hle,hk⟩:=qi (h (fh w Z ρ pre) (keep.map ρ))
 have relV:∀{x:AV} {v:Value},nz 9999 x=true->aV Z w ρ x v->aV Z w (λi=>if i=9999 then undef else ρ i) x v:=by
  intro x v hn hv
  have:=io (id:=9999) (y:=undef) hv
  rwa[jg hn]at this
 have hs:Sim E.W (fh w Z ρ pre) Z (λi=>if i=9999 then undef else ρ i) ⟨args.map AA.v++List.replicate (fn.ntmps-args.length) (.one .und),(9999,.frame (bD keep) (keep.map ρ))::pre⟩ {tmps:=us.toArray++Array.replicate (fn.ntmps-us.toArray.size) undef,defers:=[]} w:=by
  have key:∀id o,az ((9999,AO.frame (bD keep) (keep.map ρ))::pre) id=some o->(id=9999/\o= .frame (bD keep) (keep.map ρ))\/(id≠9999/\az pre id=some o):=by
   intro id o ho
   unfold az at ho
   split at ho
   ·rename_i e;subst e;injection ho with ho;exact .inl ⟨rfl,ho.symm⟩
   ·rename_i e;exact .inr ⟨λe'=>e e'.symm,ho⟩
  refine⟨⟨hws.os,hws.tape,hws.output,hws.size,hws.old,hws.zlt,λid o b ho hb=>?_,λi j oi oj b hi hj hij hbi hbj=>?_,λid o ho=>?_,⟨λid P Q ho=>?_,λi j P Q P' Q' hi hj=>?_⟩,hws.g,hws.z0,hws.znew⟩,by simp[hl],λi x v hx hv=>?_,rfl⟩
  ·rcases key id o ho with⟨rfl,rfl⟩|⟨hne,ho⟩
   ·simp only[if_true]at hb;cases hb
   ·simp only[if_neg hne]at hb;exact hws.mine id o b ho hb
  ·rcases key i oi hi with⟨rfl,rfl⟩|⟨hne,hi⟩
   ·simp only[if_true]at hbi;cases hbi
   ·rcases key j oj hj with⟨rfl,rfl⟩|⟨hne2,hj⟩
    ·simp only[if_true]at hbj;cases hbj
    ·simp only[if_neg hne]at hbi
     simp only[if_neg hne2]at hbj
     exact hws.sep i j oi oj b hi hj hij hbi hbj
  ·rcases key id o ho with⟨rfl,rfl⟩|⟨hne,ho⟩
   ·refine⟨by simp,by simp[bD],λi x u hx hu=>?_⟩
    simp only[bD,List.getElem?_map]at hx hu
    obtain⟨k,hk1,rfl⟩:=Option.map_eq_some_iff.1 hx
    rw[hk1]at hu
    simp only[Option.map_some]at hu
    injection hu with hu
    subst hu
    have hkm:=hkk k (List.mem_of_getElem? hk1)
    obtain⟨t,cs,hc⟩:=kZ hkm.1
    obtain⟨b,us',hp,_⟩:=hws.obj k _ hc
    have hk9:k≠9999:=by rintro rfl;rw[hp9]at hc;cases hc
    refine .one _ _ ⟨b,by simp only[if_neg hk9];rw[hp];rfl,by rw[hp]⟩
   ·have hob:=hws.obj id o ho
    have hnk:=mR (hnp (id,o) (cJ ho))
    cases o with
    |many P Q=>
     show(if id=9999 then undef else ρ id)=undef
     rw[if_neg hne];exact hob
    |cells t cs=>
     have:=du (id:=9999) (y:=undef) hne (show bB Z w ρ id (.cells t cs)from hob)
     rw[hnk]at this;exact this
    |row e s xs=>
     have:=du (id:=9999) (y:=undef) hne (show bB Z w ρ id (.row e s xs)from hob)
     rw[hnk]at this;exact this
    |frame vs us=>
     have:=du (id:=9999) (y:=undef) hne (show bB Z w ρ id (.frame vs us)from hob)
     rw[hnk]at this;exact this
    |any Q=>
     have:=du (id:=9999) (y:=undef) hne (show bB Z w ρ id (.any Q)from hob)
     rw[hnk]at this;exact this
  ·rcases key id _ ho with⟨_,h0⟩|⟨hne,ho⟩
   ·cases h0
   ·obtain⟨h1,h2⟩:=hws.many.ok id P Q ho
    refine⟨λb hb=>⟨(h1 b hb).1,(h1 b hb).2.1,(h1 b hb).2.2.1,λj o hj=>?_⟩,h2⟩
    rcases key j o hj with⟨rfl,_⟩|⟨hne,hj⟩
    ·simp only[if_true];intro h0;cases h0
    ·simp only[if_neg hne];exact(h1 b hb).2.2.2 j o hj
  ·rcases key i _ hi with⟨_,h0⟩|⟨_,hi⟩
   ·cases h0
   ·rcases key j _ hj with⟨_,h0⟩|⟨_,hj⟩
    ·cases h0
    ·exact hws.many.sep i j P Q P' Q' hi hj
  ·simp only at hx hv
   have hv':(us++List.replicate (fn.ntmps-us.length) undef)[i]? =some v:=by
    have:=hv
    rw[<-Array.getElem?_toList]at this
    simpa using this
   by_cases hi:i<us.length
   ·rw[List.getElem?_append_left (by simpa[hl]using hi),List.getElem?_map]at hx
    obtain⟨p,hp,rfl⟩:=Option.map_eq_some_iff.1 hx
    rw[List.getElem?_append_left hi]at hv'
    exact relV (Dq (hna p (List.mem_of_getElem? hp))) (hr i p v hp hv')
   ·rw[List.getElem?_append_right IB]at hx
    rw[List.getElem?_append_right Iv]at hv'
    have e1:=List.eq_of_mem_replicate (List.mem_of_getElem? hx)
    have e2:=List.eq_of_mem_replicate (List.mem_of_getElem? hv')
    subst e1 e2
    exact .one _ _ (show cH Z w _ .und undef from rfl)
 refine calls_of_wp hf hb (wp_mono (hk.run _ w ⟨Z,_,hs⟩) λe a' w' h'=>?_)
 obtain⟨st',⟨Z',ρ',hs'⟩,hk'⟩:=h'
 have fin:(vX E st' post fn.results.toList λv=>v=res/\vQ st'.ob ((9999,.frame (bD keep) (keep.map ρ))::post))->a'.defers=[]/\∃v,(results fn a'.tmps).run E.P w'= .ok v w'/\∃v0 Z' ρ',Ending.returned v= .returned v0/\WS E.W (fh w Z ρ pre) Z' w' ρ' post/\(∀id∈keep,ρ' id=ρ id)/\aV Z' w' ρ' res.v v0:=by
  intro hr
  obtain⟨v,p,h1,h2,h3,h4⟩:=z7 he hs' hr
  subst h3
  have hsub:=nZ h4
  have hsubp:ae st'.ob post:=by
   obtain⟨_,_,_,h5⟩:=bw h4
   exact nZ h5
  refine⟨hs'.df,v,h1,v,pX Z' ρ' st'.ob post,ρ',rfl,hs'.ws.out hsubp,λid hid=>?_,h2⟩
  have hkm:=hkk id hid
  obtain⟨t,cs,hc⟩:=kZ hkm.1
  obtain⟨t',cs',hc'⟩:=kZ hkm.2
  obtain⟨b,us1,hp,_⟩:=hws.obj id _ hc
  obtain⟨b',us2,hp',_⟩:=hs'.ws.obj id _ (hsubp id _ hc')
  obtain⟨_,hfl,hfr⟩:=hs'.ws.obj 9999 _ (hsub 9999 (.frame (bD keep) (keep.map ρ)) (by simp[az]))
  obtain⟨i,hi,hid'⟩:=List.getElem_of_mem hid
  have hx:(bD keep)[i]? =some (.one (.ref id 0 0 0)):=by simp[bD,hi,hid']
  have hu:(keep.map ρ)[i]? =some (ρ id):=by simp[hi,hid']
  cases hfr i _ _ hx hu with
  |one _ _ hrel=>
   obtain⟨b2,hb2,hv2⟩:=hrel
   rw[hp']at hb2
   injection hb2 with hb2
   rw[hp',hv2,<-hb2]
 cases e with
 |normal=>exact fin hk'
 |ret=>exact fin hk'
 |_=>exact hk'.elim
end Go.Proofs.YtnlhpdbijmnkhaaGreatDoor
namespace Go.Proofs.YtnlhpdbijmnkhaaGreatDoor
open Go.RowKit
def aR:List (Nat×Nat)->Nat->Nat
 |[],i=>i
 |(a,b)::r,i=>match Nat.beq a i with
  |true=>b
  |false=>aR r i
def qn:List (Nat×Nat)->Nat->(Nat->Prop)->Prop
 |[],i,K=>K i
 |(a,b)::r,i,K=>match Nat.beq a i with
  |true=>K b
  |false=>qn r i K
theorem lG{K:Nat->Prop}{i:Nat}:∀{m:List (Nat×Nat)},qn m i K->K (aR m i)
 |[],h=>h
 |(a,b)::r,h=>by
  unfold qn at h
  unfold aR
  cases e:Nat.beq a i with
  |true=>rw[e]at h;exact h
  |false=>rw[e]at h;exact lG (m:=r) h
def sU(m:Nat->Nat):AC->AC
 | .own i=> .own (m i)
 | .ref i k s off=> .ref (m i) k s off
 |c=>c
def px(m:Nat->Nat):AA->AA
 | .one c=> .one (sU m c)
 | .agg cs=> .agg (cs.map (sU m))
def yZ(m:Nat->Nat):AR->AR
 | .val a=> .val (px m a)
 | .tup ls=> .tup (ls.map (px m))
def gt(m:Nat->Nat):AO->AO
 | .cells t cs=> .cells t (cs.map (sU m))
 |o=>o
def Bz(m:List (Nat×Nat))(c:AC)(K:AC->Prop):Prop:=
 match c with
 | .own i=>qn m i λi=>K (.own i)
 | .ref i k s off=>qn m i λi=>K (.ref i k s off)
 |c=>K c
theorem tl{m:List (Nat×Nat)}{c:AC}{K:AC->Prop}(h:Bz m c K):K (sU (aR m) c):=by
 cases c with
 |own i=>exact lG (K:=λi=>K (.own i)) h
 |ref i k s off=>exact lG (K:=λi=>K (.ref i k s off)) h
 |_=>exact h
def uO(m:List (Nat×Nat)):List AC->(List AC->Prop)->Prop
 |[],K=>K []
 |c::r,K=>Bz m c λc=>uO m r λr=>K (c::r)
theorem mA{m:List (Nat×Nat)}:∀{l:List AC} {K:List AC->Prop},uO m l K->K (l.map (sU (aR m)))
 |[],_,h=>h
 |c::r,K,h=>mA (l:=r) (K:=λr=>K (sU (aR m) c::r)) (tl h)
def By(m:List (Nat×Nat))(a:AA)(K:AA->Prop):Prop:=
 match a with
 | .one c=>Bz m c λc=>K (.one c)
 | .agg cs=>uO m cs λcs=>K (.agg cs)
theorem tk{m:List (Nat×Nat)}{a:AA}{K:AA->Prop}(h:By m a K):K (px (aR m) a):=by
 cases a with
 |one c=>exact tl (K:=λc=>K (.one c)) h
 |agg cs=>exact mA (K:=λcs=>K (.agg cs)) h
def qx(m:List (Nat×Nat)):List AA->(List AV->Prop)->Prop
 |[],K=>K []
 |c::r,K=>By m c λc=>tz c λc=>qx m r λr=>K (c::r)
theorem qy{m:List (Nat×Nat)}:∀{l:List AA} {K:List AV->Prop},qx m l K->K (l.map λa=>(px (aR m) a).v)
 |[],_,h=>h
 |c::r,K,h=>qy (l:=r) (K:=λr=>K ((px (aR m) c).v::r)) (oc (K:=λc=>qx m r λr=>K (c::r)) (tk (K:=λc=>tz c λc=>qx m r λr=>K (c::r)) h))
def BB(m:List (Nat×Nat))(r:AR)(K:AV->Prop):Prop:=
 match r with
 | .val a=>By m a λa=>tz a K
 | .tup ls=>qx m ls λl=>K (.tup l)
theorem z6{m:List (Nat×Nat)}{r:AR}{K:AV->Prop}(h:BB m r K):K (yZ (aR m) r).v:=by
 cases r with
 |val a=>exact oc (tk (K:=λa=>tz a K) h)
 |tup ls=>
  have:=qy (K:=λl=>K (.tup l)) h
  have e:(yZ (aR m) (.tup ls)).v= .tup (ls.map λa=>(px (aR m) a).v):=by simp[yZ,AR.v,Function.comp_def]
  rw[e];exact this
def BA(m:List (Nat×Nat))(o:AO)(K:AO->Prop):Prop:=
 match o with
 | .cells t cs=>uO m cs λcs=>K (.cells t cs)
 |o=>K o
theorem zZ{m:List (Nat×Nat)}{o:AO}{K:AO->Prop}(h:BA m o K):K (gt (aR m) o):=by
 cases o with
 |cells t cs=>exact mA (K:=λcs=>K (.cells t cs)) h
 |_=>exact h
section
variable {Z:Nat->Prop} {w:World} {ρ ρ1:Nat->Value} {m:Nat->Nat}
theorem vD{c:AC}{v:Value}(h:cH Z w ρ (sU m c) v):cH Z w (λi=>ρ (m i)) c v:=by cases c<;>exact h
theorem DC{a:AA}{v:Value}(h:aV Z w ρ (px m a).v v):aV Z w (λi=>ρ (m i)) a.v v:=by
 cases a with
 |one c=>cases h with|one _ _ h=>exact .one _ _ (vD h)
 |agg cs=>
  cases h with
  |agg _ us hl h=>
   refine .agg _ _ (by simpa using hl) λi c u hc hu=>vD (h i _ u ?_ hu)
   rw[List.getElem?_map,hc];rfl
def gC:AO->Bool
 | .frame _ _=>false
 | .many _ _=>false
 |_=>true
theorem DD{id:Nat}{o:AO}(hf:gC o=true)(h:bB Z w ρ (m id) (gt m o)):bB Z w (λi=>ρ (m i)) id o:=by
 cases o with
 |cells t cs=>
  obtain⟨b,us,hp,hg,hl,hc⟩:=h
  refine⟨b,us,hp,hg,by simpa using hl,λi c u h1 h2=>vD (hc i _ u ?_ h2)⟩
  rw[List.getElem?_map,h1];rfl
 |row e s xs=>exact h
 |frame vs us=>cases hf
 |any Q=>exact h
 |many P Q=>cases hf
def inC(post:List (Nat×AO)):AC->Bool
 | .own i=>dc post i
 | .ref i _ _ _=>dc post i
 |_=>true
def inA(post:List (Nat×AO)):AA->Bool
 | .one c=>inC post c
 | .agg cs=>cs.all (inC post)
def inR(post:List (Nat×AO)):AR->Bool
 | .val a=>inA post a
 | .tup ls=>ls.all (inA post)
def inO(post:List (Nat×AO)):AO->Bool
 | .cells _ cs=>cs.all (inC post)
 | .row _ _ _=>true
 | .frame [] []=>true
 | .frame _ _=>false
 | .any _=>false
 | .many _ _=>false
variable {post:List (Nat×AO)}
theorem oz(hag:∀i,dc post i=true->ρ1 (m i)=ρ i){c:AC}{v:Value}(hin:inC post c=true)(h:cH Z w ρ c v):cH Z w ρ1 (sU m c) v:=by
 cases c with
 |own i=>simpa only[sU,cH,hag i hin]using h
 |ref i k s off=>simpa only[sU,cH,hag i hin]using h
 |_=>exact h
theorem ua(hag:∀i,dc post i=true->ρ1 (m i)=ρ i){a:AA}{v:Value}(hin:inA post a=true)(h:aV Z w ρ a.v v):aV Z w ρ1 (px m a).v v:=by
 cases a with
 |one c=>cases h with|one _ _ h=>exact .one _ _ (oz hag hin h)
 |agg cs=>
  cases h with
  |agg _ us hl h=>
   refine .agg _ _ (by simpa using hl) λi c u hc hu=>?_
   rw[List.getElem?_map]at hc
   obtain⟨c0,h0,rfl⟩:=Option.map_eq_some_iff.1 hc
   exact oz hag (List.all_eq_true.1 hin c0 (List.mem_of_getElem? h0)) (h i c0 u h0 hu)
theorem AQ(hag:∀i,dc post i=true->ρ1 (m i)=ρ i){r:AR}{v:Value}(hin:inR post r=true)(h:aV Z w ρ r.v v):aV Z w ρ1 (yZ m r).v v:=by
 cases r with
 |val a=>exact ua hag hin h
 |tup ls=>
  cases h with
  |tup _ us hl h=>
   refine .tup _ _ (by simpa using hl) λi c u hc hu=>?_
   rw[List.map_map,List.getElem?_map]at hc
   obtain⟨c0,h0,rfl⟩:=Option.map_eq_some_iff.1 hc
   refine ua hag (List.all_eq_true.1 hin c0 (List.mem_of_getElem? h0)) (h i _ u ?_ hu)
   rw[List.getElem?_map,h0];rfl
theorem AN(hag:∀i,dc post i=true->ρ1 (m i)=ρ i){id:Nat}(hid:dc post id=true){o:AO}(hin:inO post o=true)(h:bB Z w ρ id o):bB Z w ρ1 (m id) (gt m o):=by
 cases o with
 |cells t cs=>
  obtain⟨b,us,hp,hg,hl,hc⟩:=h
  refine⟨b,us,(hag id hid).trans hp,hg,by simpa using hl,λi c u h1 h2=>?_⟩
  rw[List.getElem?_map]at h1
  obtain⟨c0,h0,rfl⟩:=Option.map_eq_some_iff.1 h1
  exact oz hag (List.all_eq_true.1 hin c0 (List.mem_of_getElem? h0)) (hc i c0 u h0 h2)
 |row e s xs=>
  obtain⟨us,hs,hl,hx,hu,hown,hd⟩:=h
  refine⟨us,hs,hl,hx,hu,?_,hd⟩
  rw[hag id hid];exact hown
 |frame vs us=>
  have:vs=[]/\us=[]:=by
   revert hin;unfold inO;split<;>simp_all
  obtain⟨rfl,rfl⟩:=this
  exact⟨(hag id hid).trans h.1,rfl,by simp⟩
 |any Q=>cases hin
 |many P Q=>cases hin
theorem zG{id:Nat}{o:AO}(hf:gC o=true)(h:fJ Z w ρ id o):bB Z w ρ id o:=by cases o<;>first|exact h|cases hf
theorem wZ(f:Nat->Nat)(o:AO):gC (gt f o)=gC o:=by cases o<;>rfl
theorem CE{id:Nat}{o:AO}(hf:inO post o=true)(h:fJ Z w ρ id o):bB Z w ρ id o:=by
 cases o<;>first|exact h|cases hf
theorem CD{f:Nat->Nat}{id:Nat}{o:AO}(hf:inO post o=true)(h:bB Z w ρ id (gt f o)):fJ Z w ρ id (gt f o):=by
 cases o<;>first|exact h|cases hf
theorem CC{id:Nat}{o:AO}(hf:gC o=true)(h:bB Z w ρ id o):fJ Z w ρ id o:=by cases o<;>first|exact h|cases hf
end
def k7(ks:List Nat)(x:AV):AV:=ks.foldl (λx k=>gg k x) x
def mN(ks:List Nat)(o:AO):AO:=ks.foldl (λo k=>gB k o) o
section
variable {Z:Nat->Prop} {w:World} {ρ1:Nat->Value}
theorem ri:∀{ks:List Nat} {ρ:Nat->Value} {x:AV} {v:Value},(∀i,i∉ks->ρ1 i=ρ i)->aV Z w ρ x v->aV Z w ρ1 (k7 ks x) v
 |[],ρ,x,v,hag,h=>by
  have:ρ1=ρ:=funext λi=>hag i Iy
  subst this;exact h
 |k::r,ρ,x,v,hag,h=>by
  refine ri (ks:=r) (λi hi=>?_) (io (id:=k) (y:=ρ1 k) h)
  by_cases e:i=k
  ·subst e;simp
  ·simp only[if_neg e];exact hag i (by simp[e,hi])
theorem gh:∀{ks:List Nat} {ρ:Nat->Value} {j:Nat} {o:AO},j∉ks->(∀i,i∉ks->ρ1 i=ρ i)->bB Z w ρ j o->bB Z w ρ1 j (mN ks o)
 |[],ρ,j,o,_,hag,h=>by
  have:ρ1=ρ:=funext λi=>hag i Iy
  subst this;exact h
 |k::r,ρ,j,o,hj,hag,h=>by
  refine gh (ks:=r) (λe=>hj (by simp[e])) (λi hi=>?_) (du (id:=k) (λe=>hj (by simp[e])) (y:=ρ1 k) h)
  by_cases e:i=k
  ·subst e;simp
  ·simp only[if_neg e];exact hag i (by simp[e,hi])
theorem d7:∀{ks:List Nat} {o:AO} {P:Nat->Prop} {Q:World->Prop},mN ks o= .many P Q->o= .many P Q
 |[],o,P,Q,h=>h
 |k::r,o,P,Q,h=>by
  have h2:=d7 (ks:=r) (o:=gB k o) h
  cases o<;>first|exact h2|(simp[gB]at h2;done)
theorem ns:∀(ks:List Nat) (P:Nat->Prop) (Q:World->Prop),mN ks (.many P Q)= .many P Q
 |[],P,Q=>rfl
 |k::r,P,Q=>ns r P Q
theorem nE{ρ:Nat->Value}{id:Nat}{o:AO}(hn:∀P Q,o≠ .many P Q)(h:bB Z w ρ id o):fJ Z w ρ id o:=by
 cases o<;>first|exact h|exact absurd rfl (hn _ _)
theorem wO{ks:List Nat}{ρ:Nat->Value}{j:Nat}{o:AO}(hj:j∉ks)(hag:∀i,i∉ks->ρ1 i=ρ i)(h:fJ Z w ρ j o):fJ Z w ρ1 j (mN ks o):=by
 cases o with
 |many P Q=>rw[ns];exact(hag j hj).trans h
 |cells t cs=>exact nE (λP Q e=>by cases d7 e) (gh hj hag (show bB Z w ρ j (.cells t cs)from h))
 |row e s xs=>exact nE (λP Q e=>by cases d7 e) (gh hj hag (show bB Z w ρ j (.row e s xs)from h))
 |frame vs us=>exact nE (λP Q e=>by cases d7 e) (gh hj hag (show bB Z w ρ j (.frame vs us)from h))
 |any R=>exact nE (λP Q e=>by cases d7 e) (gh hj hag (show bB Z w ρ j (.any R)from h))
end
def mS(ks:List Nat)(ob:List (Nat×AO)):List (Nat×AO):=ks.foldl (λob k=>gE k ob) ob
theorem o3:∀{ks:List Nat} {ob:List (Nat×AO)} {j:Nat},az (mS ks ob) j=(az ob j).map (mN ks)
 |[],ob,j=>by
  have:mN []=id:=rfl
  simp[mS,this]
 |k::r,ob,j=>by
  have:=o3 (ks:=r) (ob:=gE k ob) (j:=j)
  rw[ji,Option.map_map]at this
  exact this
def m7:List Nat->ASt->(ASt->Prop)->Prop
 |[],st,K=>K st
 |k::r,st,K=>ql k st.tm λtm=>fC k st.ob λob=>m7 r ⟨tm,ob⟩ K
theorem yK(k:Nat)(r:List Nat)(l:List AV):(l.map (gg k)).map (k7 r)=l.map (k7 (k::r)):=by
 rw[List.map_map];rfl
theorem oK:∀{ks:List Nat} {st:ASt} {K:ASt->Prop},m7 ks st K->K ⟨st.tm.map (k7 ks),mS ks st.ob⟩
 |[],st,K,h=>by
  have:k7 []=id:=rfl
  rw[this,List.map_id];exact h
 |k::r,st,K,h=>by
  have h1:=dT (K:=λob=>m7 r ⟨st.tm.map (gg k),ob⟩ K) (iM (K:=λtm=>fC k st.ob λob=>m7 r ⟨tm,ob⟩ K) h)
  have h2:=oK (ks:=r) h1
  simp only[yK]at h2
  exact h2
def rD(ob l:List (Nat×AO)):List (Nat×AO):=l.foldl (λob p=>cm ob p.1 p.2) ob
def n9(m:List (Nat×Nat)):List (Nat×AO)->List (Nat×AO)->(List (Nat×AO)->Prop)->Prop
 |ob,[],K=>K ob
 |ob,(i,o)::r,K=>BA m o λo=>qn m i λi=>de i o ob λob=>n9 m ob r K
theorem qG{m:List (Nat×Nat)}:∀{l ob:List (Nat×AO)} {K:List (Nat×AO)->Prop},n9 m ob l K->K (rD ob (l.map λp=>(aR m p.1,gt (aR m) p.2)))
 |[],ob,K,h=>h
 |(i,o)::r,ob,K,h=>qG (l:=r) (bZ (K:=λob=>n9 m ob r K) (lG (K:=λi=>de i (gt (aR m) o) ob λob=>n9 m ob r K) (zZ (K:=λo=>qn m i λi=>de i o ob λob=>n9 m ob r K) h)))
theorem vA{l:List (Nat×AO)}{k:Nat}(h:k∉l.map (·.1)):az l k=none:=by
 cases e:az l k with
 |none=>rfl
 |some o=>exact absurd (List.mem_map.2 ⟨(k,o),cJ e,rfl⟩) h
theorem rA:∀{l ob:List (Nat×AO)} {i:Nat},(l.map (·.1)).Nodup->az (rD ob l) i=match az l i with|some o=>some o|none=>az ob i
 |[],ob,i,_=>rfl
 |(k,o)::r,ob,i,hn=>by
  obtain⟨h1,h2⟩:=List.nodup_cons.1 (by rw[List.map_cons]at hn;exact hn)
  have:=rA (l:=r) (ob:=cm ob k o) (i:=i) h2
  rw[aY]at this
  show az (rD (cm ob k o) r) i=_
  rw[this]
  simp only[az]
  by_cases e:k=i
  ·subst e
   simp only[if_true,vA h1]
  ·simp only[if_neg e]
theorem gD:∀{l:List (Nat×AO)} {i:Nat} {o:AO},(l.map (·.1)).Nodup->(i,o)∈l->az l i=some o
 |[],_,_,_,h=>by cases h
 |(k,x)::r,i,o,hn,h=>by
  obtain⟨h1,h2⟩:=List.nodup_cons.1 (by rw[List.map_cons]at hn;exact hn)
  unfold az
  rcases List.mem_cons.1 h with h|h
  ·injection h with e1 e2;subst e1 e2;simp
  ·have:k≠i:=by rintro rfl;exact h1 (List.mem_map.2 ⟨_,h,rfl⟩)
   rw[if_neg this];exact gD h2 h
theorem nA{α β:Type}{f:α->β}:∀{l:List α},(l.map f).Nodup->l.Nodup
 |[],_=>List.nodup_nil
 |x::r,h=>by
  obtain⟨h1,h2⟩:=List.nodup_cons.1 (by rw[List.map_cons]at h;exact h)
  exact List.nodup_cons.2 ⟨λhm=>h1 (List.mem_map.2 ⟨x,hm,rfl⟩),nA h2⟩
theorem mL{α β:Type}{f:α->β}:∀{l:List α},(l.map f).Nodup->∀{x y:α},x∈l->y∈l->f x=f y->x=y
 |[],_,_,_,h,_,_=>by cases h
 |a::r,h,x,y,hx,hy,e=>by
  obtain⟨h1,h2⟩:=List.nodup_cons.1 (by rw[List.map_cons]at h;exact h)
  rcases List.mem_cons.1 hx with ex|hx'
  ·rcases List.mem_cons.1 hy with ey|hy'
   ·rw[ex,ey]
   ·rw[ex]at e;exact absurd (List.mem_map.2 ⟨y,hy',e.symm⟩) h1
  ·rcases List.mem_cons.1 hy with ey|hy'
   ·rw[ey]at e;exact absurd (List.mem_map.2 ⟨x,hx',e⟩) h1
   ·exact mL h2 hx' hy' e
def mP(m:List (Nat×Nat))(pre post:List (Nat×AO))(res:AR):Bool:=
 nodupB (post.map λp=>aR m p.1)&&pre.all (λp=>dc post p.1&&gC p.2)&&post.all (λp=>inO post p.2)&&inR post res
where nodupB:List Nat->Bool
 |[]=>true
 |x::r=> !r.any (Nat.beq x)&&nodupB r
theorem rv:∀{l:List Nat},mP.nodupB l=true->l.Nodup
 |[],_=>List.nodup_nil
 |x::r,h=>by
  simp only[mP.nodupB,Bool.and_eq_true,Bool.not_eq_true',List.any_eq_false]at h
  refine List.nodup_cons.2 ⟨λhm=>h.1 x hm (Nat.beq_refl x),rv h.2⟩
def rp(m:List (Nat×Nat))(post:List (Nat×AO))(keep:List Nat):List Nat:=(post.filter λp=> !keep.any (Nat.beq p.1)).map λp=>aR m p.1
def EX(m:List (Nat×Nat))(ob:List (Nat×AO)):List (Nat×AO)->Prop->Prop
 |[],X=>X
 |(i,o)::r,X=>aOb ob (aR m i) λo'=>o'=gt (aR m) o/\EX m ob r X
theorem vV{m:List (Nat×Nat)}{ob:List (Nat×AO)}{X:Prop}:∀{l:List (Nat×AO)},EX m ob l X->(∀i o,(i,o)∈l->az ob (aR m i)=some (gt (aR m) o))/\X
 |[],h=>⟨by simp,h⟩
 |(i,o)::r,h=>by
  obtain⟨o',ho,rfl,hr⟩:=bw h
  obtain⟨h1,h2⟩:=vV hr
  refine⟨λj x hx=>?_,h2⟩
  rcases List.mem_cons.1 hx with e|hx
  ·injection e with e1 e2;subst e1 e2;exact ho
  ·exact h1 j x hx
def CH(m:Nat->Nat)(ids:List Nat)(ρ' ρ:Nat->Value)(j:Nat):Value:=match ids.find? (λc=>Nat.beq (m c) j)with
 |some c=>ρ' c
 |none=>ρ j
theorem DE{m:Nat->Nat}{ids:List Nat}{ρ' ρ:Nat->Value}(hn:(ids.map m).Nodup){c:Nat}(hc:c∈ids):CH m ids ρ' ρ (m c)=ρ' c:=by
 unfold CH
 cases e:ids.find? (λx=>Nat.beq (m x) (m c))with
 |none=>exact absurd (Nat.beq_refl (m c)) (List.find?_eq_none.1 e c hc)
 |some d=>
  have h1:=List.mem_of_find?_eq_some e
  have h2:=List.find?_some (p:=λx=>Nat.beq (m x) (m c)) e
  rw[mL hn h1 hc (Nat.eq_of_beq_eq_true h2)]
theorem CI{m:Nat->Nat}{ids:List Nat}{ρ' ρ:Nat->Value}{j:Nat}(hj:j∉ids.map m):CH m ids ρ' ρ j=ρ j:=by
 unfold CH
 cases e:ids.find? (λx=>Nat.beq (m x) j)with
 |none=>rfl
 |some d=>exact absurd (List.mem_map.2 ⟨d,List.mem_of_find?_eq_some e,Nat.eq_of_beq_eq_true (List.find?_some (p:=λx=>Nat.beq (m x) j) e)⟩) hj
def Fo(m:List (Nat×Nat))(st:ASt)(pre post:List (Nat×AO))(keep:List Nat)(res:AR)(K:AV->ASt->Prop):Prop:=
 EX m st.ob pre (m7 (rp m post keep) st λst=>n9 m st.ob post λob=>BB m res λr=>K r ⟨st.tm,ob⟩)
theorem aa.methK{E:aE}{S:aZ}{st:ASt}{f:FuncId}{args:List AA}{pre post:List (Nat×AO)}{keep:List Nat}{res:AR}{K:AV->ASt->Prop}{cargs:List AV}(hc:a6 E f args pre post keep res)(m:List (Nat×Nat))
  (hck:mP m pre post res=true) (hargs:(args.map λa=>(px (aR m) a).v)=cargs) (hpre:∀i o,(i,o)∈pre->az st.ob (aR m i)=some (gt (aR m) o))
  (hk:K (yZ (aR m) res).v ⟨st.tm.map (k7 (rp m post keep)),rD (mS (rp m post keep) st.ob) (post.map λp=>(aR m p.1,gt (aR m) p.2))⟩):aa E S f cargs st K:=by
 subst hargs
 refine⟨hc.enter,λZ ρ a w us hs hl hr=>?_⟩
 simp only[mP,Bool.and_eq_true,List.all_eq_true]at hck
 obtain⟨⟨⟨hnd,hpp⟩,hpo⟩,hres⟩:=hck
 have hnd:=rv hnd
 have hnd1:((post.map (·.1)).map (aR m)).Nodup:=by rw[List.map_map];exact hnd
 have hnd2:(post.map (·.1)).Nodup:=nA hnd1
 have hndm:((post.map λp=>(aR m p.1,gt (aR m) p.2)).map (·.1)).Nodup:=by rw[List.map_map];exact hnd
 have hinj:∀{i j},dc post i=true->dc post j=true->aR m i=aR m j->i=j:=by
  intro i j hi hj e
  obtain⟨oi,hoi⟩:=cA.1 hi
  obtain⟨oj,hoj⟩:=cA.1 hj
  exact mL hnd1 (List.mem_map.2 ⟨_,cJ hoi,rfl⟩) (List.mem_map.2 ⟨_,cJ hoj,rfl⟩) e
 have hhas:∀{i},dc post i=true↔i∈post.map (·.1):=by
  intro i
  rw[cA]
  constructor
  ·rintro⟨o,ho⟩;exact List.mem_map.2 ⟨_,cJ ho,rfl⟩
  ·intro h
   obtain⟨p,hp,rfl⟩:=List.mem_map.1 h
   exact⟨p.2,gD hnd2 hp⟩
 have hget:∀i o,az pre i=some o->az st.ob (aR m i)=some (gt (aR m) o)/\dc post i=true/\gC o=true:=by
  intro i o ho
  have:=hpp _ (cJ ho)
  simp only[Bool.and_eq_true]at this
  exact⟨hpre i o (cJ ho),this.1,this.2⟩
 have hws0:WS E.W (fh w Z (λi=>ρ (aR m i)) pre) Z w (λi=>ρ (aR m i)) pre:=by
  refine⟨rfl,rfl,rfl,Nat.le_refl _,λ_ _ _=>rfl,hs.ws.zlt,λid o b ho hb=>⟨(hs.ws.mine _ _ b (hget id o ho).1 hb).1,.inr ⟨id,o,ho,hb⟩⟩,λi j oi oj b hi hj hij hbi hbj=>?_,λid o ho=>CC (hget id o ho).2.2 (DD (hget id o ho).2.2 (zG (by rw[wZ];exact(hget id o ho).2.2) (hs.ws.obj _ _ (hget id o ho).1))),f4.none (λid P Q ho=>by have:=(hget id _ ho).2.2;cases this),hs.ws.g,λb hb=>hb,λb hb=> .inl hb⟩
  exact hs.ws.sep _ _ _ _ b (hget i oi hi).1 (hget j oj hj).1 (λe=>hij (hinj (hget i oi hi).2.1 (hget j oj hj).2.1 e)) hbi hbj
 refine(hc.run Z w (λi=>ρ (aR m i)) us hws0 (by simpa using hl) λi p u h3 h4=>?_).mono ?_
 ·refine DC (hr i _ u ?_ h4)
  rw[List.getElem?_map,h3];rfl
 rintro e w' ⟨v,Z',ρ',rfl,hw,hkeep,hv⟩
 let ids:=post.map (·.1)
 let ρ1:=CH (aR m) ids ρ' ρ
 let ks:=rp m post keep
 have hin:∀i,dc post i=true->ρ1 (aR m i)=ρ' i:=λi hi=>DE hnd1 (hhas.1 hi)
 have hout:∀j,j∉ids.map (aR m)->ρ1 j=ρ j:=λj hj=>CI hj
 have hag:∀i,i∉ks->ρ1 i=ρ i:=by
  intro i hi
  by_cases h:i∈ids.map (aR m)
  ·obtain⟨c,hc1,rfl⟩:=List.mem_map.1 h
   rw[hin c (hhas.2 hc1)]
   refine hkeep c ?_
   obtain⟨p,hp,rfl⟩:=List.mem_map.1 hc1
   refine Classical.byContradiction λhn=>hi (List.mem_map.2 ⟨p,List.mem_filter.2 ⟨hp,?_⟩,rfl⟩)
   simp only[Bool.not_eq_true',List.any_eq_false]
   intro k hk2 e
   rw[Nat.eq_of_beq_eq_true e]at hn
   exact hn hk2
  ·exact hout i h
 have hksub:∀i,i∈ks->i∈ids.map (aR m):=by
  intro i hi
  obtain⟨p,hp,rfl⟩:=List.mem_map.1 hi
  exact List.mem_map.2 ⟨p.1,List.mem_map.2 ⟨p,(List.mem_filter.1 hp).1,rfl⟩,rfl⟩
 have hob:∀j o,az (rD (mS ks st.ob) (post.map λp=>(aR m p.1,gt (aR m) p.2))) j=some o->
   (∃c o',az post c=some o'/\j=aR m c/\o=gt (aR m) o')\/(j∉ids.map (aR m)/\∃o',az st.ob j=some o'/\o=mN ks o'):=by
  intro j o ho
  rw[rA hndm]at ho
  split at ho
  ·rename_i o1 h1
   injection ho with ho
   subst ho
   obtain⟨p,hp,e⟩:=List.mem_map.1 (cJ h1)
   injection e with e1 e2
   exact .inl ⟨p.1,p.2,gD hnd2 hp,e1.symm,e2.symm⟩
  ·rename_i h1
   rw[o3]at ho
   obtain⟨o',h2,rfl⟩:=Option.map_eq_some_iff.1 ho
   refine .inr ⟨λhm=>?_,o',h2,rfl⟩
   obtain⟨c,hc1,rfl⟩:=List.mem_map.1 hm
   obtain⟨p,hp,rfl⟩:=List.mem_map.1 hc1
   rw[gD hndm (List.mem_map.2 ⟨p,hp,rfl⟩)]at h1
   cases h1
 have hmany:∀j P Q,az (rD (mS ks st.ob) (post.map λp=>(aR m p.1,gt (aR m) p.2))) j=some (.many P Q)->j∉ids.map (aR m)/\az st.ob j=some (.many P Q):=by
  intro j P Q ho
  rcases hob j _ ho with⟨c,o',hc1,_,e⟩|⟨hj,o',ho',e⟩
  ·have:=hpo _ (cJ hc1)
   cases o'<;>first|(cases e;done)|(cases this;done)
  ·exact⟨hj,by rw[ho',d7 e.symm]⟩
 have hO:∀b,(fh w Z (λi=>ρ (aR m i)) pre).O b->∃i o,az st.ob (aR m i)=some o/\dc post i=true/\aO (ρ (aR m i))=some b:=by
  rintro b ⟨i,o,ho,hb⟩
  exact⟨i,_,(hget i o ho).1,(hget i o ho).2.1,hb⟩
 have hfar:∀j o b,j∉ids.map (aR m)->az st.ob j=some o->aO (ρ j)=some b->¬(fh w Z (λi=>ρ (aR m i)) pre).O b:=by
  intro j o b hj ho hb hOb
  obtain⟨i,o2,ho2,hi,hb2⟩:=hO b hOb
  refine hs.ws.sep j (aR m i) o o2 b ho ho2 (λe=>hj ?_) hb hb2
  rw[e];exact List.mem_map.2 ⟨i,hhas.1 hi,rfl⟩
 have hsame:∀b,b<w.heap.size->¬(fh w Z (λi=>ρ (aR m i)) pre).O b->w'.heap[b]? =w.heap[b]? :=hw.old
 have hzn:∀b,Z b->w'.heap[b]? =w.heap[b]? :=by
  intro b hb
  refine hsame b (hs.ws.zlt b hb) λhOb=>?_
  obtain⟨i,o2,ho2,_,hb2⟩:=hO b hOb
  exact(hs.ws.mine _ _ b ho2 hb2).1 hb
 have hsz:w.heap.size<=w'.heap.size:=hw.size
 have hobase:∀b,(fh w Z (λi=>ρ (aR m i)) pre).O b->S.w0.heap.size<=b\/S.O b:=by
  intro b hOb
  obtain⟨i,o2,ho2,_,hb2⟩:=hO b hOb
  exact(hs.ws.mine _ _ b ho2 hb2).2
 refine⟨v,(yZ (aR m) res).v,⟨st.tm.map (k7 ks),rD (mS ks st.ob) (post.map λp=>(aR m p.1,gt (aR m) p.2))⟩,Z',ρ1,rfl,⟨?_,by simp[hs.len],λi x u hx hu=>?_,hs.df⟩,AQ hin hres hv,hk⟩
 ·refine⟨hw.os.trans hs.ws.os,hw.tape.trans hs.ws.tape,hw.output.trans hs.ws.output,Nat.le_trans hs.ws.size hsz,λb hb hno=>?_,hw.zlt,λj o b ho hb=>?_,λi j oi oj b hi hj hij hbi hbj=>?_,λj o ho=>?_,⟨λid P Q ho=>?_,λi j P Q P' Q' hi hj=>?_⟩,hw.g,λb hb=>hw.z0 b (hs.ws.z0 b hb),λb hb=>?_⟩
  ·refine(hsame b (Nat.lt_of_lt_of_le hb hs.ws.size) λhOb=>?_).trans (hs.ws.old b hb hno)
   rcases hobase b hOb with h|h
   ·omega
   ·exact hno h
  ·rcases hob j o ho with⟨c,o',hc1,rfl,rfl⟩|⟨hj,o',ho',rfl⟩
   ·have hcp:=cA.2 ⟨o',hc1⟩
    rw[hin c hcp]at hb
    obtain⟨h1,h2⟩:=hw.mine c o' b hc1 hb
    refine⟨h1,?_⟩
    rcases h2 with h2|h2
    ·exact .inl (Nat.le_trans hs.ws.size h2)
    ·exact hobase b h2
   ·rw[hout j hj]at hb
    obtain⟨h1,h2⟩:=hs.ws.mine j o' b ho' hb
    refine⟨λhz=>?_,h2⟩
    rcases hw.znew b hz with h3|h3|h3
    ·exact h1 h3
    ·have:=hs.ws.lt ho' hb
     exact absurd (show w.heap.size<=b from h3) Iv
    ·exact hfar j o' b hj ho' hb h3
  ·rcases hob i oi hi with⟨c,o',hc1,rfl,rfl⟩|⟨hi',o',ho',rfl⟩
   ·have hcp:=cA.2 ⟨o',hc1⟩
    rw[hin c hcp]at hbi
    rcases hob j oj hj with⟨c2,o2,hc2,rfl,rfl⟩|⟨hj',o2,ho2,rfl⟩
    ·have hcp2:=cA.2 ⟨o2,hc2⟩
     rw[hin c2 hcp2]at hbj
     exact hw.sep c c2 o' o2 b hc1 hc2 (λe=>hij (by rw[e])) hbi hbj
    ·rw[hout j hj']at hbj
     rcases(hw.mine c o' b hc1 hbi).2 with h|h
     ·have:=hs.ws.lt ho2 hbj
      exact absurd (show w.heap.size<=b from h) Iv
     ·exact hfar j o2 b hj' ho2 hbj h
   ·rw[hout i hi']at hbi
    rcases hob j oj hj with⟨c2,o2,hc2,rfl,rfl⟩|⟨hj',o2,ho2,rfl⟩
    ·have hcp2:=cA.2 ⟨o2,hc2⟩
     rw[hin c2 hcp2]at hbj
     rcases(hw.mine c2 o2 b hc2 hbj).2 with h|h
     ·have:=hs.ws.lt ho' hbi
      exact absurd (show w.heap.size<=b from h) Iv
     ·exact hfar i o' b hi' ho' hbi h
    ·rw[hout j hj']at hbj
     exact hs.ws.sep i j o' o2 b ho' ho2 hij hbi hbj
  ·rcases hob j o ho with⟨c,o',hc1,rfl,rfl⟩|⟨hj,o',ho',rfl⟩
   ·have hcp:=cA.2 ⟨o',hc1⟩
    exact CD (hpo _ (cJ hc1)) (AN hin hcp (hpo _ (cJ hc1)) (CE (hpo _ (cJ hc1)) (hw.obj c o' hc1)))
   ·refine wO (λh=>hj (hksub j h)) hag ?_
    refine(hs.ws.obj j o' ho').mono hw.z0 hzn λb hb=>hsame b (hs.ws.lt ho' hb) (hfar j o' b hj ho' hb)
  ·obtain⟨hj,ho'⟩:=hmany id P Q ho
   obtain⟨h1,h2⟩:=hs.ws.many.ok id P Q ho'
   have hnO:∀b,P b->¬(fh w Z (λi=>ρ (aR m i)) pre).O b:=by
    intro b hb hOb
    obtain⟨i,o2,ho2,_,hb2⟩:=hO b hOb
    exact(h1 b hb).2.2.2 _ _ ho2 hb2
   refine⟨λb hb=>⟨Nat.lt_of_lt_of_le (h1 b hb).1 hsz,λhz=>?_,(h1 b hb).2.2.1,λj o hjo hbj=>?_⟩,λw2 hw2=>h2 w2 λb hb=>(hw2 b hb).trans (hsame b (h1 b hb).1 (hnO b hb))⟩
   ·rcases hw.znew b hz with h3|h3|h3
    ·exact(h1 b hb).2.1 h3
    ·have:=(h1 b hb).1
     exact absurd (show w.heap.size<=b from h3) Iv
    ·exact hnO b hb h3
   ·rcases hob j o hjo with⟨c,o',hc1,rfl,rfl⟩|⟨hj',o',ho2,rfl⟩
    ·rw[hin c (cA.2 ⟨o',hc1⟩)]at hbj
     rcases(hw.mine c o' b hc1 hbj).2 with h3|h3
     ·have:=(h1 b hb).1
      exact absurd (show w.heap.size<=b from h3) Iv
     ·exact hnO b hb h3
    ·rw[hout j hj']at hbj
     exact(h1 b hb).2.2.2 j o' ho2 hbj
  ·exact hs.ws.many.sep i j P Q P' Q' (hmany i P Q hi).2 (hmany j P' Q' hj).2
  ·rcases hw.znew b hb with h|h|h
   ·exact hs.ws.znew b h
   ·exact .inr (.inl (Nat.le_trans hs.ws.size h))
   ·exact .inr (hobase b h)
 ·simp only[List.getElem?_map]at hx
  obtain⟨x0,h0,rfl⟩:=Option.map_eq_some_iff.1 hx
  exact ri hag ((hs.tm i x0 u h0 hu).mono hw.z0 hzn)
theorem aa.meth{E:aE}{S:aZ}{st:ASt}{f:FuncId}{args:List AA}{pre post:List (Nat×AO)}{keep:List Nat}{res:AR}{K:AV->ASt->Prop}{cargs:List AV}(hc:a6 E f args pre post keep res)(m:List (Nat×Nat))
  (hck:mP m pre post res=true) (hargs:(args.map λa=>(px (aR m) a).v)=cargs) (hk:Fo m st pre post keep res K):aa E S f cargs st K:=by
 obtain⟨hpre,hk⟩:=vV hk
 have hk:=z6 (qG (oK hk))
 exact aa.methK hc m hck hargs hpre hk
end Go.Proofs.YtnlhpdbijmnkhaaGreatDoor
namespace Go.Proofs.YtnlhpdbijmnkhaaGreatDoor
open Go.RowKit
theorem a6.of_upd{E:aE}{f:FuncId}{args:List AA}{pre:List (Nat×AO)}{id:Nat}{o o':AO}{keep:List Nat}{res:AR}(enter:∀(us:Array Value) w,(callFunc f us).run E.P w= .ok (.enter f us) w)(hid:az pre id=some o)
  (h : ∀ Z w ρ (us : List Value), WS E.W (fh w Z ρ pre) Z w ρ pre → bB Z w ρ id o → us.length = args.length → (∀ (i : Nat) x u, args[i]? = some x → us[i]? = some u → aV Z w ρ x.v u) →
   Calls E.P f us.toArray w λe w'=>∃v b,e= .returned v/\aO (ρ id)=some b/\w.grownBy w' (some b)/\bB Z w' ρ id o'/\aV Z w' ρ res.v v) (hnf:gC o=true:=by rfl):a6 E f args pre (cm pre id o') keep res:=by
 refine⟨enter,λZ w ρ us hws hl hr=>(h Z w ρ us hws (zG hnf (hws.obj id o hid)) hl hr).mono ?_⟩
 rintro e w' ⟨v,b,rfl,hb,hg,ho,hv⟩
 exact⟨v,Z,ρ,rfl,hws.upd id o o' hid hb hg ho,λ_ _=>rfl,hv⟩
theorem a6.of_same{E:aE}{f:FuncId}{args:List AA}{pre:List (Nat×AO)}{keep:List Nat}{res:AR}(enter:∀(us:Array Value) w,(callFunc f us).run E.P w= .ok (.enter f us) w)
  (h : ∀ Z w ρ (us : List Value), WS E.W (fh w Z ρ pre) Z w ρ pre → us.length = args.length → (∀ (i : Nat) x u, args[i]? = some x → us[i]? = some u → aV Z w ρ x.v u) →
   Calls E.P f us.toArray w λe w'=>∃v,e= .returned v/\w.grownBy w' none/\aV Z w' ρ res.v v):a6 E f args pre pre keep res:=by
 refine⟨enter,λZ w ρ us hws hl hr=>(h Z w ρ us hws hl hr).mono ?_⟩
 rintro e w' ⟨v,rfl,hg,hv⟩
 exact⟨v,Z,ρ,rfl,hws.grow hg (λ_ h=>h) (λ_ h=> .inl h),λ_ _=>rfl,hv⟩
theorem a6.of_gone{E:aE}{f:FuncId}{args:List AA}{pre:List (Nat×AO)}{id:Nat}{o:AO}{res:AR}(enter:∀(us:Array Value) w,(callFunc f us).run E.P w= .ok (.enter f us) w)(hid:az pre id=some o)
  (h : ∀ Z w ρ (us : List Value), WS E.W (fh w Z ρ pre) Z w ρ pre → us.length = args.length → (∀ (i : Nat) x u, args[i]? = some x → us[i]? = some u → aV Z w ρ x.v u) →
   Calls E.P f us.toArray w λe w'=>∃v,e= .returned v/\w.grownBy w' (aO (ρ id))/\∀ρ',aV Z w' ρ' res.v v):a6 E f args pre (cm (gE id pre) id (.frame [] [])) [] res:=by
 refine⟨enter,λZ w ρ us hws hl hr=>(h Z w ρ us hws hl hr).mono ?_⟩
 rintro e w' ⟨v,rfl,hg,hv⟩
 refine⟨v,Z,_,rfl,hws.renew id undef (.frame [] []) hg (λg e=>⟨⟨o,hid⟩,e⟩) (λb hb=>(by cases hb)) ⟨by simp,rfl,by simp⟩,Iy,hv _⟩
theorem aa.upd{E:aE}{S:aZ}{tm:List AV}{ob:List (Nat×AO)}{f:FuncId}{args:List AA}{o o':AO}{res:AR}{K:AV->ASt->Prop}{cargs:List AV}(hc:a6 E f args [(1000,o)] [(1000,o')] [1000] res)(id:Nat)
  (hck:mP [(1000,id)] [(1000,o)] [(1000,o')] res=true) (hargs:(args.map λa=>(px (aR [(1000,id)]) a).v)=cargs) (hob:az ob id=some (gt (aR [(1000,id)]) o))
  (hk:BA [(1000,id)] o' λo'=>de id o' ob λob=>BB [(1000,id)] res λr=>K r ⟨tm,ob⟩):aa E S f cargs ⟨tm,ob⟩ K:=
 aa.meth hc [(1000,id)] hck hargs (show aOb ob id λo1=>o1=gt (aR [(1000,id)]) o/\_ from uL hob ⟨rfl,hk⟩)
theorem lm{Z:Nat->Prop}{w:World}{ρ:Nat->Value}{id k s off:Nat}{u:Value}(h:aV Z w ρ (AA.v (.one (.ref id k s off))) u):∃b,aO (ρ id)=some b/\u= .pointer (some ⟨b,k*s+off,none⟩):=by
 cases h with
 |one _ _ h=>exact h
theorem cp{w:World}{b i:Nat}{us:List Value}{t:TypeId}{v:Value}(h:w.heap[b]? =some (.cells us.toArray t (0,0))):(w.setCell ⟨b,i,none⟩ v).heap[b]? =some (.cells (us.set i v).toArray t (0,0)):=by
 have:=Lib.heap_setCell_same (i:=i) h v
 simpa using this
end Go.Proofs.YtnlhpdbijmnkhaaGreatDoor
namespace Go.Proofs.YtnlhpdbijmnkhaaGreatDoor
open Go.RowKit
structure Bk (E:aE) (f:FuncId) (args:List AV) (c:Nat) (o0 o1:AO) (r:AV):Prop where
 h:∀{S:aZ} {tm:List AV} {ob:List (Nat×AO)} {K:AV->ASt->Prop},az ob c=some o0->K r ⟨tm,cm ob c o1⟩->aa E S f args ⟨tm,ob⟩ K
theorem Bk.of{E:aE}{f:FuncId}{args:List AA}{o o':AO}{res:AR}{cargs:List AV}{o0 o1:AO}{r:AV}(hc:a6 E f args [(1000,o)] [(1000,o')] [1000] res)(id:Nat)
  (hck:mP [(1000,id)] [(1000,o)] [(1000,o')] res=true) (hargs:(args.map λa=>(px (aR [(1000,id)]) a).v)=cargs) (h0:gt (aR [(1000,id)]) o=o0) (h1:gt (aR [(1000,id)]) o'=o1) (hr:(yZ (aR [(1000,id)]) res).v=r):Bk E f cargs id o0 o1 r:=by
 subst h0 h1 hr
 refine⟨fun{S tm ob K} hget hk=>aa.methK hc [(1000,id)] hck hargs (λi x hx=>?_) ?_⟩
 ·rw[List.mem_singleton]at hx
  injection hx with e1 e2
  subst e1 e2
  exact hget
 ·have e:rp [(1000,id)] [(1000,o')] [1000]=[]:=rfl
  rw[e]
  have e2:k7 []=_root_.id:=rfl
  rw[e2,List.map_id]
  exact hk
section
variable {E:aE} {S:aZ} {Z:Nat->Prop} {ρ:Nat->Value} {P:ASt} {tm:List AV} {ob:List (Nat×AO)} {a:Act} {w:World} {o:Oper} {c:Nat} {o0 o1:AO} {r:AV}
end
section
variable {E:aE} {S:aZ} {ops:List Oper} {D:List (List Nat)} {R:List (AV×Option AO)} {n0:Nat} {st0:ASt}
end
section
variable {E:aE} {S:aZ} {ops:Array Oper} {n0:Nat} {st0:ASt} {R:List (AV×Option AO)} {K:ASt->Prop} {Q:Exit->Act->World->Prop}
end
end Go.Proofs.YtnlhpdbijmnkhaaGreatDoor
