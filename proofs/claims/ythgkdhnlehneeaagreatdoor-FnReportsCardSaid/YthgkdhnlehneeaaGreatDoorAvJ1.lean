/- AvJ1 -/
import Derived.WalkKit
import Derived.Below
import Derived.Maps.AppendAt
import Derived.Laws.MakeOwn
import Derived.Laws.OwnMore
import Derived.OwnWalk
import Derived.Orders
set_option maxHeartbeats 8000000
set_option linter.unusedVariables false
set_option linter.unusedSimpArgs false
set_option maxRecDepth 100000
open List (getElem?_drop getElem?_map getElem?_take mem_of_mem_take)
open Nat (add_assoc add_mul eq_of_beq_eq_true le_trans lt_of_lt_of_le zero_add zero_le)
open Option (map_eq_some_iff map_none)
namespace Go.Proofs.YthgkdhnlehneeaaGreatDoor
section
def rg:Nat->Nat->List Nat
 |_,0=>[]
 |a,n+1=>a::rg a.succ n
theorem ak{p:Prop}(h:p:=by simp only[List.length_map,List.length_nil,List.length_append,List.length_cons,List.length_take,List.length_drop]<;>omega):p:=h
theorem an{p:Prop}(h:p:=by simp only[bne_iff_ne,ne_eq,decide_eq_true_eq,decide_eq_false_iff_not,List.length_map,bne_eq_false_iff_eq]at*;omega):p:=h
theorem aq{p:Prop}(h:p:=by simp only[List.length_map,List.length_nil,List.length_append,List.length_cons,List.length_take]<;>omega):p:=h
theorem az{p:Prop}(h:p:=by simp only[List.length_map,List.length_nil,List.length_append,List.length_cons]<;>omega):p:=h
theorem aC{p:Prop}(h:p:=by simp only[List.length_map,List.length_nil,List.length_cons,List.length_take]<;>omega):p:=h
theorem aB{p:Prop}(h:p:=by first|rfl|(simp only[List.map_append,List.map_cons,List.map_nil];rfl)):p:=h
theorem aA{p:Prop}(h:p:=by first|(simp_all;done)|(exfalso;assumption)):p:=h
theorem au{p:Prop}(h:p:=by first|(simp;done)|(simp;omega)):p:=h
theorem am{p:Prop}(h:p:=by simp only[List.length_map];omega):p:=h
theorem ay{p:Prop}(h:p:=by simp only;omega):p:=h
theorem ax{p:Prop}(h:p:=by simp<;>omega):p:=h
theorem al{p:Prop}(h:p:=by simp;omega):p:=h
theorem aj{p:Prop}(h:p:=by assumption):p:=h
theorem ae{p:Prop}(h:p:=by kernel_rfl):p:=h
theorem ar{p:Prop}(h:p:=by simp_all):p:=h
theorem ai{p:Prop}(h:p:=by decide):p:=h
theorem ac{p:Prop}(h:p:=by omega):p:=h
theorem ah{p:Prop}(h:p:=by simp):p:=h
open Go.RowKit
inductive AD where
 |pv (v:Value)
 |sl (xs:List (List AD))
 |x (R:(Nat->Prop)->World->Value->Prop)
inductive AC where
 |dead
 |und
 |d (x:AD)
 |nil
 |own (id:Nat)
 |ref (id k s off:Nat)
 |ptr (cs:List AD)
inductive AV where
 |one (c:AC)
 |agg (cs:List AC)
 |tup (vs:List AV)
inductive AO where
 |cells (t:TypeId) (cs:List AC)
 |row (e:TypeId) (s:Nat) (xs:List (List AD))
 |frame (vs:List AV) (us:List Value)
 |any (Q:World->Value->Prop)
 |many (P:Nat->Prop) (Q:World->Prop)
def bw:List (Nat×AO)->Nat->Option AO
 |[],_=>none
 |(k,o)::r,i=>if k=i then some o else bw r i
def Xi(Z:Nat->Prop)(w:World)(A:Option Addr)(us:List Value):Prop:=
 us=[]\/∃b off,A=some ⟨b,off,none⟩/\Z b/\∀i u,us[i]? =some u->w.cell? ⟨b,off+i,none⟩=some u
inductive co (Z:Nat->Prop) (w:World):AD->Value->Prop
 |pv (v:Value) (h1:v.oneCell'=true):co Z w (.pv v) v
 |sl (xs:List (List AD)) (A:Option Addr) (cap s:Nat) (us:List (List Value))
   (hc:xs.length<=cap) (hm:cap<=maxLen) (hl:us.length=xs.length)
   (hx:∀x∈xs,x.length=s) (hu:∀u∈us,u.length=s)
   (hr:Xi Z w A us.flatten)
   (h:∀(i j:Nat) x u a b,xs[i]? =some x->us[i]? =some u->x[j]? =some a->u[j]? =some b->co Z w a b):
   co Z w (.sl xs) (.slice A xs.length cap)
 |x (R:(Nat->Prop)->World->Value->Prop) (v:Value) (h1:v.oneCell'=true)
   (h:∀(Z':Nat->Prop) (w':World),(∀b,Z b->Z' b)->(∀b,Z b->w'.heap[b]? =w.heap[b]?)->R Z' w' v):co Z w (.x R) v
theorem co.one{Z:Nat->Prop}{w:World}{d:AD}{v:Value}(h:co Z w d v):v.oneCell'=true:=by
 cases h with
 |pv _ h1=>exact h1
 |sl=>rfl
 |x _ _ h1 _=>exact h1
theorem co.mono{Z Z':Nat->Prop}{w w':World}(hz:∀b,Z b->Z' b)(hb:∀b,Z b->w'.heap[b]? =w.heap[b]?){d:AD}{v:Value}(h:co Z w d v):co Z' w' d v:=by
 induction h with
 |pv v h1=>exact .pv v h1
 |sl xs A cap s us hc hm hl hx hu hr h ih=>
  refine .sl xs A cap s us hc hm hl hx hu ?_ ih;rcases hr with h0|⟨b,off,hA,hZ,hcell⟩
  ·exact .inl h0
  ·exact .inr ⟨b,off,hA,hz b hZ,λi u hu=>(World.cell?_of_block (a:=⟨b,off+i,none⟩) (hb b hZ)).trans (hcell i u hu)⟩
 |x R v h1 h=>exact .x R v h1 λZ2 w2 hz2 hb2=>h Z2 w2 (λb hZ=>hz2 b (hz b hZ)) λb hZ=>(hb2 b (hz b hZ)).trans (hb b hZ)
def ch:Value->Option Nat
 | .pointer (some a)=>some a.block
 | .slice (some a) _ _=>some a.block
 | .map (some b)=>some b
 |_=>none
def Hg(Z:Nat->Prop)(w:World)(cs:List AD)(v:Value):Prop:=
 ∃(b off:Nat) (us:List Value),v= .pointer (some ⟨b,off,none⟩)/\Z b/\us.length=cs.length/\(∀(i:Nat) u,us[i]? =some u->w.cell? ⟨b,off+i,none⟩=some u)/\∀(i:Nat) a u,cs[i]? =some a->us[i]? =some u->co Z w a u
def fp(Z:Nat->Prop)(w:World)(ρ:Nat->Value):AC->Value->Prop
 | .dead,_=>True
 | .und,v=>v=undef
 | .d x,v=>co Z w x v
 | .nil,v=>v= .slice none 0 0
 | .own id,v=>v=ρ id/\v.oneCell'=true
 | .ref id k s off,v=>∃b,ch (ρ id)=some b/\v= .pointer (some ⟨b,k*s+off,none⟩)
 | .ptr cs,v=>Hg Z w cs v
inductive cu (Z:Nat->Prop) (w:World) (ρ:Nat->Value):AV->Value->Prop
 |one (c:AC) (v:Value) (h:fp Z w ρ c v):cu Z w ρ (.one c) v
 |agg (cs:List AC) (us:List Value) (hl:us.length=cs.length) (h:∀(i:Nat) c u,cs[i]? =some c->us[i]? =some u->fp Z w ρ c u):cu Z w ρ (.agg cs) (.agg us.toArray)
 |tup (vs:List AV) (us:List Value) (hl:us.length=vs.length) (h:∀(i:Nat) x u,vs[i]? =some x->us[i]? =some u->cu Z w ρ x u):cu Z w ρ (.tup vs) (.tuple us.toArray)
def cZ(Z:Nat->Prop)(w:World)(ρ:Nat->Value)(id:Nat):AO->Prop
 | .cells t cs=>∃(b:Nat) (us:List Value),ρ id= .pointer (some ⟨b,0,none⟩)/\w.heap[b]? =some (.cells us.toArray t (0,0))/\us.length=cs.length/\∀(i:Nat) c u,cs[i]? =some c->us[i]? =some u->fp Z w ρ c u
 | .row e s xs=>∃us:List (List Value),0<s/\us.length=xs.length/\(∀x∈xs,x.length=s)/\(∀u∈us,u.length=s)/\w.ownsRow 0 e s (ρ id) xs.length us.flatten/\
   ∀(i j:Nat) x u a b,xs[i]? =some x->us[i]? =some u->x[j]? =some a->u[j]? =some b->co Z w a b
 | .frame vs us=>ρ id=undef/\us.length=vs.length/\∀(i:Nat) x u,vs[i]? =some x->us[i]? =some u->cu Z w ρ x u
 | .any Q=>∃b,ch (ρ id)=some b/\b<w.heap.size/\∀w':World,w'.heap[b]? =w.heap[b]?->Q w' (ρ id)
 | .many _ _=>False
def km(Z:Nat->Prop)(w:World)(ρ:Nat->Value)(id:Nat)(o:AO):Prop:=
 match o with
 | .many _ _=>ρ id=undef
 |o=>cZ Z w ρ id o
section
variable {Z Z':Nat->Prop} {w w':World} {ρ:Nat->Value}
theorem Hg.mono(hz:∀b,Z b->Z' b)(hb:∀b,Z b->w'.heap[b]? =w.heap[b]?){cs:List AD}{v:Value}(h:Hg Z w cs v):Hg Z' w' cs v:=by
 obtain⟨b,off,us,hv,hZ,hl,hc,hd⟩:=h;exact⟨b,off,us,hv,hz b hZ,hl,λi u hu=>(World.cell?_of_block (a:=⟨b,off+i,none⟩) (hb b hZ)).trans (hc i u hu),λi a u ha hu=>(hd i a u ha hu).mono hz hb⟩
theorem fp.mono(hz:∀b,Z b->Z' b)(hb:∀b,Z b->w'.heap[b]? =w.heap[b]?){c:AC}{v:Value}(h:fp Z w ρ c v):fp Z' w' ρ c v:=by
 cases c with
 |d x=>exact co.mono hz hb h
 |ptr cs=>exact Hg.mono hz hb h
 |_=>exact h
theorem cu.mono(hz:∀b,Z b->Z' b)(hb:∀b,Z b->w'.heap[b]? =w.heap[b]?){x:AV}{v:Value}(h:cu Z w ρ x v):cu Z' w' ρ x v:=by
 induction h with
 |one c v h=>exact .one c v (h.mono hz hb)
 |agg cs us hl h=>exact .agg cs us hl λi c u hc hu=>(h i c u hc hu).mono hz hb
 |tup vs us hl h ih=>exact .tup vs us hl ih
theorem cZ.mono(hz:∀b,Z b->Z' b)(hb:∀b,Z b->w'.heap[b]? =w.heap[b]?){id:Nat}(ho:∀b,ch (ρ id)=some b->w'.heap[b]? =w.heap[b]?){o:AO}(h:cZ Z w ρ id o):cZ Z' w' ρ id o:=by
 cases o with
 |cells t cs=>
  obtain⟨b,us,hp,hg,hl,hc⟩:=h;refine⟨b,us,hp,(ho b (by rw[hp];rfl)).trans hg,hl,λi c u h1 h2=>(hc i c u h1 h2).mono hz hb⟩
 |row e s xs=>
  obtain⟨us,hs,hl,hx,hu,hown,hd⟩:=h;refine⟨us,hs,hl,hx,hu,⟨hown.1,?_⟩,λi j x u a b h1 h2 h3 h4=>(hd i j x u a b h1 h2 h3 h4).mono hz hb⟩;rcases hown.2 with h0|⟨g,cap,cur,hv,hbg,hg,r⟩
  ·exact .inl h0
  ·exact .inr ⟨g,cap,cur,hv,hbg,(ho g (by rw[hv];rfl)).trans hg,r⟩
 |frame vs us=>
  obtain⟨hr,hl,h⟩:=h;exact⟨hr,hl,λi x u hx hu=>(h i x u hx hu).mono hz hb⟩
 |any Q=>
  obtain⟨b,hbk,hlt,hq⟩:=h;refine⟨b,hbk,?_,λw'' hw=>hq w'' (hw.trans (ho b hbk))⟩;have e:=ho b hbk;rw[Array.getElem?_eq_getElem hlt]at e;exact(Array.getElem?_eq_some_iff.1 e).1
 |many P Q=>exact h.elim
theorem cZ.up{id:Nat}{o:AO}(h:cZ Z w ρ id o):km Z w ρ id o:=by
 cases o with
 |many P Q=>exact h.elim
 |_=>exact h
theorem km.mono(hz:∀b,Z b->Z' b)(hb:∀b,Z b->w'.heap[b]? =w.heap[b]?){id:Nat}{o:AO}(ho:∀b,ch (ρ id)=some b->w'.heap[b]? =w.heap[b]?)(h:km Z w ρ id o):km Z' w' ρ id o:=by
 cases o with
 |many P Q=>exact h
 |cells t cs=>exact cZ.mono hz hb ho (show cZ Z w ρ id (.cells t cs)from h)
 |row e s xs=>exact cZ.mono hz hb ho (show cZ Z w ρ id (.row e s xs)from h)
 |frame vs us=>exact cZ.mono hz hb ho (show cZ Z w ρ id (.frame vs us)from h)
 |any Q=>exact cZ.mono hz hb ho (show cZ Z w ρ id (.any Q)from h)
end
def jO(id:Nat):AC->AC
 | .own i=>if i=id then .dead else .own i
 | .ref i k s off=>if i=id then .dead else .ref i k s off
 |c=>c
def nP(id:Nat):AV->AV
 | .one c=> .one (jO id c)
 | .agg cs=> .agg (cs.map (jO id))
 | .tup _=> .one .dead
theorem nt{Z:Nat->Prop}{w:World}{ρ:Nat->Value}{id:Nat}{c:AC}{v y:Value}(h:fp Z w ρ c v):fp Z w (λi=>if i=id then y else ρ i) (jO id c) v:=by
 cases c with
 |own i=>
  by_cases hn:i=id
  ·simp only[jO,if_pos hn];trivial
  ·simp only[jO,if_neg hn];simpa only[fp,if_neg hn]using h
 |ref i k s off=>
  by_cases hn:i=id
  ·simp only[jO,if_pos hn];trivial
  ·simp only[jO,if_neg hn];simpa only[fp,if_neg hn]using h
 |_=>exact h
theorem qo{Z:Nat->Prop}{w:World}{ρ:Nat->Value}{id:Nat}{x:AV}{v y:Value}(h:cu Z w ρ x v):cu Z w (λi=>if i=id then y else ρ i) (nP id x) v:=by
 cases h with
 |one c v h=>exact .one _ _ (nt h)
 |agg cs us hl h=>
  refine .agg _ us (by simp[hl]) λi c u hc hu=>?_;rw[getElem?_map]at hc;obtain⟨c0,h0,rfl⟩:=map_eq_some_iff.1 hc;exact nt (h i c0 u h0 hu)
 |tup vs us hl h=>exact .one _ _ trivial
def ql(id:Nat):AO->AO
 | .cells t cs=> .cells t (cs.map (jO id))
 | .row e s xs=> .row e s xs
 | .frame vs us=> .frame (vs.map (nP id)) us
 | .any Q=> .any Q
 | .many P Q=> .many P Q
theorem gd{Z:Nat->Prop}{w:World}{ρ:Nat->Value}{id j:Nat}(hj:j≠id){o:AO}{y:Value}(h:cZ Z w ρ j o):cZ Z w (λi=>if i=id then y else ρ i) j (ql id o):=by
 cases o with
 |cells t cs=>
  obtain⟨b,us,hp,hg,hl,hc⟩:=h;refine⟨b,us,by simp only[if_neg hj];exact hp,hg,by simp[hl],λi c u h1 h2=>?_⟩;rw[getElem?_map]at h1;obtain⟨c0,h0,rfl⟩:=map_eq_some_iff.1 h1;exact nt (hc i c0 u h0 h2)
 |row e s xs=>
  obtain⟨us,hs,hl,hx,hu,hown,hd⟩:=h;exact⟨us,hs,hl,hx,hu,by simp only[if_neg hj];exact hown,hd⟩
 |frame vs us=>
  obtain⟨hr,hl,h⟩:=h;refine⟨by simp only[if_neg hj];exact hr,by simp[hl],λi x u hx hu=>?_⟩;rw[getElem?_map]at hx;obtain⟨x0,h0,rfl⟩:=map_eq_some_iff.1 hx;exact qo (h i x0 u h0 hu)
 |any Q=>
  obtain⟨b,hbk,hlt,hq⟩:=h;exact⟨b,by simp only[if_neg hj];exact hbk,hlt,λw' hw=>by simp only[if_neg hj];exact hq w' hw⟩
 |many P Q=>exact h.elim
theorem Ob{Z:Nat->Prop}{w:World}{ρ:Nat->Value}{id j:Nat}(hj:j≠id){o:AO}{y:Value}(h:km Z w ρ j o):km Z w (λi=>if i=id then y else ρ i) j (ql id o):=by
 cases o with
 |many P Q=>show(if j=id then y else ρ j)=undef;rw[if_neg hj];exact h
 |cells t cs=>exact gd hj (o:= .cells t cs) h
 |row e s xs=>exact gd hj (o:= .row e s xs) h
 |frame vs us=>exact gd hj (o:= .frame vs us) h
 |any Q=>exact gd (Z:=Z) hj (o:= .any Q) h
theorem Oa{id:Nat}{o:AO}{P:Nat->Prop}{Q:World->Prop}(h:ql id o= .many P Q):o= .many P Q:=by
 cases o<;>first|exact h|cases h
def jG:List (Nat×AO)->Nat->AO->List (Nat×AO)
 |[],i,o=>[(i,o)]
 |(k,x)::r,i,o=>if k=i then(i,o)::r else(k,x)::jG r i o
def ye(id:Nat)(ob:List (Nat×AO)):List (Nat×AO):=ob.map λp=>(p.1,ql id p.2)
theorem dy(ob:List (Nat×AO))(i j:Nat)(o:AO):bw (jG ob i o) j=if i=j then some o else bw ob j:=by
 induction ob with
 |nil=>simp[jG,bw]
 |cons p r ih=>
  obtain⟨k,x⟩:=p;simp only[jG];split
  ·rename_i h;subst h;simp only[bw];split<;>simp_all
  ·rename_i h;simp only[bw,ih];split
   ·rename_i h2;subst h2;rw[if_neg (λe=>h e.symm)]
   ·rfl
theorem yP(ob:List (Nat×AO))(id j:Nat):bw (ye id ob) j=(bw ob j).map (ql id):=by
 induction ob with
 |nil=>rfl
 |cons p r ih=>
  obtain⟨k,x⟩:=p;simp only[ye,List.map_cons,bw]at*
  split
  ·rfl
  ·exact ih
theorem cZ.blk_lt{Z:Nat->Prop}{w:World}{ρ:Nat->Value}{id:Nat}{o:AO}(h:cZ Z w ρ id o):∀b,ch (ρ id)=some b->b<w.heap.size:=by
 intro b hb;cases o with
 |cells t cs=>
  obtain⟨b',us,hp,hg,_⟩:=h;rw[hp]at hb;injection hb with hb
  subst hb;exact(Array.getElem?_eq_some_iff.1 hg).1
 |row e s xs=>
  obtain⟨us,_,_,_,_,hown,_⟩:=h;refine(hown.lt b ?_).2;revert hb;unfold ch Value.ownBlock;cases hv:ρ id with
  |pointer a=>
   exfalso;rcases hown.2 with⟨h0,_⟩|⟨g,cap,cur,h0,_⟩<;>rw[hv]at h0<;>cases h0
  |slice a n c=>cases a<;>simp
  |map a=>
   exfalso;rcases hown.2 with⟨h0,_⟩|⟨g,cap,cur,h0,_⟩<;>rw[hv]at h0<;>cases h0
  |_=>simp
 |frame vs us=>rw[h.1]at hb;cases hb
 |any Q=>
  obtain⟨b',hb',hlt,_⟩:=h;rw[hb']at hb;injection hb with hb
  subst hb;exact hlt
 |many P Q=>exact h.elim
theorem km.blk_lt{Z:Nat->Prop}{w:World}{ρ:Nat->Value}{id:Nat}{o:AO}(h:km Z w ρ id o):∀b,ch (ρ id)=some b->b<w.heap.size:=by
 cases o with
 |many P Q=>intro b hb;rw[show ρ id=undef from h]at hb;cases hb
 |cells t cs=>exact cZ.blk_lt (o:= .cells t cs) h
 |row e s xs=>exact cZ.blk_lt (o:= .row e s xs) h
 |frame vs us=>exact cZ.blk_lt (o:= .frame vs us) h
 |any Q=>exact cZ.blk_lt (Z:=Z) (o:= .any Q) h
end
section
open Go.RowKit
structure ASt where
 tm:List AV
 ob:List (Nat×AO)
def GZ(T:World->Prop)(Z:Nat->Prop)(w:World):Prop:=∃w1,T w1/\Below w1.heap.size w1 w/\∀b,b<w1.heap.size->Z b
structure bZ where
 w0:World
 O:Nat->Prop
 Z0:Nat->Prop
structure kj (S:bZ) (Z:Nat->Prop) (w:World) (ρ:Nat->Value) (ob:List (Nat×AO)):Prop where
 ok:∀id P Q,bw ob id=some (.many P Q)->(∀b,P b->b<w.heap.size/\¬Z b/\(S.w0.heap.size<=b\/S.O b)/\∀j o,bw ob j=some o->ch (ρ j)≠some b)/\∀w':World,(∀b,P b->w'.heap[b]? =w.heap[b]?)->Q w'
 sep:∀i j P Q P' Q',bw ob i=some (.many P Q)->bw ob j=some (.many P' Q')->i≠j->∀b,P b->P' b->False
theorem abs{S:bZ}{Z:Nat->Prop}{w:World}{ρ:Nat->Value}{ob:List (Nat×AO)}(h:∀id P Q,bw ob id≠some (.many P Q)):kj S Z w ρ ob:=
 ⟨λid P Q ho=>(h id P Q ho).elim,λi j P Q P' Q' ho=>(h i P Q ho).elim⟩
theorem kj.nil{S:bZ}{Z:Nat->Prop}{w:World}{ρ:Nat->Value}:kj S Z w ρ []:=abs λ_ _ _ h=>by cases h
section
variable {S:bZ} {Z Z':Nat->Prop} {w w':World} {ρ:Nat->Value} {ob ob':List (Nat×AO)}
theorem kj.sub(h:kj S Z w ρ ob)(hs:∀id o,bw ob' id=some o->bw ob id=some o):kj S Z w ρ ob':=
 ⟨λid P Q ho=>⟨λb hb=>by obtain⟨h1,h2,h3,h4⟩:=(h.ok id P Q (hs _ _ ho)).1 b hb;exact⟨h1,h2,h3,λj o hj=>h4 j o (hs _ _ hj)⟩,(h.ok id P Q (hs _ _ ho)).2⟩,
  λi j P Q P' Q' hi hj=>h.sep i j P Q P' Q' (hs _ _ hi) (hs _ _ hj)⟩
theorem kj.step(h:kj S Z w ρ ob){row:Option Nat}(hg:w.grownBy w' row)(hr:∀g,row=some g->∃id o,bw ob id=some o/\ch (ρ id)=some g)(hz:∀b,Z' b->Z b\/w.heap.size<=b):kj S Z' w' ρ ob:=by
 refine⟨λid P Q ho=>?_,h.sep⟩;obtain⟨h1,h2⟩:=h.ok id P Q ho;have same:∀b,P b->w'.heap[b]? =w.heap[b]? :=λb hb=>hg.block b (h1 b hb).1 λe=>by
  obtain⟨id2,o2,ho2,hb2⟩:=hr b e.symm;exact(h1 b hb).2.2.2 id2 o2 ho2 hb2
 refine⟨λb hb=>⟨lt_of_lt_of_le (h1 b hb).1 hg.size,λhzb=>?_,(h1 b hb).2.2.1,(h1 b hb).2.2.2⟩,λw2 hw=>h2 w2 λb hb=>(hw b hb).trans (same b hb)⟩;rcases hz b hzb with hh|hh
 ·exact(h1 b hb).2.1 hh
 ·have:=(h1 b hb).1;omega
end
structure WS (T:World->Prop) (S:bZ) (Z:Nat->Prop) (w:World) (ρ:Nat->Value) (ob:List (Nat×AO)):Prop where
 os:w.os=S.w0.os
 tape:w.tape=S.w0.tape
 output:w.output=S.w0.output
 size:S.w0.heap.size<=w.heap.size
 old:∀b,b<S.w0.heap.size->¬S.O b->w.heap[b]? =S.w0.heap[b]?
 zlt:∀b,Z b->b<w.heap.size
 mine:∀id o b,bw ob id=some o->ch (ρ id)=some b->¬Z b/\(S.w0.heap.size<=b\/S.O b)
 sep:∀i j oi oj b,bw ob i=some oi->bw ob j=some oj->i≠j->ch (ρ i)=some b->ch (ρ j)=some b->False
 obj:∀id o,bw ob id=some o->km Z w ρ id o
 many:kj S Z w ρ ob
 g:GZ T Z w
 z0:∀b,S.Z0 b->Z b
 znew:∀b,Z b->S.Z0 b\/S.w0.heap.size<=b\/S.O b
theorem GZ.step{T:World->Prop}{Z Z':Nat->Prop}{w w':World}{row:Option Nat}(h:GZ T Z w)(hg:w.grownBy w' row)(hr:∀g,row=some g->¬Z g)(hz:∀b,Z b->Z' b):GZ T Z' w':=by
 obtain⟨w1,h1,hb,hz1⟩:=h;refine⟨w1,h1,⟨hg.os.trans hb.os,hg.tape.trans hb.tape,hg.output.trans hb.output,le_trans hb.size hg.size,λk hk=>?_⟩,λb hb=>hz b (hz1 b hb)⟩;exact(hg.block k (lt_of_lt_of_le hk hb.size) (λe=>hr k e.symm (hz1 k hk))).trans (hb.block k hk)
section
variable {T:World->Prop} {S:bZ} {Z Z':Nat->Prop} {w w':World} {ρ:Nat->Value} {ob:List (Nat×AO)}
theorem WS.lt(h:WS T S Z w ρ ob){id:Nat}{o:AO}{b:Nat}(ho:bw ob id=some o)(hb:ch (ρ id)=some b):b<w.heap.size:=(h.obj id o ho).blk_lt b hb
theorem WS.zsame(h:WS T S Z w ρ ob){row:Option Nat}(hg:w.grownBy w' row)(hr:∀g,row=some g->¬Z g):∀b,Z b->w'.heap[b]? =w.heap[b]? :=
 λb hb=>hg.block b (h.zlt b hb) (λe=>hr b e.symm hb)
theorem WS.grow(h:WS T S Z w ρ ob)(hg:w.grownBy w' none)(hz:∀b,Z b->Z' b)(hz2:∀b,Z' b->Z b\/(w.heap.size<=b/\b<w'.heap.size)):WS T S Z' w' ρ ob:=by
 have hzs:=h.zsame hg (by simp);refine⟨hg.os.trans h.os,hg.tape.trans h.tape,hg.output.trans h.output,le_trans h.size hg.size,λb hb ho=>(hg.block b (lt_of_lt_of_le hb h.size) (by simp)).trans (h.old b hb ho),λb hb=>?_,λid o b ho hb=>?_,h.sep,λid o ho=>?_,h.many.step hg (by simp) (λb hb=>(hz2 b hb).imp (λh=>h) And.left),h.g.step hg (by simp) hz,λb hb=>hz b (h.z0 b hb),λb hb=>?_⟩
 ·rcases hz2 b hb with hb|hb
  ·exact lt_of_lt_of_le (h.zlt b hb) hg.size
  ·exact hb.2
 ·obtain⟨h1,h2⟩:=h.mine id o b ho hb;refine⟨λhzb=>?_,h2⟩;rcases hz2 b hzb with hb'|hb'
  ·exact h1 hb'
  ·have:=h.lt ho hb;omega
 ·exact(h.obj id o ho).mono hz hzs λb hb=>hg.block b (h.lt ho hb) (by simp)
 ·rcases hz2 b hb with hb|hb
  ·exact h.znew b hb
  ·have:=h.size;exact .inr (.inl (by omega))
theorem WS.renew(h:WS T S Z w ρ ob)(id:Nat)(y:Value)(o':AO){row:Option Nat}(hg:w.grownBy w' row)
  (hrow:∀g,row=some g->(∃o,bw ob id=some o)/\ch (ρ id)=some g)
  (hy:∀b,ch y=some b->((∃o,bw ob id=some o)/\ch (ρ id)=some b)\/w.heap.size<=b)
  (hrel:cZ Z w' (λi=>if i=id then y else ρ i) id o'):WS T S Z w' (λi=>if i=id then y else ρ i) (jG (ye id ob) id o'):=by
 have hr:∀g,row=some g->¬Z g:=by
  intro g e;obtain⟨⟨o,ho⟩,hb⟩:=hrow g e;exact(h.mine id o g ho hb).1
 have hzs:=h.zsame hg hr;have old:∀j o,j≠id->bw (jG (ye id ob) id o') j=some o->∃o0,bw ob j=some o0/\o=ql id o0:=by
  intro j o hj ho;rw[dy,if_neg (λe=>hj e.symm),yP]at ho;obtain⟨o0,h0,h1⟩:=map_eq_some_iff.1 ho;exact⟨o0,h0,h1.symm⟩
 have far:∀j o0 b,j≠id->bw ob j=some o0->ch (ρ j)=some b->w'.heap[b]? =w.heap[b]? :=by
  intro j o0 b hj h0 hb;refine hg.block b (h.lt h0 hb) (λe=>?_);obtain⟨⟨o,ho⟩,hb2⟩:=hrow b e.symm;exact h.sep j id o0 o b h0 ho hj hb hb2
 refine⟨hg.os.trans h.os,hg.tape.trans h.tape,hg.output.trans h.output,le_trans h.size hg.size,λb hb ho=>?_,λb hb=>lt_of_lt_of_le (h.zlt b hb) hg.size,λj o b ho hb=>?_,λi j oi oj b hi hj hij hbi hbj=>?_,λj o ho=>?_,?_,h.g.step hg hr (λ_ h=>h),h.z0,h.znew⟩
 ·refine(hg.block b (lt_of_lt_of_le hb h.size) (λe=>?_)).trans (h.old b hb ho);obtain⟨⟨o,ho'⟩,hb2⟩:=hrow b e.symm;rcases(h.mine id o b ho' hb2).2 with h3|h3
  ·omega
  ·exact ho h3
 ·by_cases hj:j=id
  ·subst hj;simp only[if_true]at hb;rcases hy b hb with⟨⟨o0,h0⟩,hb0⟩|hb0
   ·exact h.mine j o0 b h0 hb0
   ·refine⟨λhz=>?_,.inl ?_⟩
    ·have:=h.zlt b hz;omega
    ·have:=h.size;omega
  ·obtain⟨o0,h0,_⟩:=old j o hj ho;simp only[if_neg hj]at hb;exact h.mine j o0 b h0 hb
 ·by_cases hi0:i=id
  ·subst hi0;have hj0:j≠i:=λe=>hij e.symm;obtain⟨o0,h0,_⟩:=old j oj hj0 hj;simp only[if_neg hj0,if_true]at hbi hbj;rcases hy b hbi with⟨⟨o1,h1⟩,hb1⟩|hb1
   ·exact h.sep i j o1 o0 b h1 h0 hij hb1 hbj
   ·have:=h.lt h0 hbj;omega
  ·obtain⟨o0,h0,_⟩:=old i oi hi0 hi;simp only[if_neg hi0]at hbi;by_cases hj0:j=id
   ·subst hj0;simp only[if_true]at hbj;rcases hy b hbj with⟨⟨o1,h1⟩,hb1⟩|hb1
    ·exact h.sep i j o0 o1 b h0 h1 hij hbi hb1
    ·have:=h.lt h0 hbi;omega
   ·obtain⟨o1,h1,_⟩:=old j oj hj0 hj;simp only[if_neg hj0]at hbj;exact h.sep i j o0 o1 b h0 h1 hij hbi hbj
 ·by_cases hj:j=id
  ·subst hj;rw[dy,if_pos rfl]at ho;injection ho with ho
   subst ho;exact hrel.up
  ·obtain⟨o0,h0,rfl⟩:=old j o hj ho;refine Ob hj ((h.obj j o0 h0).mono (λ_ h=>h) hzs λb hb=>far j o0 b hj h0 hb)
 ·have hst:=h.many.step (Z':=Z) hg (λg e=>by obtain⟨⟨o,ho⟩,hb⟩:=hrow g e;exact⟨id,o,ho,hb⟩) (λb hb=> .inl hb);have omany:∀j P Q,bw (jG (ye id ob) id o') j=some (.many P Q)->j≠id/\bw ob j=some (.many P Q):=by
   intro j P Q ho;by_cases hj:j=id
   ·subst hj;rw[dy,if_pos rfl]at ho;injection ho with ho
    subst ho;exact hrel.elim
   ·obtain⟨o0,h0,e⟩:=old j _ hj ho;exact⟨hj,by rw[h0,Oa e.symm]⟩
  refine⟨λj P Q ho=>?_,λi j P Q P' Q' hi hj=>h.many.sep i j P Q P' Q' (omany i P Q hi).2 (omany j P' Q' hj).2⟩;obtain⟨h1,h2⟩:=hst.ok j P Q (omany j P Q ho).2;refine⟨λb hb=>⟨(h1 b hb).1,(h1 b hb).2.1,(h1 b hb).2.2.1,λi o hi hbi=>?_⟩,h2⟩;by_cases hid:i=id
  ·subst hid;simp only[if_true]at hbi;rcases hy b hbi with⟨⟨o1,h3⟩,hb1⟩|hb1
   ·exact(h1 b hb).2.2.2 _ o1 h3 hb1
   ·have:=((h.many.ok j P Q (omany j P Q ho).2).1 b hb).1;omega
  ·obtain⟨o0,h0,_⟩:=old i o hid hi;simp only[if_neg hid]at hbi;exact(h1 b hb).2.2.2 i o0 h0 hbi
theorem WS.upd(h:WS T S Z w ρ ob)(id:Nat)(o o':AO){g:Nat}(ho:bw ob id=some o)(hb:ch (ρ id)=some g)(hg:w.grownBy w' (some g))
  (hrel:cZ Z w' ρ id o'):WS T S Z w' ρ (jG ob id o'):=by
 have hr:∀k,some g=some k->¬Z k:=by
  rintro k ⟨rfl⟩;exact(h.mine id o g ho hb).1
 have hzs:=h.zsame hg hr;have old:∀j o1,bw (jG ob id o') j=some o1->∃o0,bw ob j=some o0/\(j≠id->o1=o0):=by
  intro j o1 h1;rw[dy]at h1;split at h1
  ·rename_i e;subst e;exact⟨o,ho,λh=>absurd rfl h⟩
  ·exact⟨o1,h1,λ_=>rfl⟩
 refine⟨hg.os.trans h.os,hg.tape.trans h.tape,hg.output.trans h.output,le_trans h.size hg.size,λb hb' ho'=>?_,λb hb=>lt_of_lt_of_le (h.zlt b hb) hg.size,λj o1 b h1 hb1=>?_,λi j oi oj b hi hj hij hbi hbj=>?_,λj o1 h1=>?_,?_,h.g.step hg hr (λ_ h=>h),h.z0,h.znew⟩
 ·refine(hg.block b (lt_of_lt_of_le hb' h.size) (λe=>?_)).trans (h.old b hb' ho');injection e with e
  subst e;rcases(h.mine id o b ho hb).2 with h3|h3
  ·omega
  ·exact ho' h3
 ·obtain⟨o0,h0,_⟩:=old j o1 h1;exact h.mine j o0 b h0 hb1
 ·obtain⟨o0,h0,_⟩:=old i oi hi;obtain⟨o2,h2,_⟩:=old j oj hj;exact h.sep i j o0 o2 b h0 h2 hij hbi hbj
 ·by_cases hj:j=id
  ·subst hj;rw[dy,if_pos rfl]at h1;injection h1 with h1
   subst h1;exact hrel.up
  ·obtain⟨o0,h0,e⟩:=old j o1 h1;rw[e hj];refine(h.obj j o0 h0).mono (λ_ h=>h) hzs λb hb1=>hg.block b (h.lt h0 hb1) (λe=>?_);injection e with e
   subst e;exact h.sep j id o0 o b h0 ho hj hb1 hb
 ·have hst:=h.many.step (Z':=Z) hg (λk e=>by injection e with e;subst e;exact⟨id,o,ho,hb⟩) (λb hb=> .inl hb);have omany:∀j P Q,bw (jG ob id o') j=some (.many P Q)->bw ob j=some (.many P Q):=by
   intro j P Q h1;obtain⟨o0,h0,e⟩:=old j _ h1;by_cases hj:j=id
   ·subst hj;rw[dy,if_pos rfl]at h1;injection h1 with h1
    subst h1;exact hrel.elim
   ·rw[h0,<-e hj]
  refine⟨λj P Q h1=>?_,λi j P Q P' Q' hi hj=>h.many.sep i j P Q P' Q' (omany i P Q hi) (omany j P' Q' hj)⟩;obtain⟨h2,h3⟩:=hst.ok j P Q (omany j P Q h1);refine⟨λb hb=>⟨(h2 b hb).1,(h2 b hb).2.1,(h2 b hb).2.2.1,λi oi hi hbi=>?_⟩,h3⟩;obtain⟨o0,h0,_⟩:=old i oi hi;exact(h2 b hb).2.2.2 i o0 h0 hbi
end
structure Sim (T:World->Prop) (S:bZ) (Z:Nat->Prop) (ρ:Nat->Value) (st:ASt) (a:Act) (w:World):Prop where
 ws:WS T S Z w ρ st.ob
 len:a.tmps.size=st.tm.length
 tm:∀(i:Nat) x v,st.tm[i]? =some x->a.tmps[i]? =some v->cu Z w ρ x v
 df:a.defers=[]
def f8(T:World->Prop)(S:bZ)(st:ASt)(a:Act)(w:World):Prop:=∃Z ρ,Sim T S Z ρ st a w
def Mr(tm:List AV)(d:Option Tmp)(x:AV):List AV:=match d with|none=>tm|some i=>tm.set i x
theorem Sim.put{T:World->Prop}{S:bZ}{Z:Nat->Prop}{ρ:Nat->Value}{st:ASt}{a:Act}{w:World}(h:Sim T S Z ρ st a w)(d:Option Tmp){x:AV}{v:Value}(hx:cu Z w ρ x v):Sim T S Z ρ ⟨Mr st.tm d x,st.ob⟩ (a.put d v) w:=by
 cases d with
 |none=>exact⟨h.ws,h.len,h.tm,h.df⟩
 |some i=>
  refine⟨h.ws,by simp[Mr,Act.put,h.len],λj y u hy hu=>?_,h.df⟩;simp only[Mr,Act.put]at hy hu;rw[List.getElem?_set]at hy;rw[Array.getElem?_setIfInBounds]at hu;by_cases hij:i=j
  ·subst hij;by_cases hlt:i<st.tm.length
   ·have hlt2:i<a.tmps.size:=by rw[h.len];exact hlt
    simp only[if_true,if_pos hlt]at hy;simp only[if_true,if_pos hlt2]at hu;injection hy with hy
    injection hu with hu
    subst hy hu;exact hx
   ·simp[hlt]at hy
  ·rw[if_neg hij]at hy hu;exact h.tm j y u hy hu
theorem Sim.grow{T:World->Prop}{S:bZ}{Z Z':Nat->Prop}{ρ:Nat->Value}{st:ASt}{a:Act}{w w':World}(h:Sim T S Z ρ st a w)(hg:w.grownBy w' none)(hz:∀b,Z b->Z' b)(hz2:∀b,Z' b->Z b\/(w.heap.size<=b/\b<w'.heap.size)):Sim T S Z' ρ st a w':=
 ⟨h.ws.grow hg hz hz2,h.len,λi x v hx hv=>(h.tm i x v hx hv).mono hz (h.ws.zsame hg (by simp)),h.df⟩
def lX(id:Nat)(st:ASt):ASt:=⟨st.tm.map (nP id),ye id st.ob⟩
theorem Sim.renew{T:World->Prop}{S:bZ}{Z:Nat->Prop}{ρ:Nat->Value}{st:ASt}{a:Act}{w w':World}(h:Sim T S Z ρ st a w)(id:Nat)(y:Value)(o':AO){row:Option Nat}(hg:w.grownBy w' row)
  (hrow:∀g,row=some g->(∃o,bw st.ob id=some o)/\ch (ρ id)=some g)
  (hy:∀b,ch y=some b->((∃o,bw st.ob id=some o)/\ch (ρ id)=some b)\/w.heap.size<=b)
  (hrel:cZ Z w' (λi=>if i=id then y else ρ i) id o'):Sim T S Z (λi=>if i=id then y else ρ i) ⟨(lX id st).tm,jG (lX id st).ob id o'⟩ a w':=by
 refine⟨h.ws.renew id y o' hg hrow hy hrel,by simp[lX,h.len],λi x v hx hv=>?_,h.df⟩;simp only[lX,getElem?_map]at hx;obtain⟨x0,h0,rfl⟩:=map_eq_some_iff.1 hx;refine qo ((h.tm i x0 v h0 hv).mono (λ_ h=>h) (h.ws.zsame hg ?_));intro g e;obtain⟨⟨o,ho⟩,hb⟩:=hrow g e;exact(h.ws.mine id o g ho hb).1
theorem Sim.upd{T:World->Prop}{S:bZ}{Z:Nat->Prop}{ρ:Nat->Value}{st:ASt}{a:Act}{w w':World}(h:Sim T S Z ρ st a w)(id:Nat)(o o':AO){g:Nat}(ho:bw st.ob id=some o)(hb:ch (ρ id)=some g)(hg:w.grownBy w' (some g))
  (hrel:cZ Z w' ρ id o'):Sim T S Z ρ ⟨st.tm,jG st.ob id o'⟩ a w':=by
 refine⟨h.ws.upd id o o' ho hb hg hrel,h.len,λi x v hx hv=>(h.tm i x v hx hv).mono (λ_ h=>h) (h.ws.zsame hg ?_),h.df⟩;rintro k ⟨rfl⟩;exact(h.ws.mine id o g ho hb).1
end
section
open Go.RowKit
inductive TK where
 |st (fs:List (Nat×TypeId))|sl (e:TypeId)|arr (n:Nat) (e:TypeId)|str|bool|int (k:IntKind)|ptr (e:TypeId)|oth
def vF:TypeDesc->TK
 | .struct fs=> .st (fs.toList.map λf=>(f.offset,f.type))
 | .slice e=> .sl e
 | .array n e=> .arr n e
 | .string=> .str
 | .bool=> .bool
 | .int k=> .int k
 | .pointer e=> .ptr e
 |_=> .oth
structure TI where
 size:Nat
 bytes:Nat
 agg:Bool
 kind:TK
 zero:Value
structure aU (P:Program) (t:TypeId) (i:TI):Prop where
 sz:∀w,(sizeOf t).run P w= .ok i.size w
 ag:∀w,(isAgg t).run P w= .ok i.agg w
 kd:(P.underlying t).map vF=some i.kind
 info:(P.info? t).map (λj=>(j.zero,j.size,j.bytes))=some (some i.zero,i.size,i.bytes)
 zs:i.zero.cells.size=i.size
inductive TT where
 |leaf
 |node (k:Nat) (i:TI) (l r:TT)
def TT.get:TT->Nat->Option TI
 | .leaf,_=>none
 | .node k i l r,t=>match Nat.beq t k with
  |true=>some i
  |false=>match Nat.ble t k with
   |true=>l.get t
   |false=>r.get t
def TT.ok(P:Program):TT->Prop
 | .leaf=>True
 | .node k i l r=>aU P k i/\l.ok P/\r.ok P
theorem aby{P:Program}:∀{T:TT},T.ok P->∀{t:Nat} {i:TI},T.get t=some i->aU P t i
 | .leaf,_,_,_,h=>by cases h
 | .node k i l r,⟨h1,h2,h3⟩,t,j,h=>by
  simp only[TT.get]at h;split at h
  ·rename_i e;injection h with h
   subst h;rw[eq_of_beq_eq_true e];exact h1
  ·split at h
   ·exact aby h2 h
   ·exact aby h3 h
structure bx where
 P:Program
 T:TT
 W:World->Prop
structure bx.Ok (E:bx):Prop where
 ty:E.T.ok E.P
 mixed:E.P.follows .mixedOrders=true
 below:∀w w',E.W w->Below w.heap.size w w'->E.W w'
def aTm:List AV->Nat->(AV->Prop)->Prop
 |[],_,_=>False
 |x::_,0,K=>K x
 |_::r,n+1,K=>aTm r n K
theorem jU{K:AV->Prop}:∀{l:List AV} {n:Nat},aTm l n K->∃x,l[n]? =some x/\K x
 |[],_,h=>h.elim
 |x::_,0,h=>⟨x,rfl,h⟩
 |_::r,n+1,h=>by obtain⟨x,h1,h2⟩:=jU (l:=r) (n:=n) h;exact⟨x,by simpa using h1,h2⟩
def oy:List AV->Nat->AV->(List AV->Prop)->Prop
 |[],_,_,_=>False
 |_::r,0,v,K=>K (v::r)
 |x::r,n+1,v,K=>oy r n v λr'=>K (x::r')
theorem kp{v:AV}:∀{l:List AV} {n:Nat} {K:List AV->Prop},oy l n v K->K (l.set n v)
 |[],_,_,h=>h.elim
 |_::_,0,_,h=>h
 |x::r,n+1,K,h=>kp (l:=r) (n:=n) (K:=λr'=>K (x::r')) h
def fa(st:ASt)(d:Option Tmp)(v:AV)(K:ASt->Prop):Prop:=
 match d with
 |none=>K st
 |some i=>match st with
  |⟨tm,ob⟩=>oy tm i v λtm=>K ⟨tm,ob⟩
theorem fG{st:ASt}{d:Option Tmp}{v:AV}{K:ASt->Prop}(h:fa st d v K):K ⟨Mr st.tm d v,st.ob⟩:=by
 cases d with
 |none=>exact h
 |some i=>exact kp (K:=λtm=>K ⟨tm,st.ob⟩) h
def ofC:Value->AC
 | .slice none 0 0=> .nil
 | .agg _=> .dead
 | .tuple _=> .dead
 |v=> .d (.pv v)
def Jt(v:Value)(K:AC->Prop):Prop:=
 match v with
 | .slice none 0 0=>K .nil
 | .agg _=>K .dead
 | .tuple _=>K .dead
 |v=>K (.d (.pv v))
theorem D8{v:Value}{K:AC->Prop}(h:Jt v K):K (ofC v):=by
 unfold Jt at h;unfold ofC;split at h<;>exact h
def Q4:List Value->(List AC->Prop)->Prop
 |[],K=>K []
 |v::r,K=>Jt v λc=>Q4 r λr'=>K (c::r')
theorem Ea:∀{l:List Value} {K:List AC->Prop},Q4 l K->K (l.map ofC)
 |[],_,h=>h
 |v::r,K,h=>Ea (l:=r) (K:=λr'=>K (ofC v::r')) (D8 (K:=λc=>Q4 r λr'=>K (c::r')) h)
theorem Du(Z:Nat->Prop)(w:World)(ρ:Nat->Value)(v:Value):fp Z w ρ (ofC v) v:=by
 unfold ofC;split
 ·rfl
 ·trivial
 ·trivial
 ·refine co.pv v ?_;unfold Value.oneCell';split<;>simp_all
def aEv(st:ASt)(x:Operand)(K:AV->Prop):Prop:=
 match x with
 | .tmp t=>aTm st.tm t K
 | .const (.agg cs)=>Q4 cs.toList λl=>K (.agg l)
 | .const v=>Jt v λc=>K (.one c)
 | .func f=>K (.one (.d (.pv (.func (.func f) #[] #[]))))
 | .global _=>False
theorem bz{T:World->Prop}{S:bZ}{Z:Nat->Prop}{ρ:Nat->Value}{st:ASt}{a:Act}{w:World}(h:Sim T S Z ρ st a w){x:Operand}{K:AV->Prop}(hk:aEv st x K):∃v,cu Z w ρ v (a.eval x)/\K v:=by
 cases x with
 |tmp t=>
  obtain⟨v,hv,hk⟩:=jU hk;have hlt:t<a.tmps.size:=by rw[h.len];exact(List.getElem?_eq_some_iff.1 hv).1
  refine⟨v,h.tm t v _ hv ?_,hk⟩;simp[Act.eval,hlt]
 |const v=>
  cases v with
  |agg cs=>
   refine⟨_,?_,Ea hk⟩;have:(Value.agg cs)= .agg cs.toList.toArray:=by simp
   simp only[Act.eval];rw[this];refine .agg _ _ (by simp) λi c u hc hu=>?_;rw[getElem?_map]at hc;obtain⟨u0,h0,rfl⟩:=map_eq_some_iff.1 hc;rw[hu]at h0;injection h0 with h0
   subst h0;exact Du ..
  |_=>exact⟨_,.one _ _ (Du ..),D8 (K:=λc=>K (.one c)) hk⟩
 |func f=>exact⟨_,.one (.d (.pv (.func (.func f) #[] #[]))) _ (show co Z w (.pv (.func (.func f) #[] #[])) (.func (.func f) #[] #[])from .pv _ rfl),hk⟩
 |global g=>exact hk.elim
def Jp(st:ASt):List Operand->(List AV->Prop)->Prop
 |[],K=>K []
 |x::r,K=>aEv st x λv=>Jp st r λr'=>K (v::r')
theorem ui{T:World->Prop}{S:bZ}{Z:Nat->Prop}{ρ:Nat->Value}{st:ASt}{a:Act}{w:World}(h:Sim T S Z ρ st a w):∀{xs:List Operand} {K:List AV->Prop},Jp st xs K->∃vs,vs.length=xs.length/\(∀(i:Nat) x v,xs[i]? =some x->vs[i]? =some v->cu Z w ρ v (a.eval x))/\K vs
 |[],_,hk=>⟨[],rfl,by simp,hk⟩
 |x::r,K,hk=>by
  obtain⟨v,hv,hk⟩:=bz h hk;obtain⟨vs,hl,hr,hk⟩:=ui h (xs:=r) hk;refine⟨v::vs,by simp[hl],λi y u hy hu=>?_,hk⟩;cases i with
  |zero=>simp at hy hu;subst hy hu;exact hv
  |succ i=>exact hr i y u (by simpa using hy) (by simpa using hu)
structure AB (p:Bool) (X Y:Prop):Prop where
 t:p=true->X
 f:p=false->Y
structure AW (k:IntKind) (n:Int) (K:Int->Prop):Prop where
 h:∃c,k.wrap n=c/\K c
structure AIx (xs:List (List AD)) (n:Int) (K:Nat->List AD->Prop):Prop where
 h:∃(k:Nat) (x:List AD),n=(k:Int)/\xs[k]? =some x/\K k x
structure AXi (T:World->Prop) (ob:List (Nat×AO)) (R:(Nat->Prop)->World->Value->Prop) (n:Int) (s:Nat) (K:AV->Prop):Prop where
 h:∃y,K y/\∀(S:bZ) (Z:Nat->Prop) (w:World) (ρ:Nat->Value) (v:Value),WS T S Z w ρ ob->co Z w (.x R) v->∃(b off k len cap:Nat),v= .slice (some ⟨b,off,none⟩) len cap/\n=(k:Int)/\k<len/\cu Z w ρ y (.pointer (some ⟨b,off+k*s,none⟩))
structure AOp (E:bx) (S:bZ) (o:Oper) (st:ASt) (K:ASt->Prop):Prop where
 run:∀a w Q,f8 E.W S st a w->Oper.wp E.P o a w (λa' w'=>∃st',f8 E.W S st' a' w'/\K st') Q
theorem ab8{X Y:Prop}(h:X):AB true X Y:=⟨λ_=>h,λe=>(by cases e)⟩
theorem ab7{X Y:Prop}(h:Y):AB false X Y:=⟨λe=>(by cases e),λ_=>h⟩
structure aI (E:bx) (S:bZ) (f:FuncId) (args:List AV) (st:ASt) (K:AV->ASt->Prop):Prop where
 enter:∀(us:Array Value) w,(callFunc f us).run E.P w= .ok (.enter f us) w
 run:∀Z ρ a w (us:List Value),Sim E.W S Z ρ st a w->us.length=args.length->(∀(i:Nat) x u,args[i]? =some x->us[i]? =some u->cu Z w ρ x u)->
  Calls E.P f us.toArray w λe w'=>∃v r st' Z' ρ',e= .returned v/\Sim E.W S Z' ρ' st' a w'/\cu Z' w' ρ' r v/\K r st'
def zh(v:AV)(X Y:Prop):Prop:=
 match v with
 | .one (.d (.pv (.bool p)))=>AB p X Y
 |_=>False
def aTI(T:TT)(t:TypeId)(K:TI->Prop):Prop:=
 match T.get t with
 |some i=>K i
 |none=>False
def pG{α:Type}:List α->Nat->(α->Prop)->Prop
 |[],_,_=>False
 |x::_,0,K=>K x
 |_::r,n+1,K=>pG r n K
theorem gh{α:Type}{K:α->Prop}:∀{l:List α} {n:Nat},pG l n K->∃x,l[n]? =some x/\K x
 |[],_,h=>h.elim
 |x::_,0,h=>⟨x,rfl,h⟩
 |_::r,n+1,h=>by obtain⟨x,h1,h2⟩:=gh (l:=r) (n:=n) h;exact⟨x,by simpa using h1,h2⟩
def zk{α:Type}:List α->Nat->(List α->Prop)->Prop
 |l,0,K=>K l
 |[],_+1,_=>False
 |_::r,n+1,K=>zk r n K
theorem kn{α:Type}{K:List α->Prop}:∀{l:List α} {n:Nat},zk l n K->n<=l.length/\K (l.drop n)
 |l,0,h=>⟨zero_le _,by cases l<;>exact h⟩
 |[],_+1,h=>h.elim
 |_::r,n+1,h=>by obtain⟨h1,h2⟩:=kn (l:=r) (n:=n) h;exact⟨by simpa using h1,h2⟩
def PP{α:Type}:List α->Nat->(List α->Prop)->Prop
 |_,0,K=>K []
 |[],_+1,_=>False
 |x::r,n+1,K=>PP r n λr'=>K (x::r')
theorem pH{α:Type}:∀{l:List α} {n:Nat} {K:List α->Prop},PP l n K->n<=l.length/\K (l.take n)
 |l,0,_,h=>⟨zero_le _,by cases l<;>exact h⟩
 |[],_+1,_,h=>h.elim
 |x::r,n+1,K,h=>by obtain⟨h1,h2⟩:=pH (l:=r) (n:=n) (K:=λr'=>K (x::r')) h;exact⟨by simpa using h1,h2⟩
def BY:List AD->(List AC->Prop)->Prop
 |[],K=>K []
 |x::r,K=>BY r λr'=>K (.d x::r')
theorem ni:∀{l:List AD} {K:List AC->Prop},BY l K->K (l.map .d)
 |[],_,h=>h
 |x::r,K,h=>ni (l:=r) (K:=λr'=>K (.d x::r')) h
def K6:List AC->(List AD->Prop)->Prop
 |[],K=>K []
 | .d x::r,K=>K6 r λr'=>K (x::r')
 | .nil::r,K=>K6 r λr'=>K (.sl []::r')
 |_::_,_=>False
def mW:List AC->Nat->List AC->(List AC->Prop)->Prop
 |l,0,[],K=>K l
 |_::r,0,x::xs,K=>mW r 0 xs λr'=>K (x::r')
 |c::r,n+1,xs,K=>mW r n xs λr'=>K (c::r')
 |_,_,_,_=>False
theorem mi:∀{l:List AC} {n:Nat} {xs:List AC} {K:List AC->Prop},mW l n xs K->n+xs.length<=l.length/\∃l',K l'/\l'.length=l.length/\∀(i:Nat) (c:AC),l'[i]? =some c->(n<=i/\xs[i-n]? =some c)\/((i<n\/n+xs.length<=i)/\l[i]? =some c)
 |l,0,[],K,h=>⟨by simp,l,by cases l<;>exact h,rfl,λi c hc=> .inr ⟨by simp,hc⟩⟩
 |_::r,0,x::xs,K,h=>by
  obtain⟨h1,l',hk,hl,hc⟩:=mi (l:=r) (n:=0) (xs:=xs) (K:=λr'=>K (x::r')) h;refine⟨by simp at h1⊢;omega,x::l',hk,by simp[hl],λi c hi=>?_⟩;cases i with
  |zero=>exact .inl ⟨zero_le _,by simpa using hi⟩
  |succ i=>
   rcases hc i c (by simpa using hi)with⟨h2,h3⟩|⟨h2,h3⟩
   ·exact .inl ⟨zero_le _,by simpa using h3⟩
   ·exact .inr ⟨by simp at h2⊢;omega,by simpa using h3⟩
 |c0::r,n+1,xs,K,h=>by
  have h':mW r n xs (λr'=>K (c0::r')):=by cases xs<;>exact h
  obtain⟨h1,l',hk,hl,hc⟩:=mi h';refine⟨by simp;omega,c0::l',hk,by simp[hl],λi c hi=>?_⟩;cases i with
  |zero=>exact .inr ⟨.inl (by omega),by simpa using hi⟩
  |succ i=>
   rcases hc i c (by simpa using hi)with⟨h2,h3⟩|⟨h2,h3⟩
   ·exact .inl ⟨by omega,by simpa[Nat.succ_sub_succ]using h3⟩
   ·exact .inr ⟨by omega,by simpa using h3⟩
 |[],0,_::_,_,h=>h.elim
 |[],_+1,[],_,h=>h.elim
 |[],_+1,_::_,_,h=>h.elim
end
section
open Go.RowKit
def D1(id:Nat)(c:AC)(K:AC->Prop):Prop:=
 match c with
 | .own i=>match Nat.beq i id with
  |true=>K .dead
  |false=>K (.own i)
 | .ref i k s off=>match Nat.beq i id with
  |true=>K .dead
  |false=>K (.ref i k s off)
 |c=>K c
theorem D2{id:Nat}{c:AC}{K:AC->Prop}(h:D1 id c K):K (jO id c):=by
 cases c with
 |own i=>
  simp only[D1]at h;simp only[jO];split at h
  ·rename_i e;rw[if_pos (eq_of_beq_eq_true e)];exact h
  ·rename_i e;rw[if_neg (Nat.ne_of_beq_eq_false e)];exact h
 |ref i k s off=>
  simp only[D1]at h;simp only[jO];split at h
  ·rename_i e;rw[if_pos (eq_of_beq_eq_true e)];exact h
  ·rename_i e;rw[if_neg (Nat.ne_of_beq_eq_false e)];exact h
 |_=>exact h
def zm(id:Nat):List AC->(List AC->Prop)->Prop
 |[],K=>K []
 |c::r,K=>D1 id c λc'=>zm id r λr'=>K (c'::r')
theorem ox{id:Nat}:∀{l:List AC} {K:List AC->Prop},zm id l K->K (l.map (jO id))
 |[],_,h=>h
 |c::r,K,h=>ox (l:=r) (K:=λr'=>K (jO id c::r')) (D2 h)
def SS(id:Nat)(x:AV)(K:AV->Prop):Prop:=
 match x with
 | .one c=>D1 id c λc=>K (.one c)
 | .agg cs=>zm id cs λcs=>K (.agg cs)
 | .tup _=>K (.one .dead)
theorem NF{id:Nat}{x:AV}{K:AV->Prop}(h:SS id x K):K (nP id x):=by
 cases x with
 |one c=>exact D2 (K:=λc=>K (.one c)) h
 |agg cs=>exact ox (K:=λcs=>K (.agg cs)) h
 |tup vs=>exact h
def D3(id:Nat):List AV->(List AV->Prop)->Prop
 |[],K=>K []
 |x::r,K=>SS id x λx'=>D3 id r λr'=>K (x'::r')
theorem qL{id:Nat}:∀{l:List AV} {K:List AV->Prop},D3 id l K->K (l.map (nP id))
 |[],_,h=>h
 |x::r,K,h=>qL (l:=r) (K:=λr'=>K (nP id x::r')) (NF h)
def mH(id:Nat):List (Nat×AO)->(List (Nat×AO)->Prop)->Prop
 |[],K=>K []
 |(i,.cells t cs)::r,K=>zm id cs λcs=>mH id r λr'=>K ((i,.cells t cs)::r')
 |(i,.row e s xs)::r,K=>mH id r λr'=>K ((i,.row e s xs)::r')
 |(i,.frame vs us)::r,K=>D3 id vs λvs=>mH id r λr'=>K ((i,.frame vs us)::r')
 |(i,.any Q)::r,K=>mH id r λr'=>K ((i,.any Q)::r')
 |(i,.many P Q)::r,K=>mH id r λr'=>K ((i,.many P Q)::r')
theorem j5{id:Nat}:∀{l:List (Nat×AO)} {K:List (Nat×AO)->Prop},mH id l K->K (ye id l)
 |[],_,h=>h
 |(i,.cells t cs)::r,K,h=>j5 (l:=r) (K:=λr'=>K ((i,.cells t (cs.map (jO id)))::r')) (ox (K:=λcs=>mH id r λr'=>K ((i,.cells t cs)::r')) h)
 |(i,.row e s xs)::r,K,h=>j5 (l:=r) (K:=λr'=>K ((i,.row e s xs)::r')) h
 |(i,.frame vs us)::r,K,h=>j5 (l:=r) (K:=λr'=>K ((i,.frame (vs.map (nP id)) us)::r')) (qL (K:=λvs=>mH id r λr'=>K ((i,.frame vs us)::r')) h)
 |(i,.any Q)::r,K,h=>j5 (l:=r) (K:=λr'=>K ((i,.any Q)::r')) h
 |(i,.many P Q)::r,K,h=>j5 (l:=r) (K:=λr'=>K ((i,.many P Q)::r')) h
def ju(i:Nat)(o:AO):List (Nat×AO)->(List (Nat×AO)->Prop)->Prop
 |[],K=>K [(i,o)]
 |(k,x)::r,K=>match Nat.beq k i with
  |true=>K ((i,o)::r)
  |false=>ju i o r λr'=>K ((k,x)::r')
theorem fK{i:Nat}{o:AO}:∀{l:List (Nat×AO)} {K:List (Nat×AO)->Prop},ju i o l K->K (jG l i o)
 |[],_,h=>h
 |(k,x)::r,K,h=>by
  simp only[ju]at h;unfold jG;split at h
  ·rename_i e;rw[if_pos (eq_of_beq_eq_true e)];exact h
  ·rename_i e;rw[if_neg (Nat.ne_of_beq_eq_false e)];exact fK (l:=r) (K:=λr'=>K ((k,x)::r')) h
def aOb:List (Nat×AO)->Nat->(AO->Prop)->Prop
 |[],_,_=>False
 |(k,o)::r,i,K=>match Nat.beq k i with
  |true=>K o
  |false=>aOb r i K
theorem da{i:Nat}{K:AO->Prop}:∀{l:List (Nat×AO)},aOb l i K->∃o,bw l i=some o/\K o
 |[],h=>h.elim
 |(k,o)::r,h=>by
  simp only[aOb]at h;unfold bw;split at h
  ·rename_i e;rw[if_pos (eq_of_beq_eq_true e)];exact⟨o,rfl,h⟩
  ·rename_i e;rw[if_neg (Nat.ne_of_beq_eq_false e)];exact da h
theorem NJ{i:Nat}{K:AO->Prop}:∀{l:List (Nat×AO)} {o:AO},bw l i=some o->K o->aOb l i K
 |[],_,h,_=>by cases h
 |(k,o)::r,o',h,hk=>by
  simp only[aOb];unfold bw at h;cases e:Nat.beq k i with
  |true=>rw[if_pos (eq_of_beq_eq_true e)]at h;injection h with h;subst h;exact hk
  |false=>rw[if_neg (Nat.ne_of_beq_eq_false e)]at h;exact NJ h hk
def C8(st:ASt)(id:Nat)(o:AO)(K:ASt->Prop):Prop:=
 D3 id st.tm λtm=>mH id st.ob λob=>ju id o ob λob=>K ⟨tm,ob⟩
theorem jJ{st:ASt}{id:Nat}{o:AO}{K:ASt->Prop}(h:C8 st id o K):K ⟨(lX id st).tm,jG (lX id st).ob id o⟩:=
 fK (K:=λob=>K ⟨(lX id st).tm,ob⟩) (j5 (K:=λob=>ju id o ob λob=>K ⟨(lX id st).tm,ob⟩) (qL (K:=λtm=>mH id st.ob λob=>ju id o ob λob=>K ⟨tm,ob⟩) h))
def Eo:IntKind->IntKind->Bool
 | .i8,.i8| .i16,.i16| .i32,.i32| .i64,.i64| .u8,.u8| .u16,.u16| .u32,.u32| .u64,.u64=>true
 |_,_=>false
theorem Hz{j k:IntKind}(h:Eo j k=true):j=k:=by cases j<;>cases k<;>first|rfl|cases h
abbrev vI(k:IntKind)(n:Int):AV:= .one (.d (.pv (.int k n)))
abbrev vB(b:Bool):AV:= .one (.d (.pv (.bool b)))
abbrev vS(s:ByteArray):AV:= .one (.d (.pv (.string s)))
def JC(k:IntKind)(a b:Int):Int:=k.wrap (BitVec.ofInt k.bits a&&&BitVec.ofInt k.bits b).toNat
def Xa(k:IntKind)(a b:Int):Int:=k.wrap (BitVec.ofInt k.bits a^^^BitVec.ofInt k.bits b).toNat
def Ph(k:IntKind)(a b:Int):Int:=a.fdiv (2^min b.toNat k.bits)
def BX(op:BinOp)(k:IntKind)(a b:Int)(K:AV->Prop):Prop:=
 match op with
 | .add=>AW k (a+b) λc=>K (vI k c)
 | .sub=>AW k (a-b) λc=>K (vI k c)
 | .mul=>AW k (a*b) λc=>K (vI k c)
 | .quo=>b≠0/\AW k (a.tdiv b) λc=>K (vI k c)
 | .rem=>b≠0/\K (vI k (a.tmod b))
 | .and=>K (vI k (JC k a b))
 | .xor=>K (vI k (Xa k a b))
 | .shr=>match decide (0<=b)with
  |true=>K (vI k (Ph k a b))
  |false=>False
 | .eql=>K (vB (a==b))
 | .neq=>K (vB (a !=b))
 | .lss=>K (vB (decide (a<b)))
 | .leq=>K (vB (decide (a<=b)))
 | .gtr=>K (vB (decide (a>b)))
 | .geq=>K (vB (decide (a>=b)))
 |_=>False
def PO(op:BinOp)(a b:ByteArray)(K:AV->Prop):Prop:=
 match op with
 | .add=>a.size+b.size<=9223372036854775807/\K (vS (a++b))
 | .eql=>K (vB (a.toList==b.toList))
 | .neq=>K (vB (!(a.toList==b.toList)))
 |_=>False
def Jn(op:BinOp)(a b:Bool)(K:AV->Prop):Prop:=
 match op with
 | .eql=>K (vB (a==b))
 | .neq=>K (vB (!(a==b)))
 |_=>False
def QT(E:bx)(op:BinOp)(t:TypeId)(x y:AV)(F:Prop)(K:AV->Prop):Prop:=
 match x,y with
 | .one (.d (.pv (.int k a))),.one (.d (.pv (.int k' b)))=>match Eo k k' with
  |true=>BX op k a b K
  |false=>False
 | .one (.d (.pv (.string a))),.one (.d (.pv (.string b)))=>PO op a b K
 | .one (.d (.pv (.bool a))),.one (.d (.pv (.bool b)))=>aTI E.T t λi=>match i.kind with
  | .bool=>Jn op a b K
  |_=>False
 |_,_=>F
def aUn(op:UnOp)(x:AV)(F:Prop)(K:AV->Prop):Prop:=
 match op,x with
 | .not,.one (.d (.pv (.bool p)))=>K (vB (!p))
 | .neg,.one (.d (.pv (.int k n)))=>AW k (0-n) λc=>K (vI k c)
 |_,_=>F
def Hi(E:bx)(src dst:TypeId)(x:AV)(F:Prop)(K:AV->Prop):Prop:=
 match x with
 | .one (.d (.pv (.int _ n)))=>aTI E.T src λ_=>aTI E.T dst λi=>match i.kind with
  | .int k=>AW k n λc=>K (vI k c)
  |_=>F
 |_=>F
def lO(E:bx)(t:TypeId)(x:AV)(f:Nat)(K:AV->Prop):Prop:=
 aTI E.T t λi=>match i.kind with
 | .st fs=>pG fs f λp=>aTI E.T p.2 λj=>match j.size with
  |0=>False
  |_+1=>match x with
   | .one (.ref id k s off)=>K (.one (.ref id k s (off+p.1)))
   | .one (.ptr cs)=>zk cs p.1 λr=>K (.one (.ptr r))
   |_=>False
 |_=>False
def uu(i:TI)(cs:List AC)(K:AV->Prop):Prop:=
 match i.agg with
 |true=>PP cs i.size λxs=>K (.agg xs)
 |false=>match cs with
  |c::_=>K (.one c)
  |[]=>False
def xP(E:bx)(st:ASt)(t:TypeId)(x:AV)(K:AV->Prop):Prop:=
 aTI E.T t λi=>match x with
 | .one (.ref id k s off)=>aOb st.ob id λo=>match o with
  | .cells _ cs=>match k with
   |0=>zk cs off λr=>uu i r K
   |_+1=>False
  | .row _ s' xs=>match Nat.beq s s' with
   |true=>AIx xs k λ_ x=>zk x off λr=>BY r λr=>uu i r K
   |false=>False
  | .frame _ _=>False
  | .any _=>False
  | .many _ _=>False
 | .one (.ptr cs)=>BY cs λcs=>uu i cs K
 |_=>False
def j6:List AC->Bool
 |[]=>true
 | .dead::_=>false
 | .und::_=>false
 |_::r=>j6 r
def nE(x:AV)(K:List AC->Prop):Prop:=
 match x with
 | .one c=>match j6 [c]with
  |true=>K [c]
  |false=>False
 | .agg cs=>match j6 cs with
  |true=>K cs
  |false=>False
 | .tup _=>False
def D5:List AC->Nat->Bool
 |[],0=>true
 |_::r,n+1=>D5 r n
 |_,_=>false
theorem wE:∀{l:List AC} {n:Nat},D5 l n=true->l.length=n
 |[],0,_=>rfl
 |_::r,n+1,h=>by rw[List.length_cons,wE (l:=r) (n:=n) h]
 |[],_+1,h=>by cases h
 |_::_,0,h=>by cases h
def S4(E:bx)(st:ASt)(t:TypeId)(x v:AV)(K:ASt->Prop):Prop:=
 aTI E.T t λi=>nE v λvs=>match D5 vs i.size with
 |false=>False
 |true=>match x with
  | .one (.ref id k s off)=>aOb st.ob id λo=>match o with
   | .cells u cs=>match k with
    |0=>mW cs off vs λcs'=>match st with
     |⟨tm,ob⟩=>ju id (.cells u cs') ob λob=>K ⟨tm,ob⟩
    |_+1=>False
   | .row e s' xs=>match Nat.beq s s' with
    |true=>AIx xs k λk x=>BY x λx=>mW x off vs λx'=>K6 x' λx'=>match st with
     |⟨tm,ob⟩=>ju id (.row e s' (xs.set k x')) ob λob=>K ⟨tm,ob⟩
    |false=>False
   | .frame _ _=>False
   | .any _=>False
   | .many _ _=>False
  |_=>False
def zt(z:Value)(K:List AC->Prop):Prop:=
 match z with
 | .agg cs=>Q4 cs.toList λl=>match j6 l with
  |true=>K l
  |false=>False
 |v=>Jt v λc=>match j6 [c]with
  |true=>K [c]
  |false=>False
def KT(st:ASt)(place:Nat->(Nat×Nat->Prop)->Prop):List (Nat×Operand)->List AC->(List AC->Prop)->Prop
 |[],l,K=>K l
 |(i,x)::r,l,K=>place i λp=>aEv st x λv=>nE v λvs=>match D5 vs p.2 with
  |true=>mW l p.1 vs λl'=>KT st place r l' K
  |false=>False
def Dq(E:bx):List (Nat×TypeId)->(List (Nat×Nat)->Prop)->Prop
 |[],K=>K []
 |p::r,K=>aTI E.T p.2 λj=>Dq E r λq=>K ((p.1,j.size)::q)
def DT(E:bx)(st:ASt)(t:TypeId)(parts:List (Nat×Operand))(K:AV->Prop):Prop:=
 aTI E.T t λi=>zt i.zero λz=>match i.kind with
 | .st fs=>Dq E fs λplaces=>KT st (λn K=>pG places n K) parts z λl=>K (.agg l)
 | .arr _ e=>aTI E.T e λj=>KT st (λn K=>K (n*j.size,j.size)) parts z λl=>K (.agg l)
 |_=>False
def mG(st:ASt)(s:Nat):List (Nat×Operand)->(at_ n:Nat)->(List (List AD)->Prop)->Prop
 |[],a,n,K=>match Nat.beq a n with
  |true=>K []
  |false=>False
 |(i,x)::r,a,n,K=>match Nat.beq i a with
  |true=>aEv st x λv=>nE v λvs=>match D5 vs s with
   |true=>K6 vs λds=>mG st s r (a+1) n λr'=>K (ds::r')
   |false=>False
  |false=>False
def oz(E:bx)(st:ASt)(d:Option Tmp)(e:TypeId)(xs:List (List AD))(K:ASt->Prop):Prop:=
 aTI E.T e λj=>match j.size with
 |0=>False
 |s+1=>match d with
  |some d=>C8 st d (.row e (s+1) xs) λst=>fa st (some d) (.one (.own d)) K
  |none=>False
def BT(E:bx)(st:ASt)(d:Option Tmp)(t:TypeId)(n:Nat)(parts:List (Nat×Operand))(K:ASt->Prop):Prop:=
 aTI E.T t λi=>match i.kind with
 | .sl e=>aTI E.T e λj=>match Nat.ble (n*j.size) 16777216 with
  |true=>mG st j.size parts 0 n λxs=>oz E st d e xs K
  |false=>False
 |_=>False
def uo(st:ASt)(x:AV)(K:List (List AD)->Prop):Prop:=
 match x with
 | .one .nil=>K []
 | .one (.d (.sl xs))=>K xs
 | .one (.own id)=>aOb st.ob id λo=>match o with
  | .row _ _ xs=>K xs
  |_=>False
 |_=>False
def S2(st:ASt)(s:Nat)(x:AV)(K:List (List AD)->Prop):Prop:=
 match x with
 | .one .nil=>K []
 | .one (.d (.sl xs))=>(∀x∈xs,x.length=s)/\K xs
 | .one (.own id)=>aOb st.ob id λo=>match o with
  | .row _ s' xs=>match Nat.beq s s' with
   |true=>K xs
   |false=>False
  |_=>False
 |_=>False
def Jm(E:bx)(st:ASt)(d:Option Tmp)(t t2:TypeId)(x y:AV)(K:ASt->Prop):Prop:=
 match Nat.beq t t2 with
 |false=>False
 |true=>aTI E.T t λi=>match i.kind with
  | .sl e=>aTI E.T e λj=>match j.size,j.bytes with
   |s+1,b+1=>S2 st (s+1) y λys=>match x with
    | .one .nil=>(ys.length*(b+1)<=140737488355328)/\oz E st d e ys K
    | .one (.own id)=>aOb st.ob id λo=>match o with
     | .row e' s' xs=>match Nat.beq e e',Nat.beq (s+1) s' with
      |true,true=>((xs.length+ys.length)*(b+1)<=140737488355328)/\C8 st id (.row e (s+1) (xs++ys)) λst=>fa st d (.one (.own id)) K
      |_,_=>False
     |_=>False
    |_=>False
   |_,_=>False
  |_=>False
def SU(E:bx)(st:ASt)(d:Option Tmp)(t:TypeId)(x y:AV)(K:ASt->Prop):Prop:=
 match x,y with
 | .one (.d (.pv (.int _ n))),.one (.d (.pv (.int _ m)))=>aTI E.T t λi=>match i.kind with
  | .sl e=>aTI E.T e λj=>zt j.zero λz=>K6 z λz=>∃k:Nat,n=(k:Int)/\m=(k:Int)/\j.bytes*k<=281474976710656/\k<=140737488355328/\oz E st d e (List.replicate k z) K
  |_=>False
 |_,_=>False
def NH(E:bx)(st:ASt)(d:Option Tmp)(t:TypeId)(y:AV)(K:ASt->Prop):Prop:=
 match y with
 | .one (.d (.pv (.int _ m)))=>aTI E.T t λi=>match i.kind with
  | .sl e=>aTI E.T e λj=>∃c:Nat,m=(c:Int)/\j.bytes*c<=281474976710656/\c<=140737488355328/\oz E st d e [] K
  |_=>False
 |_=>False
def Xl(x:Operand)(A B:Prop):Prop:=
 match x with
 | .const (.int .i64 (.ofNat 0))=>A
 |_=>B
def NG(E:bx)(st:ASt)(t:TypeId)(x:AV)(F:Prop)(K:AV->Prop):Prop:=
 match x with
 | .one (.d (.pv (.string s)))=>aTI E.T t λi=>match i.kind with
  | .str=>K (vI .i64 s.size)
  |_=>F
 |_=>aTI E.T t λi=>match i.kind with
  | .sl _=>uo st x λxs=>K (vI .i64 xs.length)
  |_=>F
def KX:List AD->Nat->Bool
 |[],0=>true
 |_::r,n+1=>KX r n
 |_,_=>false
theorem D4:∀{l:List AD} {n:Nat},KX l n=true->l.length=n
 |[],0,_=>rfl
 |_::r,n+1,h=>by rw[List.length_cons,D4 (l:=r) (n:=n) h]
 |[],_+1,h=>by cases h
 |_::_,0,h=>by cases h
structure Xb (n:Int) (len:Nat) (K:Nat->Prop):Prop where
 h:∃i:Nat,n=(i:Int)/\i<len/\K i
def lP(E:bx)(st:ASt)(t:TypeId)(x i:AV)(K:AV->Prop):Prop:=
 match i with
 | .one (.d (.pv (.int _ n)))=>aTI E.T t λti=>match ti.kind with
  | .sl e=>aTI E.T e λj=>match j.size with
   |0=>False
   |s+1=>match x with
    | .one (.d (.sl xs))=>AIx xs n λ_ x=>match KX x (s+1)with
     |true=>K (.one (.ptr x))
     |false=>False
    | .one (.own id)=>aOb st.ob id λo=>match o with
     | .row _ s' xs=>match Nat.beq (s+1) s' with
      |true=>AIx xs n λk _=>K (.one (.ref id k (s+1) 0))
      |false=>False
     |_=>False
    | .one (.d (.x R))=>AXi E.W st.ob R n (s+1) K
    |_=>False
  | .arr len e=>aTI E.T e λj=>match x with
   | .one (.ref id k s off)=>Xb n len λi=>K (.one (.ref id k s (off+i*j.size)))
   |_=>False
  |_=>False
 |_=>False
def Be(E:bx)(t:TypeId)(x i:AV)(F:Prop)(K:AV->Prop):Prop:=
 match x,i with
 | .one (.d (.pv (.string s))),.one (.d (.pv (.int _ n)))=>aTI E.T t λti=>match ti.kind with
  | .str=>∃(k:Nat) (b:UInt8),n=(k:Int)/\s[k]? =some b/\K (vI .u8 b.toNat)
  |_=>F
 |_,_=>F
def DR(st:ASt)(x:Option Operand)(K:Option Int->Prop):Prop:=
 match x with
 |none=>K none
 |some x=>aEv st x λv=>match v with
  | .one (.d (.pv (.int _ n)))=>K (some n)
  |_=>False
def L0(lo:Option Int)(l:Nat):Prop:=
 match lo with
 |none=>l=0
 |some n=>n=(l:Int)
def zI(len:Nat)(hi:Option Int)(h:Nat):Prop:=
 match hi with
 |none=>h=len
 |some n=>n=(h:Int)
def Ww(len:Nat)(lo hi:Option Int)(K:Nat->Nat->Prop):Prop:=
 ∃l h:Nat,L0 lo l/\zI len hi h/\l<=h/\h<=len/\K l h
def zo(E:bx)(x:AV)(lo hi:Option Int)(F:Prop)(K:AV->Prop)(i:TI):Prop:=
 match x with
 | .one (.d (.pv (.string s)))=>match i.kind with
  | .str=>Ww s.size lo hi λl h=>K (vS (s.extract l h))
  |_=>F
 | .one (.d (.sl xs))=>match i.kind with
  | .sl e=>aTI E.T e λj=>Ww xs.length lo hi λl h=>(∀x∈xs,x.length=j.size)/\K (.one (.d (.sl ((xs.take h).drop l))))
  |_=>F
 |_=>F
def Eq(E:bx)(st:ASt)(t:TypeId)(x:AV)(lo hi:Option Operand)(F:Prop)(K:AV->Prop):Prop:=
 DR st lo λlo=>DR st hi λhi=>aTI E.T t (zo E x lo hi F K)
def yu(E:bx)(t:TypeId)(x:AV)(f:Nat)(K:AV->Prop):Prop:=
 match x with
 | .agg cs=>aTI E.T t λi=>match i.kind with
  | .st fs=>pG fs f λp=>aTI E.T p.2 λj=>zk cs p.1 λr=>uu j r K
  |_=>False
 |_=>False
def QV(st:ASt)(d:Option Tmp)(t:TypeId)(cs:List AC)(K:ASt->Prop):Prop:=
 match d with
 |some d=>zm d cs λcs=>C8 st d (.cells t cs) λst=>fa st (some d) (.one (.ref d 0 0 0)) K
 |none=>False
def PH(x y:AV)(F:Prop)(K:IntKind->Int->Int->Prop):Prop:=
 match x with
 | .one (.d (.pv (.int k a)))=>match y with
  | .one (.d (.pv (.int _ b)))=>K k a b
  |_=>F
 |_=>F
def VW(E:bx)(ts:List TypeId)(args:List AV)(st:ASt)(d:Option Tmp)(F:Prop)(K:ASt->Prop):Prop:=
 match ts with
 |t::_=>match args with
  |[x]=>NG E st t x F λv=>fa st d v K
  |_=>F
 |_=>F
def dY(s:ByteArray):List (List AD):=s.data.toList.map λb=>[.pv (.int .u8 b.toNat)]
def Jl(E:bx)(st:ASt)(d:Option Tmp)(t t2:TypeId)(x:AV)(s:ByteArray)(K:ASt->Prop):Prop:=
 aTI E.T t λi=>match i.kind with
 | .sl e=>aTI E.T e λj=>match j.zero,j.size,j.bytes with
  | .int .u8 n,1,1=>n=0/\aTI E.T t2 λi2=>match i2.kind with
   | .str=>match x with
    | .one .nil=>(s.size<=140737488355328)/\oz E st d e (dY s) K
    | .one (.own id)=>aOb st.ob id λo=>match o with
     | .row e' s' xs=>match Nat.beq e e',Nat.beq 1 s' with
      |true,true=>(xs.length+s.size<=140737488355328)/\C8 st id (.row e 1 (xs++dY s)) λst=>fa st d (.one (.own id)) K
      |_,_=>False
     |_=>False
    |_=>False
   |_=>False
  |_,_,_=>False
 |_=>False
def VU(E:bx)(ts:List TypeId)(args:List AV)(st:ASt)(d:Option Tmp)(F:Prop)(K:ASt->Prop):Prop:=
 match ts with
 |[t,t2]=>match args with
  |[x,y]=>match y with
   | .one (.d (.pv (.string s)))=>Jl E st d t t2 x s K
   |_=>Jm E st d t t2 x y K
  |_=>F
 |_=>F
def pB(E:bx)(b:Builtin)(ts:List TypeId)(args:List AV)(st:ASt)(d:Option Tmp)(F:Prop)(K:ASt->Prop):Prop:=
 match b with
 | .len=>VW E ts args st d F K
 | .append=>VU E ts args st d F K
 | .max=>match args with
  |[x,y]=>PH x y F λk a b=>fa st d (vI k (if b>a then b else a)) K
  |_=>F
 | .min=>match args with
  |[x,y]=>PH x y F λk a b=>fa st d (vI k (if b<a then b else a)) K
  |_=>F
 |_=>F
def aop(E:bx)(S:bZ)(o:Oper)(st:ASt)(K:ASt->Prop):Prop:=
 match o.op with
 | .move x| .assign x=>aEv st x λv=>fa st o.dst v K
 | .pick c a b=>aEv st c λc=>zh c (aEv st a λv=>fa st o.dst v K) (aEv st b λv=>fa st o.dst v K)
 | .binOp op t x y _=>aEv st x λx=>aEv st y λy=>QT E op t x y (AOp E S o st K) λv=>fa st o.dst v K
 | .unOp op _ x=>aEv st x λx=>aUn op x (AOp E S o st K) λv=>fa st o.dst v K
 | .convert s d x=>aEv st x λx=>Hi E s d x (AOp E S o st K) λv=>fa st o.dst v K
 | .fieldAddr t x f=>aEv st x λx=>lO E t x f λv=>fa st o.dst v K
 | .load t x=>aEv st x λx=>xP E st t x λv=>fa st o.dst v K
 | .store t x v=>aEv st x λx=>aEv st v λv=>S4 E st t x v λst=>fa st o.dst (.one .und) K
 | .box t x=>aEv st x λx=>nE x λcs=>QV st o.dst t cs K
 | .alloc t=>aTI E.T t λi=>zt i.zero λcs=>QV st o.dst t cs K
 | .build t ps=>DT E st t ps.toList λv=>fa st o.dst v K
 | .buildSlice t n ps=>BT E st o.dst t n ps.toList K
 | .makeSlice t l c=>Xl l (aEv st c λc=>NH E st o.dst t c K) (aEv st l λl=>aEv st c λc=>SU E st o.dst t l c K)
 | .slice t x lo hi none=>aEv st x λx=>Eq E st t x lo hi (AOp E S o st K) λv=>fa st o.dst v K
 | .indexAddr t x i=>aEv st x λx=>aEv st i λi=>lP E st t x i λv=>fa st o.dst v K
 | .index t x i=>aEv st x λx=>aEv st i λi=>Be E t x i (AOp E S o st K) λv=>fa st o.dst v K
 | .field t x f=>aEv st x λx=>yu E t x f λv=>fa st o.dst v K
 | .extract x i=>aEv st x λx=>match x with
  | .tup vs=>pG vs i λv=>fa st o.dst v K
  |_=>False
 | .nilCheck x=>aEv st x λx=>match x with
  | .one (.ref i k s off)=>fa st o.dst (.one (.ref i k s off)) K
  | .one (.ptr cs)=>fa st o.dst (.one (.ptr cs)) K
  | .one (.d (.pv (.func (.func f) a c)))=>fa st o.dst (.one (.d (.pv (.func (.func f) a c)))) K
  |_=>AOp E S o st K
 | .call c=>match c.callee with
  | .builtin b=>Jp st c.args.toList λargs=>pB E b c.argTypes.toList args st o.dst (AOp E S o st K) K
  | .value f=>aEv st f λf=>match f with
   | .one (.d (.pv (.func (.func f) first caps)))=>match first.toList,caps.toList with
    |[],[]=>Jp st c.args.toList λargs=>aI E S f args st λr st=>fa st o.dst r K
    |_,_=>AOp E S o st K
   |_=>AOp E S o st K
  |_=>AOp E S o st K
 |_=>AOp E S o st K
def uj(all:List Oper)(o:Oper)(st:ASt)(Y N:ASt->Prop):Prop:=
 match o.guard with
 |none=>Y st
 |some (j,want)=>pG all j λoj=>match oj.dst with
  |none=>False
  |some d=>aTm st.tm d λv=>match v with
   | .one (.d (.pv (.bool p)))=>match st with
    | ⟨tm, ob⟩ => AB p (oy tm d (vB true) fun tm => match want with
     |true=>Y ⟨tm,ob⟩
     | false => N ⟨tm, ob⟩) (oy tm d (vB false) fun tm => match want with
     |true=>N ⟨tm,ob⟩
     |false=>Y ⟨tm,ob⟩)
   | .one .und=>N st
   |_=>False
def Bj(E:bx)(S:bZ)(all:List Oper):List Oper->ASt->(ASt->Prop)->Prop
 |[],st,K=>K st
 |o::r,st,K=>uj all o st (λst=>aop E S o st λst=>Bj E S all r st K) (λst=>fa st o.dst (.one .und) λst=>Bj E S all r st K)
end
section
open Go.RowKit
section
variable {E:bx} {S:bZ} {Z:Nat->Prop} {ρ:Nat->Value} {st:ASt} {a:Act} {w:World} {K:ASt->Prop} {o:Oper}
def td(E:bx)(S:bZ)(o:Oper)(a:Act)(w:World)(K:ASt->Prop):Prop:=∀Q,Oper.wp E.P o a w (λa' w'=>∃st',f8 E.W S st' a' w'/\K st') Q
theorem yJ(h:Sim E.W S Z ρ st a w){x:AV}{v:Value}(hx:cu Z w ρ x v)(hr:(execOp a.eval o).run E.P w= .ok (.value v) w)(hk:fa st o.dst x K):td E S o a w K:=by
 intro Q;unfold Oper.wp;rw[hr];exact⟨_,⟨Z,ρ,h.put o.dst hx⟩,fG hk⟩
def jI(E:bx)(Z:Nat->Prop)(ρ:Nat->Value)(o:Oper)(a:Act)(w:World)(K:AV->Prop):Prop:=∃x v,cu Z w ρ x v/\(execOp a.eval o).run E.P w= .ok (.value v) w/\K x
theorem lc(h:Sim E.W S Z ρ st a w)(hk:jI E Z ρ o a w (λv=>fa st o.dst v K)):td E S o a w K:=by
 obtain⟨x,v,hx,hr,hk⟩:=hk;exact yJ h hx hr hk
theorem ry(h:Sim E.W S Z ρ st a w)(hk:jI E Z ρ o a w (λv=>fa st o.dst v K)\/AOp E S o st K):td E S o a w K:=by
 rcases hk with hk|hk
 ·exact lc h hk
 ·exact λQ=>hk.run a w Q ⟨Z,ρ,h⟩
theorem bJ{K:TI->Prop}{t:TypeId}(he:E.Ok)(h:aTI E.T t K):∃i,aU E.P t i/\K i:=by
 unfold aTI at h;split at h
 ·rename_i i hi;exact⟨i,aby he.ty hi,h⟩
 ·exact h.elim
theorem aU.und{P:Program}{t:TypeId}{i:TI}(h:aU P t i):∃d,P.underlying t=some d/\vF d=i.kind:=map_eq_some_iff.1 h.kd
theorem aU.stf{P:Program}{t:TypeId}{i:TI}(h:aU P t i){fs:List (Nat×TypeId)}(hk:i.kind= .st fs):∃fields,P.underlying t=some (.struct fields)/\fields.toList.map (λf=>(f.offset,f.type))=fs:=by
 obtain⟨d,hd,e⟩:=h.und;rw[hk]at e;cases d<;>simp only[vF]at e<;>first|(cases e;exact⟨_,hd,rfl⟩)|cases e
theorem aU.sl{P:Program}{t:TypeId}{i:TI}(h:aU P t i){e:TypeId}(hk:i.kind= .sl e):P.underlying t=some (.slice e):=by
 obtain⟨d,hd,e1⟩:=h.und;rw[hk]at e1;cases d<;>simp only[vF]at e1<;>first|(cases e1;exact hd)|cases e1
theorem aU.arr{P:Program}{t:TypeId}{i:TI}(h:aU P t i){n:Nat}{e:TypeId}(hk:i.kind= .arr n e):P.underlying t=some (.array n e):=by
 obtain⟨d,hd,e1⟩:=h.und;rw[hk]at e1;cases d<;>simp only[vF]at e1<;>first|(cases e1;exact hd)|cases e1
theorem aU.str{P:Program}{t:TypeId}{i:TI}(h:aU P t i)(hk:i.kind= .str):P.underlying t=some .string:=by
 obtain⟨d,hd,e1⟩:=h.und;rw[hk]at e1;cases d<;>simp only[vF]at e1<;>first|exact hd|cases e1
theorem aU.bool{P:Program}{t:TypeId}{i:TI}(h:aU P t i)(hk:i.kind= .bool):P.underlying t=some .bool:=by
 obtain⟨d,hd,e1⟩:=h.und;rw[hk]at e1;cases d<;>simp only[vF]at e1<;>first|exact hd|cases e1
theorem aU.int{P:Program}{t:TypeId}{i:TI}(h:aU P t i){k:IntKind}(hk:i.kind= .int k):P.underlying t=some (.int k):=by
 obtain⟨d,hd,e1⟩:=h.und;rw[hk]at e1;cases d<;>simp only[vF]at e1<;>first|(cases e1;exact hd)|cases e1
theorem aU.info'{P:Program}{t:TypeId}{i:TI}(h:aU P t i):∃j,P.info? t=some j/\j.zero=some i.zero/\j.size=i.size/\j.bytes=i.bytes:=by
 obtain⟨j,hj,e⟩:=map_eq_some_iff.1 h.info;simp only[Prod.mk.injEq]at e;exact⟨j,hj,e.1,e.2.1,e.2.2⟩
theorem qv{id k s off b:Nat}{v:Value}(hb:ch (ρ id)=some b)(hv:v= .pointer (some ⟨b,k*s+off,none⟩)):cu Z w ρ (.one (.ref id k s off)) v:= .one (.ref id k s off) v ⟨b,hb,hv⟩
theorem Ai{cs:List AD}{v:Value}(h:Hg Z w cs v):cu Z w ρ (.one (.ptr cs)) v:= .one (.ptr cs) v h
theorem Ug{d:AD}{v:Value}(h:co Z w d v):cu Z w ρ (.one (.d d)) v:= .one (.d d) v h
theorem Ah{id:Nat}{v:Value}(h:v=ρ id)(h1:v.oneCell'=true):cu Z w ρ (.one (.own id)) v:= .one (.own id) v ⟨h,h1⟩
theorem cF{v u:Value}(h:cu Z w ρ (.one (.d (.pv v))) u):u=v:=by
 cases h with
 |one _ _ h=>cases h;rfl
theorem cQ{v:Value}(h:v.oneCell'=true):cu Z w ρ (.one (.d (.pv v))) v:= .one _ _ (.pv v h)
theorem se{K:AV->Prop}(h:Sim E.W S Z ρ st a w){x:Operand}(ho:o.op= .move x\/o.op= .assign x)(hk:aEv st x K):jI E Z ρ o a w K:=by
 obtain⟨v,hv,hk⟩:=bz h hk;refine⟨_,_,hv,?_,hk⟩;rcases ho with ho|ho<;>simp[execOp,ho]
theorem Hh{v:AV}{X Y:Prop}{u:Value}(hv:cu Z w ρ v u)(h:zh v X Y):∃p,u= .bool p/\(p=true->X)/\(p=false->Y):=by
 unfold zh at h;split at h
 ·rename_i p;exact⟨p,cF hv,h.t,h.f⟩
 ·exact h.elim
theorem FG{K:AV->Prop}(h:Sim E.W S Z ρ st a w){c x y:Operand}(ho:o.op= .pick c x y)
  (hk:aEv st c λc=>zh c (aEv st x K) (aEv st y K)):jI E Z ρ o a w K:=by
 obtain⟨v,hv,hk⟩:=bz h hk;obtain⟨p,hp,h1,h2⟩:=Hh hv hk;cases p with
 |true=>
  obtain⟨u,hu,hk⟩:=bz h (h1 rfl);refine⟨_,_,hu,?_,hk⟩;simp[execOp,ho,hp,asBool]
 |false=>
  obtain⟨u,hu,hk⟩:=bz h (h2 rfl);refine⟨_,_,hu,?_,hk⟩;simp[execOp,ho,hp,asBool]
theorem Q0{op:BinOp}{k:IntKind}{x y:Int}{K:AV->Prop}(h:BX op k x y K):∃v,v.oneCell'=true/\(∀t,(binOp op t (.int k x) (.int k y)).run E.P w= .ok v w)/\K (.one (.d (.pv v))):=by
 cases op<;>simp only[BX]at h<;>try exact h.elim
 case add=>obtain⟨c,rfl,hk⟩:=h.h;exact⟨_,rfl,λt=>by simp[binOp,Op.intArith],hk⟩
 case sub=>obtain⟨c,rfl,hk⟩:=h.h;exact⟨_,rfl,λt=>by simp[binOp,Op.intArith],hk⟩
 case mul=>obtain⟨c,rfl,hk⟩:=h.h;exact⟨_,rfl,λt=>by simp[binOp,Op.intArith],hk⟩
 case quo=>obtain⟨c,rfl,hk⟩:=h.2.h;exact⟨_,rfl,λt=>by simp[binOp,Op.intDiv,h.1],hk⟩
 case rem=>exact⟨_,rfl,λt=>by simp[binOp,Op.intDiv,h.1],h.2⟩
 case and=>exact⟨_,rfl,λt=>by simp[binOp,Op.intBits,JC],h⟩
 case xor=>exact⟨_,rfl,λt=>by simp[binOp,Op.intBits,Xa],h⟩
 case shr=>
  split at h
  ·rename_i hb;have hb:¬y<0:=by rw[decide_eq_true_eq]at hb;omega
   exact⟨_,rfl,λt=>by simp[binOp,Op.shift,Ph,hb],h⟩
  ·exact h.elim
 all_goals exact⟨_,rfl,λt=>by simp[binOp,Op.intCmp],h⟩
theorem Q8{op:BinOp}{x y:ByteArray}{K:AV->Prop}(h:PO op x y K):∃v,v.oneCell'=true/\(∀t,(binOp op t (.string x) (.string y)).run E.P w= .ok v w)/\K (.one (.d (.pv v))):=by
 cases op<;>simp only[PO]at h<;>try exact h.elim
 case add=>
  refine⟨_,rfl,λt=>?_,h.2⟩;have:¬((x.size+y.size:Nat):Int)>IntKind.i64.max:=by rw[IntKind.max_i64];omega
  simp only[binOp,Op.stringOp,if_neg this];rfl
 case eql=>exact⟨_,rfl,λt=>by simp[binOp,Op.stringOp],h⟩
 case neq=>exact⟨_,rfl,λt=>by simp[binOp,Op.stringOp],h⟩
theorem mt{op:BinOp}{t:TypeId}{x y:Operand}{u v:Value}(hu:match u with| .int .. | .string _| .bool _=>true|_=>false):eqGuard op t x y u v=pure ():=by
 cases u<;>simp at hu<;>cases op<;>rfl
theorem Iu{K:AV->Prop}{F:Prop}(he:E.Ok)(h:Sim E.W S Z ρ st a w){op:BinOp}{t t2:TypeId}{x y:Operand}(ho:o.op= .binOp op t x y t2)
  (hk:aEv st x λx=>aEv st y λy=>QT E op t x y F K):jI E Z ρ o a w K\/F:=by
 obtain⟨vx,hx,hk⟩:=bz h hk;obtain⟨vy,hy,hk⟩:=bz h hk;unfold QT at hk;split at hk
 ·rename_i k m k' n;split at hk
  ·rename_i e;have e:=Hz e;subst e;have e1:=cF hx;have e2:=cF hy;obtain⟨v,h1,h2,hk⟩:=Q0 (E:=E) (w:=w) hk;refine .inl ⟨_,_,(cQ h1),?_,hk⟩;simp only[execOp,ho,e1,e2];rw[mt (by rfl)];simp[h2]
  ·exact hk.elim
 ·have e1:=cF hx;have e2:=cF hy;obtain⟨v,h1,h2,hk⟩:=Q8 (E:=E) (w:=w) hk;refine .inl ⟨_,_,(cQ h1),?_,hk⟩;simp only[execOp,ho,e1,e2];rw[mt (by rfl)];simp[h2]
 ·have e1:=cF hx;have e2:=cF hy;obtain⟨i,hi,hk⟩:=bJ he hk;split at hk
  ·rename_i hb;have hu:=hi.bool hb;cases op<;>simp only[Jn]at hk<;>try exact hk.elim
   ·refine .inl ⟨_,_,(cQ rfl),?_,hk⟩;simp only[execOp,ho,e1,e2];rw[mt (by rfl)];simp[run_eql_bool _ _ _ _ hu]
   ·refine .inl ⟨_,_,(cQ rfl),?_,hk⟩;simp only[execOp,ho,e1,e2];rw[mt (by rfl)];simp[run_neq_bool _ _ _ _ hu]
  ·exact hk.elim
 ·exact .inr hk
theorem Mt{K:AV->Prop}{F:Prop}(h:Sim E.W S Z ρ st a w){op:UnOp}{t:TypeId}{x:Operand}(ho:o.op= .unOp op t x)
  (hk:aEv st x λx=>aUn op x F K):jI E Z ρ o a w K\/F:=by
 obtain⟨vx,hx,hk⟩:=bz h hk;unfold aUn at hk;split at hk
 ·have e:=cF hx;refine .inl ⟨_,_,(cQ rfl),?_,hk⟩;simp[execOp,ho,e,Op.unary]
 ·have e:=cF hx;obtain⟨c,rfl,hk⟩:=hk.h;refine .inl ⟨_,_,(cQ rfl),?_,hk⟩;simp[execOp,ho,e,Op.unary,Op.intArith]
 ·exact .inr hk
theorem FE{K:AV->Prop}{F:Prop}(he:E.Ok)(h:Sim E.W S Z ρ st a w){s d:TypeId}{x:Operand}(ho:o.op= .convert s d x)
  (hk:aEv st x λx=>Hi E s d x F K):jI E Z ρ o a w K\/F:=by
 obtain⟨vx,hx,hk⟩:=bz h hk;unfold Hi at hk;split at hk
 ·have e:=cF hx;obtain⟨i,hi,hk⟩:=bJ he hk;obtain⟨j,hj,hk⟩:=bJ he hk;split at hk
  ·rename_i k hkk;obtain⟨ds,hds,_⟩:=hi.und;have hd:=hj.int hkk;obtain⟨c,rfl,hk⟩:=hk.h;refine .inl ⟨_,_,(cQ rfl),?_,hk⟩;simp[execOp,ho,e,convert,run_underlying hds,run_underlying hd,Conv.intToInt]
  ·exact .inr hk
 ·exact .inr hk
theorem wb{P:Program}{b off:Nat}{fl:Field}{s:Nat}(w:World)(hs:∀w,(sizeOf fl.type).run P w= .ok s w)(h0:s≠0):(fieldPlace ⟨b,off,none⟩ fl).run P w= .ok ⟨b,off+fl.offset,none⟩ w:=by
 unfold fieldPlace;simp only[Sem.run_bind,hs,Result.andThen_ok,if_neg h0];simp[Addr.add]
theorem sV{K:AV->Prop}(he:E.Ok)(h:Sim E.W S Z ρ st a w){t:TypeId}{x:Operand}{f:Nat}(ho:o.op= .fieldAddr t x f)
  (hk:aEv st x λx=>lO E t x f K):jI E Z ρ o a w K:=by
 obtain⟨vx,hx,hk⟩:=bz h hk;obtain⟨i,hi,hk⟩:=bJ he hk;split at hk
 ·rename_i fs hfs;obtain⟨fields,hu,hf⟩:=hi.stf hfs;obtain⟨p,hp,hk⟩:=gh hk;obtain⟨j,hj,hk⟩:=bJ he hk;rw[<-hf,getElem?_map]at hp;obtain⟨fl,hfl,rfl⟩:=map_eq_some_iff.1 hp;have hfl':fields[f]? =some fl:=by simpa using hfl
  split at hk
  ·exact hk.elim
  ·rename_i n hn;have run:∀b off,a.eval x= .pointer (some ⟨b,off,none⟩)->(execOp a.eval o).run E.P w= .ok (.value (.pointer (some ⟨b,off+fl.offset,none⟩))) w:=by
    intro b off e;have:=wb (P:=E.P) (b:=b) (off:=off) (fl:=fl) w hj.sz (by omega);simp[execOp,ho,e,Instr.fieldAt,run_underlying hu,hfl',Instr.sureAddr,this]
   split at hk
   ·cases hx with
    |one _ _ hx=>
     obtain⟨b,hb,e⟩:=hx;refine⟨_,_,(qv hb ?_),(run _ _ e),hk⟩;rw[add_assoc]
   ·cases hx with
    |one _ _ hx=>
     obtain⟨b,off,us,e,hZ,hl,hc,hd⟩:=hx;obtain⟨hle,hk⟩:=kn hk;refine⟨_,_,(Ai ⟨b,off+fl.offset,us.drop fl.offset,rfl,hZ,by simp[hl],λi u hu=>?_,λi x u h1 h2=>?_⟩),(run _ _ e),hk⟩
     ·rw[getElem?_drop]at hu;rw[add_assoc];exact hc _ u hu
     ·rw[getElem?_drop]at h1 h2;exact hd _ x u h1 h2
   ·exact hk.elim
 ·exact hk.elim
theorem li{t:TypeId}{i:TI}(hi:aU E.P t i){b off:Nat}{us:List Value}(hc:∀j u,us[j]? =some u->w.cell? ⟨b,off+j,none⟩=some u)
  {cs:List AC} (hl:us.length=cs.length) (hr:∀(j:Nat) c u,cs[j]? =some c->us[j]? =some u->fp Z w ρ c u) {K:AV->Prop} (hk:uu i cs K):
  ∃x v,(loadVar t ⟨b,off,none⟩).run E.P w= .ok v w/\cu Z w ρ x v/\K x:=by
 unfold uu at hk;unfold loadVar;split at hk
 ·rename_i hg;obtain⟨hle,hk⟩:=pH hk;refine⟨_,_,?_,.agg _ (us.take i.size) (by simp[hl]) λj c u h1 h2=>?_,hk⟩
  ·have hlen:(us.take i.size).length=i.size:=by simp;omega
   have:=run_loadCells_list (P:=E.P) w ⟨b,off,none⟩ (us.take i.size) (λj u hu=>by
    have hadd:(⟨b,off,none⟩:Addr).add j=⟨b,off+j,none⟩:=by unfold Addr.add;split<;>simp_all
    rw[hadd];rw[getElem?_take]at hu;split at hu
    ·exact hc j u hu
    ·cases hu)
   rw[hlen]at this;simp only[Sem.run_bind,hi.ag,hg,Result.andThen_ok,if_true,hi.sz,this,Sem.run_pure]
  ·rw[getElem?_take]at h1 h2;split at h1
   ·rename_i hlt;rw[if_pos hlt]at h2;exact hr j c u h1 h2
   ·cases h1
 ·rename_i hg;split at hk
  ·rename_i c r;cases us with
   |nil=>simp at hl
   |cons u us=>
    refine⟨_,u,?_,.one _ _ (hr 0 c u rfl rfl),hk⟩;have:=hc 0 u rfl;simp only[Nat.add_zero]at this;simp[hi.ag,hg,this]
  ·exact hk.elim
end
end
section
open Go.RowKit
section
variable {E:bx} {S:bZ} {Z:Nat->Prop} {ρ:Nat->Value} {st:ASt} {a:Act} {w:World} {K:ASt->Prop} {o:Oper}
theorem qf{us:List (List Value)}{s:Nat}(h:∀u∈us,u.length=s){k j:Nat}{u:List Value}{v:Value}(hu:us[k]? =some u)(hv:u[j]? =some v):us.flatten[k*s+j]? =some v:=by
 induction us generalizing k with
 |nil=>simp at hu
 |cons x r ih=>
  have hx:x.length=s:=h x (by simp);cases k with
  |zero=>
   simp at hu;subst hu;rw[List.flatten_cons,Nat.zero_mul,zero_add,List.getElem?_append_left (List.getElem?_eq_some_iff.1 hv).1];exact hv
  |succ k=>
   have:=ih (λu hu=>h u (by simp[hu])) (by simpa using hu);rw[List.flatten_cons,List.getElem?_append_right (by rw[hx,add_mul];omega),hx];rw[show(k+1)*s+j-s=k*s+j by rw[add_mul];omega];exact this
theorem k8{us:List (List Value)}{s:Nat}(h:∀u∈us,u.length=s):us.flatten.length=us.length*s:=by
 induction us with
 |nil=>simp
 |cons x r ih=>
  rw[List.flatten_cons,List.length_append,ih λu hu=>h u (by simp[hu]),h x (by simp),List.length_cons,add_mul];omega
theorem BA{e:TypeId}{s n:Nat}{v:Value}{xs:List Value}(h:w.ownsRow 0 e s v n xs){b:Nat}(hb:ch v=some b):∃cap cur,v= .slice (some ⟨b,0,none⟩) n cap/\w.heap[b]? =some (.cells cur e (0,0))/\n<=cap/\cap<=maxLen/\cur.size=cap*s/\cur.toList.take (n*s)=xs:=by
 rcases h.2 with⟨rfl,_⟩|⟨g,cap,cur,rfl,_,hg,h1,h2,h3,h4⟩
 ·simp[ch]at hb
 ·simp only[ch]at hb;injection hb with hb
  subst hb;exact⟨cap,cur,rfl,hg,h1,h2,h3,h4⟩
theorem Vk{e:TypeId}{s n:Nat}{v:Value}{xs:List Value}(h:w.ownsRow 0 e s v n xs)(hn:0<n):∃b,ch v=some b:=by
 rcases h.2 with⟨rfl,h0⟩|⟨g,cap,cur,rfl,_⟩
 ·omega
 ·exact⟨g,rfl⟩
theorem qt{e:TypeId}{s n:Nat}{v:Value}{xs:List Value}(h:w.ownsRow 0 e s v n xs){b:Nat}(hb:ch v=some b){i:Nat}{u:Value}(hu:xs[i]? =some u):w.cell? ⟨b,i,none⟩=some u:=by
 obtain⟨cap,cur,_,hg,_,_,_,ht⟩:=BA h hb;rw[cell_of_row w b i cur e (0,0) hg];rw[<-ht,getElem?_take]at hu;split at hu
 ·simpa using hu
 ·cases hu
theorem vH(he:E.Ok)(h:Sim E.W S Z ρ st a w){t:TypeId}{vx:AV}{u:Value}(hx:cu Z w ρ vx u){K:AV->Prop}(hk:xP E st t vx K):
  ∃b off v y,u= .pointer (some ⟨b,off,none⟩)/\(loadVar t ⟨b,off,none⟩).run E.P w= .ok v w/\cu Z w ρ y v/\K y:=by
 obtain⟨i,hi,hk⟩:=bJ he hk;have fin:∀{b off:Nat} {v:Value} {y:AV},u= .pointer (some ⟨b,off,none⟩)->(loadVar t ⟨b,off,none⟩).run E.P w= .ok v w->cu Z w ρ y v->K y->∃b off v y,u= .pointer (some ⟨b,off,none⟩)/\(loadVar t ⟨b,off,none⟩).run E.P w= .ok v w/\cu Z w ρ y v/\K y:=
  λe hr hy hk=>⟨_,_,_,_,e,hr,hy,hk⟩
 split at hk
 ·rename_i id k s off _;cases hx with
  |one _ _ hx=>
   obtain⟨b,hb,e⟩:=hx;obtain⟨ob,hob,hk⟩:=da hk;have hrel:=h.ws.obj id ob hob;split at hk
   ·rename_i u' cs;split at hk
    ·obtain⟨b',us,hp,hg,hl,hc⟩:=hrel;rw[hp]at hb;simp only[ch]at hb;injection hb with hb
     subst hb;obtain⟨hle,hk⟩:=kn hk;rw[Nat.zero_mul,zero_add]at e;obtain⟨y,v,hr,hy,hk⟩:=li (ρ:=ρ) hi (b:=b') (off:=off) (us:=us.drop off) (λj u hu=>by
      rw[getElem?_drop]at hu;rw[cell_of_row w b' _ _ _ _ hg];simpa using hu) (by simp[hl]) (λj c u h1 h2=>by
      rw[getElem?_drop]at h1 h2;exact hc _ c u h1 h2) hk
     exact fin e hr hy hk
    ·exact hk.elim
   ·rename_i e' s' xs;split at hk
    ·rename_i hs;have hs:=eq_of_beq_eq_true hs;subst hs;obtain⟨us,h0,hl,hxs,hus,hown,hd⟩:=hrel;obtain⟨k',ex,hkk,hex,hk⟩:=hk.h;have hkk:k=k':=by omega
     subst hkk;obtain⟨hle,hk⟩:=kn hk;have hk:=ni hk;have hku:k<us.length:=by rw[hl];exact(List.getElem?_eq_some_iff.1 hex).1
     have hu1:us[k]? =some us[k]:=List.getElem?_eq_getElem hku;have hul:=hus us[k] (List.getElem_mem hku);have hxl:=hxs ex (List.mem_of_getElem? hex);obtain⟨y,v,hr,hy,hk⟩:=li (ρ:=ρ) hi (b:=b) (off:=k*s+off) (us:=us[k].drop off) (λj u hu=>by
      rw[getElem?_drop]at hu;have:=qt hown hb (qf hus hu1 hu);rwa[add_assoc]) (by simp[hul,hxl]) (λj c u h1 h2=>by
      rw[getElem?_map]at h1;obtain⟨d,h3,rfl⟩:=map_eq_some_iff.1 h1;rw[getElem?_drop]at h3 h2;exact hd k _ ex us[k] d u hex hu1 h3 h2) hk
     exact fin e hr hy hk
    ·exact hk.elim
   ·exact hk.elim
   ·exact hk.elim
   ·exact hk.elim
 ·rename_i cs _;cases hx with
  |one _ _ hx=>
   obtain⟨b,off,us,e,hZ,hl,hc,hd⟩:=hx;have hk:=ni hk;obtain⟨y,v,hr,hy,hk⟩:=li (ρ:=ρ) hi (b:=b) (off:=off) (us:=us) hc (by simp[hl]) (λj c u h1 h2=>by
    rw[getElem?_map]at h1;obtain⟨d,h3,rfl⟩:=map_eq_some_iff.1 h1;exact hd j d u h3 h2) hk
   exact fin e hr hy hk
 ·exact hk.elim
theorem FF{K:AV->Prop}(he:E.Ok)(h:Sim E.W S Z ρ st a w){t:TypeId}{x:Operand}(ho:o.op= .load t x)
  (hk:aEv st x λx=>xP E st t x K):jI E Z ρ o a w K:=by
 obtain⟨vx,hx,hk⟩:=bz h hk;obtain⟨b,off,v,y,e,hr,hy,hk⟩:=vH he h hx hk;refine⟨_,_,hy,?_,hk⟩;simp[execOp,ho,e,Instr.loadAt,Instr.sureAddr,hr]
theorem Q9(he:E.Ok){t:TypeId}{i:TI}(hi:aU E.P t i){us:List Value}{cs:List AC}(hl:us.length=cs.length)(hr:∀(j:Nat) c u,cs[j]? =some c->us[j]? =some u->fp Z w ρ c u){off:Nat}(hoff:off<=cs.length){K:AV->Prop}(hk:uu i (cs.drop off) K):
  ∃x v,(part t us.toArray off).run E.P w= .ok v w/\cu Z w ρ x v/\K x:=by
 unfold uu at hk;unfold part;split at hk
 ·rename_i hg;obtain⟨hle,hk⟩:=pH hk;refine⟨_,.agg ((us.drop off).take i.size).toArray,?_,.agg _ ((us.drop off).take i.size) (by simp[hl]) λj c u h1 h2=>?_,hk⟩
  ·simp only[Sem.run_bind,hi.ag,hg,Result.andThen_ok,if_true,hi.sz,Sem.run_pure];congr 2;simp[List.extract]
  ·rw[getElem?_take]at h1 h2;split at h1
   ·rename_i hlt;rw[if_pos hlt]at h2;rw[getElem?_drop]at h1 h2;exact hr _ c u h1 h2
   ·cases h1
 ·rename_i hg;split at hk
  ·rename_i c r hcs;have h1:cs[off]? =some c:=by
    have:=congrArg (·[0]?) hcs;simpa using this
   have hlt:off<us.length:=by rw[hl];exact(List.getElem?_eq_some_iff.1 h1).1
   refine⟨_,us[off],?_,.one _ _ (hr off c us[off] h1 (List.getElem?_eq_getElem hlt)),hk⟩;simp[hi.ag,hg,hlt]
  ·exact hk.elim
theorem CH{K:AV->Prop}(he:E.Ok)(h:Sim E.W S Z ρ st a w){t:TypeId}{x:Operand}{f:Nat}(ho:o.op= .field t x f)
  (hk:aEv st x λx=>yu E t x f K):jI E Z ρ o a w K:=by
 obtain⟨vx,hx,hk⟩:=bz h hk;unfold yu at hk;split at hk
 ·rename_i cs;obtain⟨i,hi,hk⟩:=bJ he hk;split at hk
  ·rename_i fs hfs;obtain⟨fields,hu,hf⟩:=hi.stf hfs;obtain⟨p,hp,hk⟩:=gh hk;obtain⟨j,hj,hk⟩:=bJ he hk;obtain⟨hle,hk⟩:=kn hk;rw[<-hf,getElem?_map]at hp;obtain⟨fl,hfl,rfl⟩:=map_eq_some_iff.1 hp;have hfl':fields[f]? =some fl:=by simpa using hfl
   generalize hev:a.eval x=ve at hx;cases hx with
   |agg _ us hl hr=>
    obtain⟨y,v,hrun,hy,hk⟩:=Q9 (w:=w) (ρ:=ρ) he hj hl hr hle hk;refine⟨_,_,hy,?_,hk⟩;simp[execOp,ho,hev,Instr.field,run_underlying hu,hfl',asAgg,hrun]
  ·exact hk.elim
 ·exact hk.elim
theorem yi{K:AV->Prop}(h:Sim E.W S Z ρ st a w){x:Operand}{i:Nat}(ho:o.op= .extract x i)
  (hk : aEv st x fun x => match x with
   | .tup vs=>pG vs i K
   |_=>False):jI E Z ρ o a w K:=by
 obtain⟨vx,hx,hk⟩:=bz h hk;split at hk
 ·rename_i vs;obtain⟨y,hy,hk⟩:=gh hk;generalize hev:a.eval x=ve at hx;cases hx with
  |tup _ us hl hr=>
   have hlt:i<us.length:=by rw[hl];exact(List.getElem?_eq_some_iff.1 hy).1
   refine⟨_,_,(hr i y us[i] hy (List.getElem?_eq_getElem hlt)),?_,hk⟩;simp[execOp,ho,hev,Instr.extract,hlt]
 ·exact hk.elim
theorem RO{K:AV->Prop}{F:Prop}(h:Sim E.W S Z ρ st a w){x:Operand}(ho:o.op= .nilCheck x)
  (hk : aEv st x fun x => match x with
   | .one (.ref i k s off)=>K (.one (.ref i k s off))
   | .one (.ptr cs)=>K (.one (.ptr cs))
   | .one (.d (.pv (.func (.func f) a c)))=>K (.one (.d (.pv (.func (.func f) a c))))
   |_=>F):jI E Z ρ o a w K\/F:=by
 obtain⟨vx,hx,hk⟩:=bz h hk;split at hk
 ·have hx':=hx;cases hx with
  |one _ _ hx=>
   obtain⟨b,hb,e⟩:=hx;refine .inl ⟨_,_,hx',?_,hk⟩;simp[execOp,ho,e]
 ·have hx':=hx;cases hx with
  |one _ _ hx=>
   obtain⟨b,off,us,e,_⟩:=hx;refine .inl ⟨_,_,hx',?_,hk⟩;simp[execOp,ho,e]
 ·have e:=cF hx;refine .inl ⟨_,_,hx,?_,hk⟩;simp[execOp,ho,e]
 ·exact .inr hk
theorem yy(h:Sim E.W S Z ρ st a w){x:AV}{v:Value}(hx:cu Z w ρ x v){K:List (List AD)->Prop}(hk:uo st x K):
  ∃(xs:List (List AD)) (A:Option Addr) (cap:Nat),v= .slice A xs.length cap/\xs.length<=cap/\K xs/\∃(s:Nat) (us:List (List Value)),us.length=xs.length/\(∀x∈xs,x.length=s)/\(∀u∈us,u.length=s)/\
   (us.flatten=[]\/∃b off,A=some ⟨b,off,none⟩/\∀(i:Nat) u,us.flatten[i]? =some u->w.cell? ⟨b,off+i,none⟩=some u)/\
   (∀(i j:Nat) x u p q,xs[i]? =some x->us[i]? =some u->x[j]? =some p->u[j]? =some q->co Z w p q):=by
 unfold uo at hk;split at hk
 ·cases hx with
  |one _ _ hx=>exact⟨[],none,0,hx,Nat.le_refl _,hk,0,[],rfl,by simp,by simp,.inl rfl,by simp⟩
 ·cases hx with
  |one _ _ hx=>
   cases hx with
   |sl xs A cap s us hc hm hl hxs hus hr hd=>
    refine⟨_,A,cap,rfl,hc,hk,s,us,hl,hxs,hus,?_,hd⟩;rcases hr with h0|⟨b,off,hA,_,hcell⟩
    ·exact .inl h0
    ·exact .inr ⟨b,off,hA,hcell⟩
 ·rename_i id;cases hx with
  |one _ _ hx=>
   obtain⟨ob,hob,hk⟩:=da hk;split at hk
   ·rename_i e s xs;obtain⟨us,h0,hl,hxs,hus,hown,hd⟩:=h.ws.obj id _ hob;have hx:v=ρ id:=hx.1;subst hx;rcases hown.2 with⟨hv,hn⟩|⟨g,cap,cur,hv,_,hg,h1,h2,h3,h4⟩
    ·have:xs=[]:=List.eq_nil_of_length_eq_zero hn;subst this;have:us=[]:=List.eq_nil_of_length_eq_zero hl;subst this;exact⟨[],none,0,hv,Nat.le_refl _,hk,s,[],rfl,by simp,by simp,.inl rfl,by simp⟩
    ·refine⟨xs,some ⟨g,0,none⟩,cap,hv,h1,hk,s,us,hl,hxs,hus,.inr ⟨g,0,rfl,λi u hu=>?_⟩,hd⟩;rw[zero_add];exact qt hown (by rw[hv];rfl) hu
   ·exact hk.elim
 ·exact hk.elim
theorem Iv{K:AV->Prop}{F:Prop}(he:E.Ok)(h:Sim E.W S Z ρ st a w){t:TypeId}{ts:Array TypeId}{x:AV}{v:Value}(hx:cu Z w ρ x v)
  (hr:(execOp a.eval o).run E.P w=((Builtin.len_ ts o.type #[v]).run E.P w).andThen λv w=> .ok (.value v) w) (hts:ts[0]? =some t)
  (hk:NG E st t x F K):jI E Z ρ o a w K\/F:=by
 unfold NG at hk;split at hk
 ·have e:=cF hx;subst e;obtain⟨i,hi,hk⟩:=bJ he hk;split at hk
  ·rename_i hs;refine .inl ⟨_,_,(cQ rfl),?_,hk⟩;rw[hr];simp[Builtin.len_,hts,run_underlying (hi.str hs),goInt]
  ·exact .inr hk
 ·obtain⟨i,hi,hk⟩:=bJ he hk;split at hk
  ·rename_i e hs;obtain⟨xs,A,cap,rfl,_,hk,_⟩:=yy h hx hk;refine .inl ⟨_,_,(cQ rfl),?_,hk⟩;rw[hr];simp[Builtin.len_,hts,run_underlying (hi.sl hs),goInt]
  ·exact .inr hk
theorem sW{K:AV->Prop}(he:E.Ok)(h:Sim E.W S Z ρ st a w){t:TypeId}{x ix:Operand}(ho:o.op= .indexAddr t x ix)
  (hk:aEv st x λx=>aEv st ix λi=>lP E st t x i K):jI E Z ρ o a w K:=by
 obtain⟨vx,hx,hk⟩:=bz h hk;obtain⟨vi,hi,hk⟩:=bz h hk;unfold lP at hk;split at hk
 ·rename_i ki n;have ei:=cF hi;obtain⟨ti,hti,hk⟩:=bJ he hk;split at hk
  ·rename_i e hs;have hu:=hti.sl hs;obtain⟨j,hj,hk⟩:=bJ he hk;split at hk
   ·exact hk.elim
   ·rename_i s hjs;have run:∀(b off k len cap:Nat),n=(k:Int)->k<len->a.eval x= .slice (some ⟨b,off,none⟩) len cap->(execOp a.eval o).run E.P w= .ok (.value (.pointer (some ⟨b,off+k*(s+1),none⟩))) w:=by
     intro b off k len cap hn hkl ev;subst hn;have hc:(0:Int)<=(k:Int)/\(k:Int)<(len:Int):=⟨by omega,by omega⟩;have hadd:(⟨b,off,none⟩:Addr).add (k*(s+1))=⟨b,off+k*(s+1),none⟩:=by unfold Addr.add;split<;>simp_all
     have hnk:¬len<=k:=by omega
     simp[execOp,ho,ei,ev,Instr.indexAt,asIntOf,run_underlying hu,hkl,hnk,hj.sz,hjs,hadd]
    split at hk
    ·generalize hev:a.eval x=ve at hx;cases hx with
     |one _ _ hx=>
      cases hx with
      |sl xs A cap s' us hc hm hl hxs hus hr hd=>
       obtain⟨k,ex,hn,hex,hk⟩:=hk.h;split at hk
       ·rename_i hlen;have hlen:=D4 hlen;have hkx:=(List.getElem?_eq_some_iff.1 hex).1;have hku:k<us.length:=by rw[hl];exact hkx
        have hu1:us[k]? =some us[k]:=List.getElem?_eq_getElem hku;have hul:=hus us[k] (List.getElem_mem hku);have hxl:=hxs ex (List.mem_of_getElem? hex);have hss:s'=s+1:=by omega
        subst hss;rcases hr with h0|⟨b,off,hA,hZ,hcell⟩
        ·have h1:=k8 hus;rw[h0,List.length_nil]at h1;have h2:0<us.length*(s+1):=Nat.mul_pos (by omega) (by omega);omega
        ·subst hA;refine⟨_,_,(Ai ⟨b,off+k*(s+1),us[k],rfl,hZ,by omega,λi u hu=>?_,λi p u h1 h2=>hd k i ex us[k] p u hex hu1 h1 h2⟩),(run b off k _ cap hn hkx hev),hk⟩;have:=hcell _ u (qf hus hu1 hu);rwa[add_assoc]
       ·exact hk.elim
    ·obtain⟨ob,hob,hk⟩:=da hk;split at hk
     ·split at hk
      ·rename_i hs';have hs':=eq_of_beq_eq_true hs';subst hs';obtain⟨us,h0,hl,hxs,hus,hown,hd⟩:=h.ws.obj _ _ hob;generalize hev:a.eval x=ve at hx;cases hx with
       |one _ _ hx=>
        have hx:=hx.1;subst hx;obtain⟨k,ex,hn,hex,hk⟩:=hk.h;have hkx:=(List.getElem?_eq_some_iff.1 hex).1;obtain⟨b,hb⟩:=Vk hown (by omega);obtain⟨cap,cur,hv,_⟩:=BA hown hb;refine⟨_,_,(qv hb rfl),?_,hk⟩;have:=run b 0 k _ cap hn hkx (by rw[hev,hv]);rw[zero_add]at this;exact this
      ·exact hk.elim
     ·exact hk.elim
    ·obtain⟨y,hk,hy⟩:=hk.h;generalize hev:a.eval x=ve at hx;cases hx with
     |one _ _ hx=>
      obtain⟨b,off,k,len,cap,e1,e2,e3,e4⟩:=hy S Z w ρ _ h.ws hx;exact⟨_,_,e4,run b off k len cap e2 e3 (hev.trans e1),hk⟩
    ·exact hk.elim
  ·rename_i len e hs;have hu:=hti.arr hs;obtain⟨j,hj,hk⟩:=bJ he hk;split at hk
   ·rename_i id k s off _h1 _h2 _h3;obtain⟨i,hn,hlt,hk⟩:=hk.h;generalize hev:a.eval x=ve at hx;cases hx with
    |one _ _ hx=>
     obtain⟨b,hb,rfl⟩:=hx;refine⟨_,_,qv hb rfl,?_,hk⟩;subst hn;have hadd:(⟨b,k*s+off,none⟩:Addr).add (i*j.size)=⟨b,k*s+(off+i*j.size),none⟩:=by
      unfold Addr.add;split
      ·rename_i h0;rw[h0,Nat.add_zero]
      ·simp only[add_assoc]
     have hnk:¬len<=i:=by omega
     simp[execOp,ho,ei,hev,Instr.indexAt,asIntOf,run_underlying hu,hlt,hnk,hj.sz,Instr.sureAddr,hadd]
   ·exact hk.elim
  ·exact hk.elim
 ·exact hk.elim
theorem CI{K:AV->Prop}{F:Prop}(he:E.Ok)(h:Sim E.W S Z ρ st a w){t:TypeId}{x ix:Operand}(ho:o.op= .index t x ix)
  (hk:aEv st x λx=>aEv st ix λi=>Be E t x i F K):jI E Z ρ o a w K\/F:=by
 obtain⟨vx,hx,hk⟩:=bz h hk;obtain⟨vi,hi,hk⟩:=bz h hk;unfold Be at hk;split at hk
 ·rename_i s ki n;have ei:=cF hi;have ex:=cF hx;obtain⟨ti,hti,hk⟩:=bJ he hk;split at hk
  ·rename_i hs;have hu:=hti.str hs;obtain⟨k,b,hn,hb,hk2⟩:=hk;subst hn;refine .inl ⟨_,_,(cQ rfl),?_,hk2⟩;simp[execOp,ho,ei,ex,Instr.index,asIntOf,run_underlying hu,hb]
  ·exact .inr hk
 ·exact .inr hk
theorem yr(h:Sim E.W S Z ρ st a w){x:Option Operand}{K:Option Int->Prop}(hk:DR st x K):(x=none/\K none)\/∃y k n,x=some y/\a.eval y= .int k n/\K (some n):=by
 unfold DR at hk;split at hk
 ·exact .inl ⟨rfl,hk⟩
 ·rename_i y;obtain⟨v,hv,hk⟩:=bz h hk;split at hk
  ·exact .inr ⟨y,_,_,rfl,cF hv,hk⟩
  ·exact hk.elim
theorem QG{P:Program}{len cap:Nat}(LS:Bool)(hc:len<=cap){lo hi:Option Int}{lv hv:Option Value}(hlo:(lo=none/\lv=none)\/∃k n,lo=some n/\lv=some (.int k n))(hhi:(hi=none/\hv=none)\/∃k n,hi=some n/\hv=some (.int k n))
  {l h:Nat} (h1:L0 lo l) (h2:zI len hi h) (h3:l<=h) (h4:h<=len) (w:World):
  (Instr.sliceBounds LS len cap lv hv none).run P w= .ok (l,h,cap) w:=by
 have c1:∀k,(Instr.sliceBound (.int k (h:Int)) cap (if LS then .sliceAcap else .sliceAlen)).run P w= .ok h w:=λk=>by
  rw[run_sliceBound _ _ _ _ _ (by omega) (by omega)];simp
 have c2:∀k,(Instr.sliceBound (.int k (l:Int)) h .sliceB).run P w= .ok l w:=λk=>by
  rw[run_sliceBound _ _ _ _ _ (by omega) (by omega)];simp
 rcases hlo with⟨rfl,rfl⟩|⟨kl,nl,rfl,rfl⟩<;>rcases hhi with⟨rfl,rfl⟩|⟨kh,nh,rfl,rfl⟩
 ·simp only[L0,zI]at h1 h2;subst h1 h2;simp[Instr.sliceBounds]
 ·simp only[L0,zI]at h1 h2;subst h1 h2;simp[Instr.sliceBounds,c1]
 ·simp only[L0,zI]at h1 h2;subst h1 h2;simp[Instr.sliceBounds,c2]
 ·simp only[L0,zI]at h1 h2;subst h1 h2;simp[Instr.sliceBounds,c1,c2]
theorem CJ{K:AV->Prop}{F:Prop}(he:E.Ok)(h:Sim E.W S Z ρ st a w){t:TypeId}{x:Operand}{lo hi:Option Operand}(ho:o.op= .slice t x lo hi none)
  (hk:aEv st x λx=>Eq E st t x lo hi F K):jI E Z ρ o a w K\/F:=by
 obtain⟨vx,hx,hk⟩:=bz h hk;unfold Eq at hk;have main:∀(lo' hi':Option Int),((lo'=none/\lo.map a.eval=none)\/∃k n,lo'=some n/\lo.map a.eval=some (.int k n))->((hi'=none/\hi.map a.eval=none)\/∃k n,hi'=some n/\hi.map a.eval=some (.int k n))->
   aTI E.T t (zo E vx lo' hi' F K)->jI E Z ρ o a w K\/F:=by
  intro lo' hi' hlo hhi hk;obtain⟨i,hi0,hk1⟩:=bJ he hk;clear hk;unfold zo at hk1;split at hk1
  ·split at hk1
   ·rename_i hs;have e:=cF hx;obtain⟨l,h0,h1,h2,h3,h4,hk2⟩:=hk1;refine .inl ⟨_,_,(cQ rfl),?_,hk2⟩;have hu:=hi0.str hs;have:=QG (P:=E.P) false (Nat.le_refl _) hlo hhi h1 h2 h3 h4 w;simp only[execOp,ho,e,Instr.sliceAt,Instr.slice,Sem.run_bind,run_underlying hu,Result.andThen_ok,map_none,Option.isSome_none,Bool.false_eq_true,if_false,this,Sem.run_pure]
   ·exact .inr hk1
  ·rename_i xs;split at hk1;rotate_left
   ·exact .inr hk1
   rename_i e hs;have hu:=hi0.sl hs;obtain⟨j,hj,hk2⟩:=bJ he hk1;clear hk1;obtain⟨l,h0,h1,h2,h3,h4,hsz,hk⟩:=hk2;generalize hev:a.eval x=ve at hx;cases hx with
   |one _ _ hx=>
    cases hx with
    |sl _ A cap s us hc hm hl hxs hus hr hd=>
     have:=QG (P:=E.P) true hc hlo hhi h1 h2 h3 h4 w;have hrun:∃A',(execOp a.eval o).run E.P w= .ok (.value (.slice A' (h0-l) (cap-l))) w/\A'=(if cap=l then A else A.map (·.add (l*j.size))):=by
      refine⟨_,?_,rfl⟩;simp only[execOp,ho,hev,Instr.sliceAt,Instr.slice,Sem.run_bind,run_underlying hu,Result.andThen_ok,map_none,this,hj.sz,Sem.run_pure]
     obtain⟨A',hrun,hA'⟩:=hrun;have hlen:((xs.take h0).drop l).length=h0-l:=by simp;omega
     refine .inl ⟨_,_,(Ug ?_),hrun,hk⟩;show co Z w (.sl ((xs.take h0).drop l)) (.slice A' (h0-l) (cap-l));rw[<-hlen];refine .sl _ A' (cap-l) s ((us.take h0).drop l) (by rw[hlen];omega) (by omega) (by simp[hl]) (λx hx=>hxs x (mem_of_mem_take (List.mem_of_mem_drop hx))) (λu hu=>hus u (mem_of_mem_take (List.mem_of_mem_drop hu))) ?_ (λi k x u p q h5 h6 h7 h8=>?_)
     ·by_cases hemp:((us.take h0).drop l).flatten=[]
      ·exact .inl hemp
      ·rcases hr with hr|⟨b,off,hA,hZ,hcell⟩
       ·refine absurd (List.flatten_eq_nil_iff.2 λu hu=>?_) hemp;exact List.flatten_eq_nil_iff.1 hr u (mem_of_mem_take (List.mem_of_mem_drop hu))
       ·have hlt:l<h0:=by
         rcases Nat.lt_or_ge l h0 with h|h
         ·exact h
         ·refine absurd ?_ hemp;rw[List.drop_of_length_le (by simp;omega)];rfl
        have hxe:xs≠ []:=by intro e;subst e;simp at h4;omega
        obtain⟨x0,hx0⟩:=List.exists_mem_of_ne_nil xs hxe;have hsj:s=j.size:=(hxs x0 hx0).symm.trans (hsz x0 hx0);rw[if_neg (by omega),hA]at hA';refine .inr ⟨b,off+l*s,?_,hZ,λi u hu=>?_⟩
        ·rw[hA',hsj];simp only[Option.map_some,Addr.add];split
         ·rename_i e;simp[e]
         ·rfl
        ·have e1:us.flatten=(us.take l).flatten++(((us.take h0).drop l).flatten++(us.drop h0).flatten):=by
          rw[<-List.flatten_append,<-List.flatten_append];congr 1;have e2:us.take l=(us.take h0).take l:=by rw[List.take_take,Nat.min_eq_left h3]
          rw[e2,<-List.append_assoc,List.take_append_drop,List.take_append_drop]
         have e3:(us.take l).flatten.length=l*s:=by
          rw[k8 λu hu=>hus u (mem_of_mem_take hu),List.length_take,Nat.min_eq_left (by omega)]
         have:=hcell (l*s+i) u (by
          rw[e1,List.getElem?_append_right (by omega),e3,Nat.add_sub_cancel_left,List.getElem?_append_left (List.getElem?_eq_some_iff.1 hu).1];exact hu)
         rwa[<-add_assoc]at this
     ·rw[getElem?_drop]at h5 h6;rw[getElem?_take]at h5 h6;split at h5
      ·rename_i hlt;rw[if_pos hlt]at h6;exact hd _ k x u p q h5 h6 h7 h8
      ·cases h5
  ·exact .inr hk1
 rcases yr h hk with⟨e1,hk1⟩|⟨y,k,n,e1,hy,hk1⟩
 ·rcases yr h hk1 with⟨e2,hk2⟩|⟨y2,k2,n2,e2,hy2,hk2⟩
  ·exact main none none (.inl ⟨rfl,by rw[e1];rfl⟩) (.inl ⟨rfl,by rw[e2];rfl⟩) hk2
  ·exact main none (some n2) (.inl ⟨rfl,by rw[e1];rfl⟩) (.inr ⟨k2,n2,rfl,by simp[e2,hy2]⟩) hk2
 ·rcases yr h hk1 with⟨e2,hk2⟩|⟨y2,k2,n2,e2,hy2,hk2⟩
  ·exact main (some n) none (.inr ⟨k,n,rfl,by simp[e1,hy]⟩) (.inl ⟨rfl,by rw[e2];rfl⟩) hk2
  ·exact main (some n) (some n2) (.inr ⟨k,n,rfl,by simp[e1,hy]⟩) (.inr ⟨k2,n2,rfl,by simp[e2,hy2]⟩) hk2
end
end
end Go.Proofs.YthgkdhnlehneeaaGreatDoor
