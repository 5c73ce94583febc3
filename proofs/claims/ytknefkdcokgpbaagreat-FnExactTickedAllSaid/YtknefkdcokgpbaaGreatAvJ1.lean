/- AvJ1 -/
import Derived.WalkKit
import Derived.Below
import Derived.Maps.AppendAt
import Derived.Laws.MakeOwn
import Derived.Laws.OwnMore
import Derived.OwnWalk
import Derived.Orders
set_option maxHeartbeats 8000000
set_option linter.unusedVariables false
set_option linter.unusedSimpArgs false
set_option maxRecDepth 100000
open List (getElem?_drop getElem?_map getElem?_take mem_of_mem_take)
open Nat (add_assoc add_mul eq_of_beq_eq_true le_trans lt_of_lt_of_le zero_add zero_le)
open Option (map_eq_some_iff map_none)
namespace Go.Proofs.YtknefkdcokgpbaaGreat
section
def rg:Nat->Nat->List Nat
 |_,0=>[]
 |a,n+1=>a::rg a.succ n
theorem ao{p:Prop}(h:p:=by simp only[List.length_map,List.length_nil,List.length_append,List.length_cons,List.length_take,List.length_drop]<;>omega):p:=h
theorem ap{p:Prop}(h:p:=by simp only[bne_iff_ne,ne_eq,decide_eq_true_eq,decide_eq_false_iff_not,List.length_map,bne_eq_false_iff_eq]at*;omega):p:=h
theorem am{p:Prop}(h:p:=by simp only[List.length_map,List.length_nil,List.length_append,List.length_cons,List.length_take]<;>omega):p:=h
theorem ak{p:Prop}(h:p:=by first|omega|(simp only[decide_eq_true_eq,decide_eq_false_iff_not,List.length_map]at*;omega)):p:=h
theorem au{p:Prop}(h:p:=by simp only[List.length_map,List.length_nil,List.length_append,List.length_cons]<;>omega):p:=h
theorem aA{p:Prop}(h:p:=by simp only[List.length_map,List.length_nil,List.length_cons,List.length_take]<;>omega):p:=h
theorem ay{p:Prop}(h:p:=by first|rfl|(simp only[List.map_append,List.map_cons,List.map_nil];rfl)):p:=h
theorem ax{p:Prop}(h:p:=by first|(simp_all;done)|(exfalso;assumption)):p:=h
theorem ar{p:Prop}(h:p:=by first|(simp;done)|(simp;omega)):p:=h
theorem an{p:Prop}(h:p:=by simp only[List.length_map];omega):p:=h
theorem al{p:Prop}(h:p:=by simp;omega):p:=h
theorem ai{p:Prop}(h:p:=by assumption):p:=h
theorem ae{p:Prop}(h:p:=by kernel_rfl):p:=h
theorem aq{p:Prop}(h:p:=by simp_all):p:=h
theorem ah{p:Prop}(h:p:=by decide):p:=h
theorem ac{p:Prop}(h:p:=by omega):p:=h
theorem aj{p:Prop}(h:p:=by simp):p:=h
open Go.RowKit
inductive AD where
 |pv (v:Value)
 |sl (xs:List (List AD))
 |x (R:(Nat->Prop)->World->Value->Prop)
inductive AC where
 |dead
 |und
 |d (x:AD)
 |nil
 |own (id:Nat)
 |ref (id k s off:Nat)
 |ptr (cs:List AD)
inductive AV where
 |one (c:AC)
 |agg (cs:List AC)
 |tup (vs:List AV)
inductive AO where
 |cells (t:TypeId) (cs:List AC)
 |row (e:TypeId) (s:Nat) (xs:List (List AD))
 |frame (vs:List AV) (us:List Value)
 |any (Q:World->Value->Prop)
 |many (P:Nat->Prop) (Q:World->Prop)
def bA:List (Nat×AO)->Nat->Option AO
 |[],_=>none
 |(k,o)::r,i=>if k=i then some o else bA r i
def Wl(Z:Nat->Prop)(w:World)(A:Option Addr)(us:List Value):Prop:=
 us=[]\/∃b off,A=some ⟨b,off,none⟩/\Z b/\∀i u,us[i]? =some u->w.cell? ⟨b,off+i,none⟩=some u
inductive bR (Z:Nat->Prop) (w:World):AD->Value->Prop
 |pv (v:Value) (h1:v.oneCell'=true):bR Z w (.pv v) v
 |sl (xs:List (List AD)) (A:Option Addr) (cap s:Nat) (us:List (List Value))
   (hc:xs.length<=cap) (hm:cap<=maxLen) (hl:us.length=xs.length)
   (hx:∀x∈xs,x.length=s) (hu:∀u∈us,u.length=s)
   (hr:Wl Z w A us.flatten)
   (h:∀(i j:Nat) x u a b,xs[i]? =some x->us[i]? =some u->x[j]? =some a->u[j]? =some b->bR Z w a b):
   bR Z w (.sl xs) (.slice A xs.length cap)
 |x (R:(Nat->Prop)->World->Value->Prop) (v:Value) (h1:v.oneCell'=true)
   (h:∀(Z':Nat->Prop) (w':World),(∀b,Z b->Z' b)->(∀b,Z b->w'.heap[b]? =w.heap[b]?)->R Z' w' v):bR Z w (.x R) v
theorem bR.one{Z:Nat->Prop}{w:World}{d:AD}{v:Value}(h:bR Z w d v):v.oneCell'=true:=by
 cases h with
 |pv _ h1=>exact h1
 |sl=>rfl
 |x _ _ h1 _=>exact h1
theorem bR.mono{Z Z':Nat->Prop}{w w':World}(hz:∀b,Z b->Z' b)(hb:∀b,Z b->w'.heap[b]? =w.heap[b]?){d:AD}{v:Value}(h:bR Z w d v):bR Z' w' d v:=by
 induction h with
 |pv v h1=>exact .pv v h1
 |sl xs A cap s us hc hm hl hx hu hr h ih=>
  refine .sl xs A cap s us hc hm hl hx hu ?_ ih;rcases hr with h0|⟨b,off,hA,hZ,hcell⟩
  ·exact .inl h0
  ·exact .inr ⟨b,off,hA,hz b hZ,λi u hu=>(World.cell?_of_block (a:=⟨b,off+i,none⟩) (hb b hZ)).trans (hcell i u hu)⟩
 |x R v h1 h=>exact .x R v h1 λZ2 w2 hz2 hb2=>h Z2 w2 (λb hZ=>hz2 b (hz b hZ)) λb hZ=>(hb2 b (hz b hZ)).trans (hb b hZ)
def bQ:Value->Option Nat
 | .pointer (some a)=>some a.block
 | .slice (some a) _ _=>some a.block
 | .map (some b)=>some b
 |_=>none
def Ec(Z:Nat->Prop)(w:World)(cs:List AD)(v:Value):Prop:=
 ∃(b off:Nat) (us:List Value),v= .pointer (some ⟨b,off,none⟩)/\Z b/\us.length=cs.length/\(∀(i:Nat) u,us[i]? =some u->w.cell? ⟨b,off+i,none⟩=some u)/\∀(i:Nat) a u,cs[i]? =some a->us[i]? =some u->bR Z w a u
def dW(Z:Nat->Prop)(w:World)(ρ:Nat->Value):AC->Value->Prop
 | .dead,_=>True
 | .und,v=>v=undef
 | .d x,v=>bR Z w x v
 | .nil,v=>v= .slice none 0 0
 | .own id,v=>v=ρ id/\v.oneCell'=true
 | .ref id k s off,v=>∃b,bQ (ρ id)=some b/\v= .pointer (some ⟨b,k*s+off,none⟩)
 | .ptr cs,v=>Ec Z w cs v
inductive bX (Z:Nat->Prop) (w:World) (ρ:Nat->Value):AV->Value->Prop
 |one (c:AC) (v:Value) (h:dW Z w ρ c v):bX Z w ρ (.one c) v
 |agg (cs:List AC) (us:List Value) (hl:us.length=cs.length) (h:∀(i:Nat) c u,cs[i]? =some c->us[i]? =some u->dW Z w ρ c u):bX Z w ρ (.agg cs) (.agg us.toArray)
 |tup (vs:List AV) (us:List Value) (hl:us.length=vs.length) (h:∀(i:Nat) x u,vs[i]? =some x->us[i]? =some u->bX Z w ρ x u):bX Z w ρ (.tup vs) (.tuple us.toArray)
def cQ(Z:Nat->Prop)(w:World)(ρ:Nat->Value)(id:Nat):AO->Prop
 | .cells t cs=>∃(b:Nat) (us:List Value),ρ id= .pointer (some ⟨b,0,none⟩)/\w.heap[b]? =some (.cells us.toArray t (0,0))/\us.length=cs.length/\∀(i:Nat) c u,cs[i]? =some c->us[i]? =some u->dW Z w ρ c u
 | .row e s xs=>∃us:List (List Value),0<s/\us.length=xs.length/\(∀x∈xs,x.length=s)/\(∀u∈us,u.length=s)/\w.ownsRow 0 e s (ρ id) xs.length us.flatten/\
   ∀(i j:Nat) x u a b,xs[i]? =some x->us[i]? =some u->x[j]? =some a->u[j]? =some b->bR Z w a b
 | .frame vs us=>ρ id=undef/\us.length=vs.length/\∀(i:Nat) x u,vs[i]? =some x->us[i]? =some u->bX Z w ρ x u
 | .any Q=>∃b,bQ (ρ id)=some b/\b<w.heap.size/\∀w':World,w'.heap[b]? =w.heap[b]?->Q w' (ρ id)
 | .many _ _=>False
def jJ(Z:Nat->Prop)(w:World)(ρ:Nat->Value)(id:Nat)(o:AO):Prop:=
 match o with
 | .many _ _=>ρ id=undef
 |o=>cQ Z w ρ id o
section
variable {Z Z':Nat->Prop} {w w':World} {ρ:Nat->Value}
theorem Ec.mono(hz:∀b,Z b->Z' b)(hb:∀b,Z b->w'.heap[b]? =w.heap[b]?){cs:List AD}{v:Value}(h:Ec Z w cs v):Ec Z' w' cs v:=by
 obtain⟨b,off,us,hv,hZ,hl,hc,hd⟩:=h;exact⟨b,off,us,hv,hz b hZ,hl,λi u hu=>(World.cell?_of_block (a:=⟨b,off+i,none⟩) (hb b hZ)).trans (hc i u hu),λi a u ha hu=>(hd i a u ha hu).mono hz hb⟩
theorem dW.mono(hz:∀b,Z b->Z' b)(hb:∀b,Z b->w'.heap[b]? =w.heap[b]?){c:AC}{v:Value}(h:dW Z w ρ c v):dW Z' w' ρ c v:=by
 cases c with
 |d x=>exact bR.mono hz hb h
 |ptr cs=>exact Ec.mono hz hb h
 |_=>exact h
theorem bX.mono(hz:∀b,Z b->Z' b)(hb:∀b,Z b->w'.heap[b]? =w.heap[b]?){x:AV}{v:Value}(h:bX Z w ρ x v):bX Z' w' ρ x v:=by
 induction h with
 |one c v h=>exact .one c v (h.mono hz hb)
 |agg cs us hl h=>exact .agg cs us hl λi c u hc hu=>(h i c u hc hu).mono hz hb
 |tup vs us hl h ih=>exact .tup vs us hl ih
theorem cQ.mono(hz:∀b,Z b->Z' b)(hb:∀b,Z b->w'.heap[b]? =w.heap[b]?){id:Nat}(ho:∀b,bQ (ρ id)=some b->w'.heap[b]? =w.heap[b]?){o:AO}(h:cQ Z w ρ id o):cQ Z' w' ρ id o:=by
 cases o with
 |cells t cs=>
  obtain⟨b,us,hp,hg,hl,hc⟩:=h;refine⟨b,us,hp,(ho b (by rw[hp];rfl)).trans hg,hl,λi c u h1 h2=>(hc i c u h1 h2).mono hz hb⟩
 |row e s xs=>
  obtain⟨us,hs,hl,hx,hu,hown,hd⟩:=h;refine⟨us,hs,hl,hx,hu,⟨hown.1,?_⟩,λi j x u a b h1 h2 h3 h4=>(hd i j x u a b h1 h2 h3 h4).mono hz hb⟩;rcases hown.2 with h0|⟨g,cap,cur,hv,hbg,hg,r⟩
  ·exact .inl h0
  ·exact .inr ⟨g,cap,cur,hv,hbg,(ho g (by rw[hv];rfl)).trans hg,r⟩
 |frame vs us=>
  obtain⟨hr,hl,h⟩:=h;exact⟨hr,hl,λi x u hx hu=>(h i x u hx hu).mono hz hb⟩
 |any Q=>
  obtain⟨b,hbk,hlt,hq⟩:=h;refine⟨b,hbk,?_,λw'' hw=>hq w'' (hw.trans (ho b hbk))⟩;have e:=ho b hbk;rw[Array.getElem?_eq_getElem hlt]at e;exact(Array.getElem?_eq_some_iff.1 e).1
 |many P Q=>exact h.elim
theorem cQ.up{id:Nat}{o:AO}(h:cQ Z w ρ id o):jJ Z w ρ id o:=by
 cases o with
 |many P Q=>exact h.elim
 |_=>exact h
theorem jJ.mono(hz:∀b,Z b->Z' b)(hb:∀b,Z b->w'.heap[b]? =w.heap[b]?){id:Nat}{o:AO}(ho:∀b,bQ (ρ id)=some b->w'.heap[b]? =w.heap[b]?)(h:jJ Z w ρ id o):jJ Z' w' ρ id o:=by
 cases o with
 |many P Q=>exact h
 |cells t cs=>exact cQ.mono hz hb ho (show cQ Z w ρ id (.cells t cs)from h)
 |row e s xs=>exact cQ.mono hz hb ho (show cQ Z w ρ id (.row e s xs)from h)
 |frame vs us=>exact cQ.mono hz hb ho (show cQ Z w ρ id (.frame vs us)from h)
 |any Q=>exact cQ.mono hz hb ho (show cQ Z w ρ id (.any Q)from h)
end
def jt(id:Nat):AC->AC
 | .own i=>if i=id then .dead else .own i
 | .ref i k s off=>if i=id then .dead else .ref i k s off
 |c=>c
def ku(id:Nat):AV->AV
 | .one c=> .one (jt id c)
 | .agg cs=> .agg (cs.map (jt id))
 | .tup _=> .one .dead
theorem mG{Z:Nat->Prop}{w:World}{ρ:Nat->Value}{id:Nat}{c:AC}{v y:Value}(h:dW Z w ρ c v):dW Z w (λi=>if i=id then y else ρ i) (jt id c) v:=by
 cases c with
 |own i=>
  by_cases hn:i=id
  ·simp only[jt,if_pos hn];trivial
  ·simp only[jt,if_neg hn];simpa only[dW,if_neg hn]using h
 |ref i k s off=>
  by_cases hn:i=id
  ·simp only[jt,if_pos hn];trivial
  ·simp only[jt,if_neg hn];simpa only[dW,if_neg hn]using h
 |_=>exact h
theorem lg{Z:Nat->Prop}{w:World}{ρ:Nat->Value}{id:Nat}{x:AV}{v y:Value}(h:bX Z w ρ x v):bX Z w (λi=>if i=id then y else ρ i) (ku id x) v:=by
 cases h with
 |one c v h=>exact .one _ _ (mG h)
 |agg cs us hl h=>
  refine .agg _ us (by simp[hl]) λi c u hc hu=>?_;rw[getElem?_map]at hc;obtain⟨c0,h0,rfl⟩:=map_eq_some_iff.1 hc;exact mG (h i c0 u h0 hu)
 |tup vs us hl h=>exact .one _ _ trivial
def na(id:Nat):AO->AO
 | .cells t cs=> .cells t (cs.map (jt id))
 | .row e s xs=> .row e s xs
 | .frame vs us=> .frame (vs.map (ku id)) us
 | .any Q=> .any Q
 | .many P Q=> .many P Q
theorem jb{Z:Nat->Prop}{w:World}{ρ:Nat->Value}{id j:Nat}(hj:j≠id){o:AO}{y:Value}(h:cQ Z w ρ j o):cQ Z w (λi=>if i=id then y else ρ i) j (na id o):=by
 cases o with
 |cells t cs=>
  obtain⟨b,us,hp,hg,hl,hc⟩:=h;refine⟨b,us,by simp only[if_neg hj];exact hp,hg,by simp[hl],λi c u h1 h2=>?_⟩;rw[getElem?_map]at h1;obtain⟨c0,h0,rfl⟩:=map_eq_some_iff.1 h1;exact mG (hc i c0 u h0 h2)
 |row e s xs=>
  obtain⟨us,hs,hl,hx,hu,hown,hd⟩:=h;exact⟨us,hs,hl,hx,hu,by simp only[if_neg hj];exact hown,hd⟩
 |frame vs us=>
  obtain⟨hr,hl,h⟩:=h;refine⟨by simp only[if_neg hj];exact hr,by simp[hl],λi x u hx hu=>?_⟩;rw[getElem?_map]at hx;obtain⟨x0,h0,rfl⟩:=map_eq_some_iff.1 hx;exact lg (h i x0 u h0 hu)
 |any Q=>
  obtain⟨b,hbk,hlt,hq⟩:=h;exact⟨b,by simp only[if_neg hj];exact hbk,hlt,λw' hw=>by simp only[if_neg hj];exact hq w' hw⟩
 |many P Q=>exact h.elim
theorem Cg{Z:Nat->Prop}{w:World}{ρ:Nat->Value}{id j:Nat}(hj:j≠id){o:AO}{y:Value}(h:jJ Z w ρ j o):jJ Z w (λi=>if i=id then y else ρ i) j (na id o):=by
 cases o with
 |many P Q=>show(if j=id then y else ρ j)=undef;rw[if_neg hj];exact h
 |cells t cs=>exact jb hj (o:= .cells t cs) h
 |row e s xs=>exact jb hj (o:= .row e s xs) h
 |frame vs us=>exact jb hj (o:= .frame vs us) h
 |any Q=>exact jb (Z:=Z) hj (o:= .any Q) h
theorem vX{id:Nat}{o:AO}{P:Nat->Prop}{Q:World->Prop}(h:na id o= .many P Q):o= .many P Q:=by
 cases o<;>first|exact h|cases h
def fj:List (Nat×AO)->Nat->AO->List (Nat×AO)
 |[],i,o=>[(i,o)]
 |(k,x)::r,i,o=>if k=i then(i,o)::r else(k,x)::fj r i o
def pi(id:Nat)(ob:List (Nat×AO)):List (Nat×AO):=ob.map λp=>(p.1,na id p.2)
theorem cz(ob:List (Nat×AO))(i j:Nat)(o:AO):bA (fj ob i o) j=if i=j then some o else bA ob j:=by
 induction ob with
 |nil=>simp[fj,bA]
 |cons p r ih=>
  obtain⟨k,x⟩:=p;simp only[fj];split
  ·rename_i h;subst h;simp only[bA];split<;>simp_all
  ·rename_i h;simp only[bA,ih];split
   ·rename_i h2;subst h2;rw[if_neg (λe=>h e.symm)]
   ·rfl
theorem ni(ob:List (Nat×AO))(id j:Nat):bA (pi id ob) j=(bA ob j).map (na id):=by
 induction ob with
 |nil=>rfl
 |cons p r ih=>
  obtain⟨k,x⟩:=p;simp only[pi,List.map_cons,bA]at*
  split
  ·rfl
  ·exact ih
theorem cQ.blk_lt{Z:Nat->Prop}{w:World}{ρ:Nat->Value}{id:Nat}{o:AO}(h:cQ Z w ρ id o):∀b,bQ (ρ id)=some b->b<w.heap.size:=by
 intro b hb;cases o with
 |cells t cs=>
  obtain⟨b',us,hp,hg,_⟩:=h;rw[hp]at hb;injection hb with hb
  subst hb;exact(Array.getElem?_eq_some_iff.1 hg).1
 |row e s xs=>
  obtain⟨us,_,_,_,_,hown,_⟩:=h;refine(hown.lt b ?_).2;revert hb;unfold bQ Value.ownBlock;cases hv:ρ id with
  |pointer a=>
   exfalso;rcases hown.2 with⟨h0,_⟩|⟨g,cap,cur,h0,_⟩<;>rw[hv]at h0<;>cases h0
  |slice a n c=>cases a<;>simp
  |map a=>
   exfalso;rcases hown.2 with⟨h0,_⟩|⟨g,cap,cur,h0,_⟩<;>rw[hv]at h0<;>cases h0
  |_=>simp
 |frame vs us=>rw[h.1]at hb;cases hb
 |any Q=>
  obtain⟨b',hb',hlt,_⟩:=h;rw[hb']at hb;injection hb with hb
  subst hb;exact hlt
 |many P Q=>exact h.elim
theorem jJ.blk_lt{Z:Nat->Prop}{w:World}{ρ:Nat->Value}{id:Nat}{o:AO}(h:jJ Z w ρ id o):∀b,bQ (ρ id)=some b->b<w.heap.size:=by
 cases o with
 |many P Q=>intro b hb;rw[show ρ id=undef from h]at hb;cases hb
 |cells t cs=>exact cQ.blk_lt (o:= .cells t cs) h
 |row e s xs=>exact cQ.blk_lt (o:= .row e s xs) h
 |frame vs us=>exact cQ.blk_lt (o:= .frame vs us) h
 |any Q=>exact cQ.blk_lt (Z:=Z) (o:= .any Q) h
end
section
open Go.RowKit
structure ASt where
 tm:List AV
 ob:List (Nat×AO)
def GZ(T:World->Prop)(Z:Nat->Prop)(w:World):Prop:=∃w1,T w1/\Below w1.heap.size w1 w/\∀b,b<w1.heap.size->Z b
structure bV where
 w0:World
 O:Nat->Prop
 Z0:Nat->Prop
structure jI (S:bV) (Z:Nat->Prop) (w:World) (ρ:Nat->Value) (ob:List (Nat×AO)):Prop where
 ok:∀id P Q,bA ob id=some (.many P Q)->(∀b,P b->b<w.heap.size/\¬Z b/\(S.w0.heap.size<=b\/S.O b)/\∀j o,bA ob j=some o->bQ (ρ j)≠some b)/\∀w':World,(∀b,P b->w'.heap[b]? =w.heap[b]?)->Q w'
 sep:∀i j P Q P' Q',bA ob i=some (.many P Q)->bA ob j=some (.many P' Q')->i≠j->∀b,P b->P' b->False
theorem ZU{S:bV}{Z:Nat->Prop}{w:World}{ρ:Nat->Value}{ob:List (Nat×AO)}(h:∀id P Q,bA ob id≠some (.many P Q)):jI S Z w ρ ob:=
 ⟨λid P Q ho=>(h id P Q ho).elim,λi j P Q P' Q' ho=>(h i P Q ho).elim⟩
theorem jI.nil{S:bV}{Z:Nat->Prop}{w:World}{ρ:Nat->Value}:jI S Z w ρ []:=ZU λ_ _ _ h=>by cases h
section
variable {S:bV} {Z Z':Nat->Prop} {w w':World} {ρ:Nat->Value} {ob ob':List (Nat×AO)}
theorem jI.sub(h:jI S Z w ρ ob)(hs:∀id o,bA ob' id=some o->bA ob id=some o):jI S Z w ρ ob':=
 ⟨λid P Q ho=>⟨λb hb=>by obtain⟨h1,h2,h3,h4⟩:=(h.ok id P Q (hs _ _ ho)).1 b hb;exact⟨h1,h2,h3,λj o hj=>h4 j o (hs _ _ hj)⟩,(h.ok id P Q (hs _ _ ho)).2⟩,
  λi j P Q P' Q' hi hj=>h.sep i j P Q P' Q' (hs _ _ hi) (hs _ _ hj)⟩
theorem jI.step(h:jI S Z w ρ ob){row:Option Nat}(hg:w.grownBy w' row)(hr:∀g,row=some g->∃id o,bA ob id=some o/\bQ (ρ id)=some g)(hz:∀b,Z' b->Z b\/w.heap.size<=b):jI S Z' w' ρ ob:=by
 refine⟨λid P Q ho=>?_,h.sep⟩;obtain⟨h1,h2⟩:=h.ok id P Q ho;have same:∀b,P b->w'.heap[b]? =w.heap[b]? :=λb hb=>hg.block b (h1 b hb).1 λe=>by
  obtain⟨id2,o2,ho2,hb2⟩:=hr b e.symm;exact(h1 b hb).2.2.2 id2 o2 ho2 hb2
 refine⟨λb hb=>⟨lt_of_lt_of_le (h1 b hb).1 hg.size,λhzb=>?_,(h1 b hb).2.2.1,(h1 b hb).2.2.2⟩,λw2 hw=>h2 w2 λb hb=>(hw b hb).trans (same b hb)⟩;rcases hz b hzb with hh|hh
 ·exact(h1 b hb).2.1 hh
 ·have:=(h1 b hb).1;omega
end
structure WS (T:World->Prop) (S:bV) (Z:Nat->Prop) (w:World) (ρ:Nat->Value) (ob:List (Nat×AO)):Prop where
 os:w.os=S.w0.os
 tape:w.tape=S.w0.tape
 output:w.output=S.w0.output
 size:S.w0.heap.size<=w.heap.size
 old:∀b,b<S.w0.heap.size->¬S.O b->w.heap[b]? =S.w0.heap[b]?
 zlt:∀b,Z b->b<w.heap.size
 mine:∀id o b,bA ob id=some o->bQ (ρ id)=some b->¬Z b/\(S.w0.heap.size<=b\/S.O b)
 sep:∀i j oi oj b,bA ob i=some oi->bA ob j=some oj->i≠j->bQ (ρ i)=some b->bQ (ρ j)=some b->False
 obj:∀id o,bA ob id=some o->jJ Z w ρ id o
 many:jI S Z w ρ ob
 g:GZ T Z w
 z0:∀b,S.Z0 b->Z b
 znew:∀b,Z b->S.Z0 b\/S.w0.heap.size<=b\/S.O b
theorem GZ.step{T:World->Prop}{Z Z':Nat->Prop}{w w':World}{row:Option Nat}(h:GZ T Z w)(hg:w.grownBy w' row)(hr:∀g,row=some g->¬Z g)(hz:∀b,Z b->Z' b):GZ T Z' w':=by
 obtain⟨w1,h1,hb,hz1⟩:=h;refine⟨w1,h1,⟨hg.os.trans hb.os,hg.tape.trans hb.tape,hg.output.trans hb.output,le_trans hb.size hg.size,λk hk=>?_⟩,λb hb=>hz b (hz1 b hb)⟩;exact(hg.block k (lt_of_lt_of_le hk hb.size) (λe=>hr k e.symm (hz1 k hk))).trans (hb.block k hk)
section
variable {T:World->Prop} {S:bV} {Z Z':Nat->Prop} {w w':World} {ρ:Nat->Value} {ob:List (Nat×AO)}
theorem WS.lt(h:WS T S Z w ρ ob){id:Nat}{o:AO}{b:Nat}(ho:bA ob id=some o)(hb:bQ (ρ id)=some b):b<w.heap.size:=(h.obj id o ho).blk_lt b hb
theorem WS.zsame(h:WS T S Z w ρ ob){row:Option Nat}(hg:w.grownBy w' row)(hr:∀g,row=some g->¬Z g):∀b,Z b->w'.heap[b]? =w.heap[b]? :=
 λb hb=>hg.block b (h.zlt b hb) (λe=>hr b e.symm hb)
theorem WS.grow(h:WS T S Z w ρ ob)(hg:w.grownBy w' none)(hz:∀b,Z b->Z' b)(hz2:∀b,Z' b->Z b\/(w.heap.size<=b/\b<w'.heap.size)):WS T S Z' w' ρ ob:=by
 have hzs:=h.zsame hg (by simp);refine⟨hg.os.trans h.os,hg.tape.trans h.tape,hg.output.trans h.output,le_trans h.size hg.size,λb hb ho=>(hg.block b (lt_of_lt_of_le hb h.size) (by simp)).trans (h.old b hb ho),λb hb=>?_,λid o b ho hb=>?_,h.sep,λid o ho=>?_,h.many.step hg (by simp) (λb hb=>(hz2 b hb).imp (λh=>h) And.left),h.g.step hg (by simp) hz,λb hb=>hz b (h.z0 b hb),λb hb=>?_⟩
 ·rcases hz2 b hb with hb|hb
  ·exact lt_of_lt_of_le (h.zlt b hb) hg.size
  ·exact hb.2
 ·obtain⟨h1,h2⟩:=h.mine id o b ho hb;refine⟨λhzb=>?_,h2⟩;rcases hz2 b hzb with hb'|hb'
  ·exact h1 hb'
  ·have:=h.lt ho hb;omega
 ·exact(h.obj id o ho).mono hz hzs λb hb=>hg.block b (h.lt ho hb) (by simp)
 ·rcases hz2 b hb with hb|hb
  ·exact h.znew b hb
  ·have:=h.size;exact .inr (.inl (by omega))
theorem WS.renew(h:WS T S Z w ρ ob)(id:Nat)(y:Value)(o':AO){row:Option Nat}(hg:w.grownBy w' row)
  (hrow:∀g,row=some g->(∃o,bA ob id=some o)/\bQ (ρ id)=some g)
  (hy:∀b,bQ y=some b->((∃o,bA ob id=some o)/\bQ (ρ id)=some b)\/w.heap.size<=b)
  (hrel:cQ Z w' (λi=>if i=id then y else ρ i) id o'):WS T S Z w' (λi=>if i=id then y else ρ i) (fj (pi id ob) id o'):=by
 have hr:∀g,row=some g->¬Z g:=by
  intro g e;obtain⟨⟨o,ho⟩,hb⟩:=hrow g e;exact(h.mine id o g ho hb).1
 have hzs:=h.zsame hg hr;have old:∀j o,j≠id->bA (fj (pi id ob) id o') j=some o->∃o0,bA ob j=some o0/\o=na id o0:=by
  intro j o hj ho;rw[cz,if_neg (λe=>hj e.symm),ni]at ho;obtain⟨o0,h0,h1⟩:=map_eq_some_iff.1 ho;exact⟨o0,h0,h1.symm⟩
 have far:∀j o0 b,j≠id->bA ob j=some o0->bQ (ρ j)=some b->w'.heap[b]? =w.heap[b]? :=by
  intro j o0 b hj h0 hb;refine hg.block b (h.lt h0 hb) (λe=>?_);obtain⟨⟨o,ho⟩,hb2⟩:=hrow b e.symm;exact h.sep j id o0 o b h0 ho hj hb hb2
 refine⟨hg.os.trans h.os,hg.tape.trans h.tape,hg.output.trans h.output,le_trans h.size hg.size,λb hb ho=>?_,λb hb=>lt_of_lt_of_le (h.zlt b hb) hg.size,λj o b ho hb=>?_,λi j oi oj b hi hj hij hbi hbj=>?_,λj o ho=>?_,?_,h.g.step hg hr (λ_ h=>h),h.z0,h.znew⟩
 ·refine(hg.block b (lt_of_lt_of_le hb h.size) (λe=>?_)).trans (h.old b hb ho);obtain⟨⟨o,ho'⟩,hb2⟩:=hrow b e.symm;rcases(h.mine id o b ho' hb2).2 with h3|h3
  ·omega
  ·exact ho h3
 ·by_cases hj:j=id
  ·subst hj;simp only[if_true]at hb;rcases hy b hb with⟨⟨o0,h0⟩,hb0⟩|hb0
   ·exact h.mine j o0 b h0 hb0
   ·refine⟨λhz=>?_,.inl ?_⟩
    ·have:=h.zlt b hz;omega
    ·have:=h.size;omega
  ·obtain⟨o0,h0,_⟩:=old j o hj ho;simp only[if_neg hj]at hb;exact h.mine j o0 b h0 hb
 ·by_cases hi0:i=id
  ·subst hi0;have hj0:j≠i:=λe=>hij e.symm;obtain⟨o0,h0,_⟩:=old j oj hj0 hj;simp only[if_neg hj0,if_true]at hbi hbj;rcases hy b hbi with⟨⟨o1,h1⟩,hb1⟩|hb1
   ·exact h.sep i j o1 o0 b h1 h0 hij hb1 hbj
   ·have:=h.lt h0 hbj;omega
  ·obtain⟨o0,h0,_⟩:=old i oi hi0 hi;simp only[if_neg hi0]at hbi;by_cases hj0:j=id
   ·subst hj0;simp only[if_true]at hbj;rcases hy b hbj with⟨⟨o1,h1⟩,hb1⟩|hb1
    ·exact h.sep i j o0 o1 b h0 h1 hij hbi hb1
    ·have:=h.lt h0 hbi;omega
   ·obtain⟨o1,h1,_⟩:=old j oj hj0 hj;simp only[if_neg hj0]at hbj;exact h.sep i j o0 o1 b h0 h1 hij hbi hbj
 ·by_cases hj:j=id
  ·subst hj;rw[cz,if_pos rfl]at ho;injection ho with ho
   subst ho;exact hrel.up
  ·obtain⟨o0,h0,rfl⟩:=old j o hj ho;refine Cg hj ((h.obj j o0 h0).mono (λ_ h=>h) hzs λb hb=>far j o0 b hj h0 hb)
 ·have hst:=h.many.step (Z':=Z) hg (λg e=>by obtain⟨⟨o,ho⟩,hb⟩:=hrow g e;exact⟨id,o,ho,hb⟩) (λb hb=> .inl hb);have omany:∀j P Q,bA (fj (pi id ob) id o') j=some (.many P Q)->j≠id/\bA ob j=some (.many P Q):=by
   intro j P Q ho;by_cases hj:j=id
   ·subst hj;rw[cz,if_pos rfl]at ho;injection ho with ho
    subst ho;exact hrel.elim
   ·obtain⟨o0,h0,e⟩:=old j _ hj ho;exact⟨hj,by rw[h0,vX e.symm]⟩
  refine⟨λj P Q ho=>?_,λi j P Q P' Q' hi hj=>h.many.sep i j P Q P' Q' (omany i P Q hi).2 (omany j P' Q' hj).2⟩;obtain⟨h1,h2⟩:=hst.ok j P Q (omany j P Q ho).2;refine⟨λb hb=>⟨(h1 b hb).1,(h1 b hb).2.1,(h1 b hb).2.2.1,λi o hi hbi=>?_⟩,h2⟩;by_cases hid:i=id
  ·subst hid;simp only[if_true]at hbi;rcases hy b hbi with⟨⟨o1,h3⟩,hb1⟩|hb1
   ·exact(h1 b hb).2.2.2 _ o1 h3 hb1
   ·have:=((h.many.ok j P Q (omany j P Q ho).2).1 b hb).1;omega
  ·obtain⟨o0,h0,_⟩:=old i o hid hi;simp only[if_neg hid]at hbi;exact(h1 b hb).2.2.2 i o0 h0 hbi
theorem WS.upd(h:WS T S Z w ρ ob)(id:Nat)(o o':AO){g:Nat}(ho:bA ob id=some o)(hb:bQ (ρ id)=some g)(hg:w.grownBy w' (some g))
  (hrel:cQ Z w' ρ id o'):WS T S Z w' ρ (fj ob id o'):=by
 have hr:∀k,some g=some k->¬Z k:=by
  rintro k ⟨rfl⟩;exact(h.mine id o g ho hb).1
 have hzs:=h.zsame hg hr;have old:∀j o1,bA (fj ob id o') j=some o1->∃o0,bA ob j=some o0/\(j≠id->o1=o0):=by
  intro j o1 h1;rw[cz]at h1;split at h1
  ·rename_i e;subst e;exact⟨o,ho,λh=>absurd rfl h⟩
  ·exact⟨o1,h1,λ_=>rfl⟩
 refine⟨hg.os.trans h.os,hg.tape.trans h.tape,hg.output.trans h.output,le_trans h.size hg.size,λb hb' ho'=>?_,λb hb=>lt_of_lt_of_le (h.zlt b hb) hg.size,λj o1 b h1 hb1=>?_,λi j oi oj b hi hj hij hbi hbj=>?_,λj o1 h1=>?_,?_,h.g.step hg hr (λ_ h=>h),h.z0,h.znew⟩
 ·refine(hg.block b (lt_of_lt_of_le hb' h.size) (λe=>?_)).trans (h.old b hb' ho');injection e with e
  subst e;rcases(h.mine id o b ho hb).2 with h3|h3
  ·omega
  ·exact ho' h3
 ·obtain⟨o0,h0,_⟩:=old j o1 h1;exact h.mine j o0 b h0 hb1
 ·obtain⟨o0,h0,_⟩:=old i oi hi;obtain⟨o2,h2,_⟩:=old j oj hj;exact h.sep i j o0 o2 b h0 h2 hij hbi hbj
 ·by_cases hj:j=id
  ·subst hj;rw[cz,if_pos rfl]at h1;injection h1 with h1
   subst h1;exact hrel.up
  ·obtain⟨o0,h0,e⟩:=old j o1 h1;rw[e hj];refine(h.obj j o0 h0).mono (λ_ h=>h) hzs λb hb1=>hg.block b (h.lt h0 hb1) (λe=>?_);injection e with e
   subst e;exact h.sep j id o0 o b h0 ho hj hb1 hb
 ·have hst:=h.many.step (Z':=Z) hg (λk e=>by injection e with e;subst e;exact⟨id,o,ho,hb⟩) (λb hb=> .inl hb);have omany:∀j P Q,bA (fj ob id o') j=some (.many P Q)->bA ob j=some (.many P Q):=by
   intro j P Q h1;obtain⟨o0,h0,e⟩:=old j _ h1;by_cases hj:j=id
   ·subst hj;rw[cz,if_pos rfl]at h1;injection h1 with h1
    subst h1;exact hrel.elim
   ·rw[h0,<-e hj]
  refine⟨λj P Q h1=>?_,λi j P Q P' Q' hi hj=>h.many.sep i j P Q P' Q' (omany i P Q hi) (omany j P' Q' hj)⟩;obtain⟨h2,h3⟩:=hst.ok j P Q (omany j P Q h1);refine⟨λb hb=>⟨(h2 b hb).1,(h2 b hb).2.1,(h2 b hb).2.2.1,λi oi hi hbi=>?_⟩,h3⟩;obtain⟨o0,h0,_⟩:=old i oi hi;exact(h2 b hb).2.2.2 i o0 h0 hbi
end
structure Sim (T:World->Prop) (S:bV) (Z:Nat->Prop) (ρ:Nat->Value) (st:ASt) (a:Act) (w:World):Prop where
 ws:WS T S Z w ρ st.ob
 len:a.tmps.size=st.tm.length
 tm:∀(i:Nat) x v,st.tm[i]? =some x->a.tmps[i]? =some v->bX Z w ρ x v
 df:a.defers=[]
def hG(T:World->Prop)(S:bV)(st:ASt)(a:Act)(w:World):Prop:=∃Z ρ,Sim T S Z ρ st a w
def JS(tm:List AV)(d:Option Tmp)(x:AV):List AV:=match d with|none=>tm|some i=>tm.set i x
theorem Sim.put{T:World->Prop}{S:bV}{Z:Nat->Prop}{ρ:Nat->Value}{st:ASt}{a:Act}{w:World}(h:Sim T S Z ρ st a w)(d:Option Tmp){x:AV}{v:Value}(hx:bX Z w ρ x v):Sim T S Z ρ ⟨JS st.tm d x,st.ob⟩ (a.put d v) w:=by
 cases d with
 |none=>exact⟨h.ws,h.len,h.tm,h.df⟩
 |some i=>
  refine⟨h.ws,by simp[JS,Act.put,h.len],λj y u hy hu=>?_,h.df⟩;simp only[JS,Act.put]at hy hu;rw[List.getElem?_set]at hy;rw[Array.getElem?_setIfInBounds]at hu;by_cases hij:i=j
  ·subst hij;by_cases hlt:i<st.tm.length
   ·have hlt2:i<a.tmps.size:=by rw[h.len];exact hlt
    simp only[if_true,if_pos hlt]at hy;simp only[if_true,if_pos hlt2]at hu;injection hy with hy
    injection hu with hu
    subst hy hu;exact hx
   ·simp[hlt]at hy
  ·rw[if_neg hij]at hy hu;exact h.tm j y u hy hu
theorem Sim.grow{T:World->Prop}{S:bV}{Z Z':Nat->Prop}{ρ:Nat->Value}{st:ASt}{a:Act}{w w':World}(h:Sim T S Z ρ st a w)(hg:w.grownBy w' none)(hz:∀b,Z b->Z' b)(hz2:∀b,Z' b->Z b\/(w.heap.size<=b/\b<w'.heap.size)):Sim T S Z' ρ st a w':=
 ⟨h.ws.grow hg hz hz2,h.len,λi x v hx hv=>(h.tm i x v hx hv).mono hz (h.ws.zsame hg (by simp)),h.df⟩
def fv(id:Nat)(st:ASt):ASt:=⟨st.tm.map (ku id),pi id st.ob⟩
theorem Sim.renew{T:World->Prop}{S:bV}{Z:Nat->Prop}{ρ:Nat->Value}{st:ASt}{a:Act}{w w':World}(h:Sim T S Z ρ st a w)(id:Nat)(y:Value)(o':AO){row:Option Nat}(hg:w.grownBy w' row)
  (hrow:∀g,row=some g->(∃o,bA st.ob id=some o)/\bQ (ρ id)=some g)
  (hy:∀b,bQ y=some b->((∃o,bA st.ob id=some o)/\bQ (ρ id)=some b)\/w.heap.size<=b)
  (hrel:cQ Z w' (λi=>if i=id then y else ρ i) id o'):Sim T S Z (λi=>if i=id then y else ρ i) ⟨(fv id st).tm,fj (fv id st).ob id o'⟩ a w':=by
 refine⟨h.ws.renew id y o' hg hrow hy hrel,by simp[fv,h.len],λi x v hx hv=>?_,h.df⟩;simp only[fv,getElem?_map]at hx;obtain⟨x0,h0,rfl⟩:=map_eq_some_iff.1 hx;refine lg ((h.tm i x0 v h0 hv).mono (λ_ h=>h) (h.ws.zsame hg ?_));intro g e;obtain⟨⟨o,ho⟩,hb⟩:=hrow g e;exact(h.ws.mine id o g ho hb).1
theorem Sim.upd{T:World->Prop}{S:bV}{Z:Nat->Prop}{ρ:Nat->Value}{st:ASt}{a:Act}{w w':World}(h:Sim T S Z ρ st a w)(id:Nat)(o o':AO){g:Nat}(ho:bA st.ob id=some o)(hb:bQ (ρ id)=some g)(hg:w.grownBy w' (some g))
  (hrel:cQ Z w' ρ id o'):Sim T S Z ρ ⟨st.tm,fj st.ob id o'⟩ a w':=by
 refine⟨h.ws.upd id o o' ho hb hg hrel,h.len,λi x v hx hv=>(h.tm i x v hx hv).mono (λ_ h=>h) (h.ws.zsame hg ?_),h.df⟩;rintro k ⟨rfl⟩;exact(h.ws.mine id o g ho hb).1
end
section
open Go.RowKit
inductive TK where
 |st (fs:List (Nat×TypeId))|sl (e:TypeId)|arr (n:Nat) (e:TypeId)|str|bool|int (k:IntKind)|ptr (e:TypeId)|oth
def qg:TypeDesc->TK
 | .struct fs=> .st (fs.toList.map λf=>(f.offset,f.type))
 | .slice e=> .sl e
 | .array n e=> .arr n e
 | .string=> .str
 | .bool=> .bool
 | .int k=> .int k
 | .pointer e=> .ptr e
 |_=> .oth
structure TI where
 size:Nat
 bytes:Nat
 agg:Bool
 kind:TK
 zero:Value
structure aS (P:Program) (t:TypeId) (i:TI):Prop where
 sz:∀w,(sizeOf t).run P w= .ok i.size w
 ag:∀w,(isAgg t).run P w= .ok i.agg w
 kd:(P.underlying t).map qg=some i.kind
 info:(P.info? t).map (λj=>(j.zero,j.size,j.bytes))=some (some i.zero,i.size,i.bytes)
 zs:i.zero.cells.size=i.size
inductive TT where
 |leaf
 |node (k:Nat) (i:TI) (l r:TT)
def TT.get:TT->Nat->Option TI
 | .leaf,_=>none
 | .node k i l r,t=>match Nat.beq t k with
  |true=>some i
  |false=>match Nat.ble t k with
   |true=>l.get t
   |false=>r.get t
def TT.ok(P:Program):TT->Prop
 | .leaf=>True
 | .node k i l r=>aS P k i/\l.ok P/\r.ok P
theorem ZF{P:Program}:∀{T:TT},T.ok P->∀{t:Nat} {i:TI},T.get t=some i->aS P t i
 | .leaf,_,_,_,h=>by cases h
 | .node k i l r,⟨h1,h2,h3⟩,t,j,h=>by
  simp only[TT.get]at h;split at h
  ·rename_i e;injection h with h
   subst h;rw[eq_of_beq_eq_true e];exact h1
  ·split at h
   ·exact ZF h2 h
   ·exact ZF h3 h
structure bB where
 P:Program
 T:TT
 W:World->Prop
structure bB.Ok (E:bB):Prop where
 ty:E.T.ok E.P
 mixed:E.P.follows .mixedOrders=true
 below:∀w w',E.W w->Below w.heap.size w w'->E.W w'
def aTm:List AV->Nat->(AV->Prop)->Prop
 |[],_,_=>False
 |x::_,0,K=>K x
 |_::r,n+1,K=>aTm r n K
theorem iY{K:AV->Prop}:∀{l:List AV} {n:Nat},aTm l n K->∃x,l[n]? =some x/\K x
 |[],_,h=>h.elim
 |x::_,0,h=>⟨x,rfl,h⟩
 |_::r,n+1,h=>by obtain⟨x,h1,h2⟩:=iY (l:=r) (n:=n) h;exact⟨x,by simpa using h1,h2⟩
def nI:List AV->Nat->AV->(List AV->Prop)->Prop
 |[],_,_,_=>False
 |_::r,0,v,K=>K (v::r)
 |x::r,n+1,v,K=>nI r n v λr'=>K (x::r')
theorem jM{v:AV}:∀{l:List AV} {n:Nat} {K:List AV->Prop},nI l n v K->K (l.set n v)
 |[],_,_,h=>h.elim
 |_::_,0,_,h=>h
 |x::r,n+1,K,h=>jM (l:=r) (n:=n) (K:=λr'=>K (x::r')) h
def dR(st:ASt)(d:Option Tmp)(v:AV)(K:ASt->Prop):Prop:=
 match d with
 |none=>K st
 |some i=>match st with
  |⟨tm,ob⟩=>nI tm i v λtm=>K ⟨tm,ob⟩
theorem fW{st:ASt}{d:Option Tmp}{v:AV}{K:ASt->Prop}(h:dR st d v K):K ⟨JS st.tm d v,st.ob⟩:=by
 cases d with
 |none=>exact h
 |some i=>exact jM (K:=λtm=>K ⟨tm,st.ob⟩) h
def ofC:Value->AC
 | .slice none 0 0=> .nil
 | .agg _=> .dead
 | .tuple _=> .dead
 |v=> .d (.pv v)
def Gu(v:Value)(K:AC->Prop):Prop:=
 match v with
 | .slice none 0 0=>K .nil
 | .agg _=>K .dead
 | .tuple _=>K .dead
 |v=>K (.d (.pv v))
theorem AQ{v:Value}{K:AC->Prop}(h:Gu v K):K (ofC v):=by
 unfold Gu at h;unfold ofC;split at h<;>exact h
def NE:List Value->(List AC->Prop)->Prop
 |[],K=>K []
 |v::r,K=>Gu v λc=>NE r λr'=>K (c::r')
theorem AT:∀{l:List Value} {K:List AC->Prop},NE l K->K (l.map ofC)
 |[],_,h=>h
 |v::r,K,h=>AT (l:=r) (K:=λr'=>K (ofC v::r')) (AQ (K:=λc=>NE r λr'=>K (c::r')) h)
theorem z3(Z:Nat->Prop)(w:World)(ρ:Nat->Value)(v:Value):dW Z w ρ (ofC v) v:=by
 unfold ofC;split
 ·rfl
 ·trivial
 ·trivial
 ·refine bR.pv v ?_;unfold Value.oneCell';split<;>simp_all
def aEv(st:ASt)(x:Operand)(K:AV->Prop):Prop:=
 match x with
 | .tmp t=>aTm st.tm t K
 | .const (.agg cs)=>NE cs.toList λl=>K (.agg l)
 | .const v=>Gu v λc=>K (.one c)
 | .func f=>K (.one (.d (.pv (.func (.func f) #[] #[]))))
 | .global _=>False
theorem bn{T:World->Prop}{S:bV}{Z:Nat->Prop}{ρ:Nat->Value}{st:ASt}{a:Act}{w:World}(h:Sim T S Z ρ st a w){x:Operand}{K:AV->Prop}(hk:aEv st x K):∃v,bX Z w ρ v (a.eval x)/\K v:=by
 cases x with
 |tmp t=>
  obtain⟨v,hv,hk⟩:=iY hk;have hlt:t<a.tmps.size:=by rw[h.len];exact(List.getElem?_eq_some_iff.1 hv).1
  refine⟨v,h.tm t v _ hv ?_,hk⟩;simp[Act.eval,hlt]
 |const v=>
  cases v with
  |agg cs=>
   refine⟨_,?_,AT hk⟩;have:(Value.agg cs)= .agg cs.toList.toArray:=by simp
   simp only[Act.eval];rw[this];refine .agg _ _ (by simp) λi c u hc hu=>?_;rw[getElem?_map]at hc;obtain⟨u0,h0,rfl⟩:=map_eq_some_iff.1 hc;rw[hu]at h0;injection h0 with h0
   subst h0;exact z3 ..
  |_=>exact⟨_,.one _ _ (z3 ..),AQ (K:=λc=>K (.one c)) hk⟩
 |func f=>exact⟨_,.one (.d (.pv (.func (.func f) #[] #[]))) _ (show bR Z w (.pv (.func (.func f) #[] #[])) (.func (.func f) #[] #[])from .pv _ rfl),hk⟩
 |global g=>exact hk.elim
def Aw(st:ASt):List Operand->(List AV->Prop)->Prop
 |[],K=>K []
 |x::r,K=>aEv st x λv=>Aw st r λr'=>K (v::r')
theorem mN{T:World->Prop}{S:bV}{Z:Nat->Prop}{ρ:Nat->Value}{st:ASt}{a:Act}{w:World}(h:Sim T S Z ρ st a w):∀{xs:List Operand} {K:List AV->Prop},Aw st xs K->∃vs,vs.length=xs.length/\(∀(i:Nat) x v,xs[i]? =some x->vs[i]? =some v->bX Z w ρ v (a.eval x))/\K vs
 |[],_,hk=>⟨[],rfl,by simp,hk⟩
 |x::r,K,hk=>by
  obtain⟨v,hv,hk⟩:=bn h hk;obtain⟨vs,hl,hr,hk⟩:=mN h (xs:=r) hk;refine⟨v::vs,by simp[hl],λi y u hy hu=>?_,hk⟩;cases i with
  |zero=>simp at hy hu;subst hy hu;exact hv
  |succ i=>exact hr i y u (by simpa using hy) (by simpa using hu)
structure AB (p:Bool) (X Y:Prop):Prop where
 t:p=true->X
 f:p=false->Y
structure AW (k:IntKind) (n:Int) (K:Int->Prop):Prop where
 h:∃c,k.wrap n=c/\K c
structure AIx (xs:List (List AD)) (n:Int) (K:Nat->List AD->Prop):Prop where
 h:∃(k:Nat) (x:List AD),n=(k:Int)/\xs[k]? =some x/\K k x
structure AXi (T:World->Prop) (ob:List (Nat×AO)) (R:(Nat->Prop)->World->Value->Prop) (n:Int) (s:Nat) (K:AV->Prop):Prop where
 h:∃y,K y/\∀(S:bV) (Z:Nat->Prop) (w:World) (ρ:Nat->Value) (v:Value),WS T S Z w ρ ob->bR Z w (.x R) v->∃(b off k len cap:Nat),v= .slice (some ⟨b,off,none⟩) len cap/\n=(k:Int)/\k<len/\bX Z w ρ y (.pointer (some ⟨b,off+k*s,none⟩))
structure AOp (E:bB) (S:bV) (o:Oper) (st:ASt) (K:ASt->Prop):Prop where
 run:∀a w Q,hG E.W S st a w->Oper.wp E.P o a w (λa' w'=>∃st',hG E.W S st' a' w'/\K st') Q
theorem aav{X Y:Prop}(h:X):AB true X Y:=⟨λ_=>h,λe=>(by cases e)⟩
theorem aau{X Y:Prop}(h:Y):AB false X Y:=⟨λe=>(by cases e),λ_=>h⟩
structure aG (E:bB) (S:bV) (f:FuncId) (args:List AV) (st:ASt) (K:AV->ASt->Prop):Prop where
 enter:∀(us:Array Value) w,(callFunc f us).run E.P w= .ok (.enter f us) w
 run:∀Z ρ a w (us:List Value),Sim E.W S Z ρ st a w->us.length=args.length->(∀(i:Nat) x u,args[i]? =some x->us[i]? =some u->bX Z w ρ x u)->
  Calls E.P f us.toArray w λe w'=>∃v r st' Z' ρ',e= .returned v/\Sim E.W S Z' ρ' st' a w'/\bX Z' w' ρ' r v/\K r st'
def wh(v:AV)(X Y:Prop):Prop:=
 match v with
 | .one (.d (.pv (.bool p)))=>AB p X Y
 |_=>False
def aTI(T:TT)(t:TypeId)(K:TI->Prop):Prop:=
 match T.get t with
 |some i=>K i
 |none=>False
def ov{α:Type}:List α->Nat->(α->Prop)->Prop
 |[],_,_=>False
 |x::_,0,K=>K x
 |_::r,n+1,K=>ov r n K
theorem fD{α:Type}{K:α->Prop}:∀{l:List α} {n:Nat},ov l n K->∃x,l[n]? =some x/\K x
 |[],_,h=>h.elim
 |x::_,0,h=>⟨x,rfl,h⟩
 |_::r,n+1,h=>by obtain⟨x,h1,h2⟩:=fD (l:=r) (n:=n) h;exact⟨x,by simpa using h1,h2⟩
def wj{α:Type}:List α->Nat->(List α->Prop)->Prop
 |l,0,K=>K l
 |[],_+1,_=>False
 |_::r,n+1,K=>wj r n K
theorem jK{α:Type}{K:List α->Prop}:∀{l:List α} {n:Nat},wj l n K->n<=l.length/\K (l.drop n)
 |l,0,h=>⟨zero_le _,by cases l<;>exact h⟩
 |[],_+1,h=>h.elim
 |_::r,n+1,h=>by obtain⟨h1,h2⟩:=jK (l:=r) (n:=n) h;exact⟨by simpa using h1,h2⟩
def MH{α:Type}:List α->Nat->(List α->Prop)->Prop
 |_,0,K=>K []
 |[],_+1,_=>False
 |x::r,n+1,K=>MH r n λr'=>K (x::r')
theorem oK{α:Type}:∀{l:List α} {n:Nat} {K:List α->Prop},MH l n K->n<=l.length/\K (l.take n)
 |l,0,_,h=>⟨zero_le _,by cases l<;>exact h⟩
 |[],_+1,_,h=>h.elim
 |x::r,n+1,K,h=>by obtain⟨h1,h2⟩:=oK (l:=r) (n:=n) (K:=λr'=>K (x::r')) h;exact⟨by simpa using h1,h2⟩
def yv:List AD->(List AC->Prop)->Prop
 |[],K=>K []
 |x::r,K=>yv r λr'=>K (.d x::r')
theorem mx:∀{l:List AD} {K:List AC->Prop},yv l K->K (l.map .d)
 |[],_,h=>h
 |x::r,K,h=>mx (l:=r) (K:=λr'=>K (.d x::r')) h
def Ii:List AC->(List AD->Prop)->Prop
 |[],K=>K []
 | .d x::r,K=>Ii r λr'=>K (x::r')
 | .nil::r,K=>Ii r λr'=>K (.sl []::r')
 |_::_,_=>False
def mo:List AC->Nat->List AC->(List AC->Prop)->Prop
 |l,0,[],K=>K l
 |_::r,0,x::xs,K=>mo r 0 xs λr'=>K (x::r')
 |c::r,n+1,xs,K=>mo r n xs λr'=>K (c::r')
 |_,_,_,_=>False
theorem ly:∀{l:List AC} {n:Nat} {xs:List AC} {K:List AC->Prop},mo l n xs K->n+xs.length<=l.length/\∃l',K l'/\l'.length=l.length/\∀(i:Nat) (c:AC),l'[i]? =some c->(n<=i/\xs[i-n]? =some c)\/((i<n\/n+xs.length<=i)/\l[i]? =some c)
 |l,0,[],K,h=>⟨by simp,l,by cases l<;>exact h,rfl,λi c hc=> .inr ⟨by simp,hc⟩⟩
 |_::r,0,x::xs,K,h=>by
  obtain⟨h1,l',hk,hl,hc⟩:=ly (l:=r) (n:=0) (xs:=xs) (K:=λr'=>K (x::r')) h;refine⟨by simp at h1⊢;omega,x::l',hk,by simp[hl],λi c hi=>?_⟩;cases i with
  |zero=>exact .inl ⟨zero_le _,by simpa using hi⟩
  |succ i=>
   rcases hc i c (by simpa using hi)with⟨h2,h3⟩|⟨h2,h3⟩
   ·exact .inl ⟨zero_le _,by simpa using h3⟩
   ·exact .inr ⟨by simp at h2⊢;omega,by simpa using h3⟩
 |c0::r,n+1,xs,K,h=>by
  have h':mo r n xs (λr'=>K (c0::r')):=by cases xs<;>exact h
  obtain⟨h1,l',hk,hl,hc⟩:=ly h';refine⟨by simp;omega,c0::l',hk,by simp[hl],λi c hi=>?_⟩;cases i with
  |zero=>exact .inr ⟨.inl (by omega),by simpa using hi⟩
  |succ i=>
   rcases hc i c (by simpa using hi)with⟨h2,h3⟩|⟨h2,h3⟩
   ·exact .inl ⟨by omega,by simpa[Nat.succ_sub_succ]using h3⟩
   ·exact .inr ⟨by omega,by simpa using h3⟩
 |[],0,_::_,_,h=>h.elim
 |[],_+1,[],_,h=>h.elim
 |[],_+1,_::_,_,h=>h.elim
end
section
open Go.RowKit
def AH(id:Nat)(c:AC)(K:AC->Prop):Prop:=
 match c with
 | .own i=>match Nat.beq i id with
  |true=>K .dead
  |false=>K (.own i)
 | .ref i k s off=>match Nat.beq i id with
  |true=>K .dead
  |false=>K (.ref i k s off)
 |c=>K c
theorem AI{id:Nat}{c:AC}{K:AC->Prop}(h:AH id c K):K (jt id c):=by
 cases c with
 |own i=>
  simp only[AH]at h;simp only[jt];split at h
  ·rename_i e;rw[if_pos (eq_of_beq_eq_true e)];exact h
  ·rename_i e;rw[if_neg (Nat.ne_of_beq_eq_false e)];exact h
 |ref i k s off=>
  simp only[AH]at h;simp only[jt];split at h
  ·rename_i e;rw[if_pos (eq_of_beq_eq_true e)];exact h
  ·rename_i e;rw[if_neg (Nat.ne_of_beq_eq_false e)];exact h
 |_=>exact h
def wl(id:Nat):List AC->(List AC->Prop)->Prop
 |[],K=>K []
 |c::r,K=>AH id c λc'=>wl id r λr'=>K (c'::r')
theorem nH{id:Nat}:∀{l:List AC} {K:List AC->Prop},wl id l K->K (l.map (jt id))
 |[],_,h=>h
 |c::r,K,h=>nH (l:=r) (K:=λr'=>K (jt id c::r')) (AI h)
def Pj(id:Nat)(x:AV)(K:AV->Prop):Prop:=
 match x with
 | .one c=>AH id c λc=>K (.one c)
 | .agg cs=>wl id cs λcs=>K (.agg cs)
 | .tup _=>K (.one .dead)
theorem KR{id:Nat}{x:AV}{K:AV->Prop}(h:Pj id x K):K (ku id x):=by
 cases x with
 |one c=>exact AI (K:=λc=>K (.one c)) h
 |agg cs=>exact nH (K:=λcs=>K (.agg cs)) h
 |tup vs=>exact h
def AJ(id:Nat):List AV->(List AV->Prop)->Prop
 |[],K=>K []
 |x::r,K=>Pj id x λx'=>AJ id r λr'=>K (x'::r')
theorem pJ{id:Nat}:∀{l:List AV} {K:List AV->Prop},AJ id l K->K (l.map (ku id))
 |[],_,h=>h
 |x::r,K,h=>pJ (l:=r) (K:=λr'=>K (ku id x::r')) (KR h)
def lW(id:Nat):List (Nat×AO)->(List (Nat×AO)->Prop)->Prop
 |[],K=>K []
 |(i,.cells t cs)::r,K=>wl id cs λcs=>lW id r λr'=>K ((i,.cells t cs)::r')
 |(i,.row e s xs)::r,K=>lW id r λr'=>K ((i,.row e s xs)::r')
 |(i,.frame vs us)::r,K=>AJ id vs λvs=>lW id r λr'=>K ((i,.frame vs us)::r')
 |(i,.any Q)::r,K=>lW id r λr'=>K ((i,.any Q)::r')
 |(i,.many P Q)::r,K=>lW id r λr'=>K ((i,.many P Q)::r')
theorem jB{id:Nat}:∀{l:List (Nat×AO)} {K:List (Nat×AO)->Prop},lW id l K->K (pi id l)
 |[],_,h=>h
 |(i,.cells t cs)::r,K,h=>jB (l:=r) (K:=λr'=>K ((i,.cells t (cs.map (jt id)))::r')) (nH (K:=λcs=>lW id r λr'=>K ((i,.cells t cs)::r')) h)
 |(i,.row e s xs)::r,K,h=>jB (l:=r) (K:=λr'=>K ((i,.row e s xs)::r')) h
 |(i,.frame vs us)::r,K,h=>jB (l:=r) (K:=λr'=>K ((i,.frame (vs.map (ku id)) us)::r')) (pJ (K:=λvs=>lW id r λr'=>K ((i,.frame vs us)::r')) h)
 |(i,.any Q)::r,K,h=>jB (l:=r) (K:=λr'=>K ((i,.any Q)::r')) h
 |(i,.many P Q)::r,K,h=>jB (l:=r) (K:=λr'=>K ((i,.many P Q)::r')) h
def gH(i:Nat)(o:AO):List (Nat×AO)->(List (Nat×AO)->Prop)->Prop
 |[],K=>K [(i,o)]
 |(k,x)::r,K=>match Nat.beq k i with
  |true=>K ((i,o)::r)
  |false=>gH i o r λr'=>K ((k,x)::r')
theorem dl{i:Nat}{o:AO}:∀{l:List (Nat×AO)} {K:List (Nat×AO)->Prop},gH i o l K->K (fj l i o)
 |[],_,h=>h
 |(k,x)::r,K,h=>by
  simp only[gH]at h;unfold fj;split at h
  ·rename_i e;rw[if_pos (eq_of_beq_eq_true e)];exact h
  ·rename_i e;rw[if_neg (Nat.ne_of_beq_eq_false e)];exact dl (l:=r) (K:=λr'=>K ((k,x)::r')) h
def aOb:List (Nat×AO)->Nat->(AO->Prop)->Prop
 |[],_,_=>False
 |(k,o)::r,i,K=>match Nat.beq k i with
  |true=>K o
  |false=>aOb r i K
theorem co{i:Nat}{K:AO->Prop}:∀{l:List (Nat×AO)},aOb l i K->∃o,bA l i=some o/\K o
 |[],h=>h.elim
 |(k,o)::r,h=>by
  simp only[aOb]at h;unfold bA;split at h
  ·rename_i e;rw[if_pos (eq_of_beq_eq_true e)];exact⟨o,rfl,h⟩
  ·rename_i e;rw[if_neg (Nat.ne_of_beq_eq_false e)];exact co h
theorem KV{i:Nat}{K:AO->Prop}:∀{l:List (Nat×AO)} {o:AO},bA l i=some o->K o->aOb l i K
 |[],_,h,_=>by cases h
 |(k,o)::r,o',h,hk=>by
  simp only[aOb];unfold bA at h;cases e:Nat.beq k i with
  |true=>rw[if_pos (eq_of_beq_eq_true e)]at h;injection h with h;subst h;exact hk
  |false=>rw[if_neg (Nat.ne_of_beq_eq_false e)]at h;exact KV h hk
def wq(st:ASt)(id:Nat)(o:AO)(K:ASt->Prop):Prop:=
 AJ id st.tm λtm=>lW id st.ob λob=>gH id o ob λob=>K ⟨tm,ob⟩
theorem io{st:ASt}{id:Nat}{o:AO}{K:ASt->Prop}(h:wq st id o K):K ⟨(fv id st).tm,fj (fv id st).ob id o⟩:=
 dl (K:=λob=>K ⟨(fv id st).tm,ob⟩) (jB (K:=λob=>gH id o ob λob=>K ⟨(fv id st).tm,ob⟩) (pJ (K:=λtm=>lW id st.ob λob=>gH id o ob λob=>K ⟨tm,ob⟩) h))
def Bf:IntKind->IntKind->Bool
 | .i8,.i8| .i16,.i16| .i32,.i32| .i64,.i64| .u8,.u8| .u16,.u16| .u32,.u32| .u64,.u64=>true
 |_,_=>false
theorem Eu{j k:IntKind}(h:Bf j k=true):j=k:=by cases j<;>cases k<;>first|rfl|cases h
abbrev vI(k:IntKind)(n:Int):AV:= .one (.d (.pv (.int k n)))
abbrev vB(b:Bool):AV:= .one (.d (.pv (.bool b)))
abbrev vS(s:ByteArray):AV:= .one (.d (.pv (.string s)))
def TZ(k:IntKind)(a b:Int):Int:=k.wrap (BitVec.ofInt k.bits a&&&BitVec.ofInt k.bits b).toNat
def Uj(k:IntKind)(a b:Int):Int:=k.wrap (BitVec.ofInt k.bits a^^^BitVec.ofInt k.bits b).toNat
def SK(k:IntKind)(a b:Int):Int:=a.fdiv (2^min b.toNat k.bits)
def yr(op:BinOp)(k:IntKind)(a b:Int)(K:AV->Prop):Prop:=
 match op with
 | .add=>AW k (a+b) λc=>K (vI k c)
 | .sub=>AW k (a-b) λc=>K (vI k c)
 | .mul=>AW k (a*b) λc=>K (vI k c)
 | .quo=>b≠0/\AW k (a.tdiv b) λc=>K (vI k c)
 | .rem=>b≠0/\K (vI k (a.tmod b))
 | .and=>K (vI k (TZ k a b))
 | .xor=>K (vI k (Uj k a b))
 | .shr=>match decide (0<=b)with
  |true=>K (vI k (SK k a b))
  |false=>False
 | .eql=>K (vB (a==b))
 | .neq=>K (vB (a !=b))
 | .lss=>K (vB (decide (a<b)))
 | .leq=>K (vB (decide (a<=b)))
 | .gtr=>K (vB (decide (a>b)))
 | .geq=>K (vB (decide (a>=b)))
 |_=>False
def MG(op:BinOp)(a b:ByteArray)(K:AV->Prop):Prop:=
 match op with
 | .add=>a.size+b.size<=9223372036854775807/\K (vS (a++b))
 | .eql=>K (vB (a.toList==b.toList))
 | .neq=>K (vB (!(a.toList==b.toList)))
 |_=>False
def Gq(op:BinOp)(a b:Bool)(K:AV->Prop):Prop:=
 match op with
 | .eql=>K (vB (a==b))
 | .neq=>K (vB (!(a==b)))
 |_=>False
def Nu(E:bB)(op:BinOp)(t:TypeId)(x y:AV)(F:Prop)(K:AV->Prop):Prop:=
 match x,y with
 | .one (.d (.pv (.int k a))),.one (.d (.pv (.int k' b)))=>match Bf k k' with
  |true=>yr op k a b K
  |false=>False
 | .one (.d (.pv (.string a))),.one (.d (.pv (.string b)))=>MG op a b K
 | .one (.d (.pv (.bool a))),.one (.d (.pv (.bool b)))=>aTI E.T t λi=>match i.kind with
  | .bool=>Gq op a b K
  |_=>False
 |_,_=>F
def aUn(op:UnOp)(x:AV)(F:Prop)(K:AV->Prop):Prop:=
 match op,x with
 | .not,.one (.d (.pv (.bool p)))=>K (vB (!p))
 | .neg,.one (.d (.pv (.int k n)))=>AW k (0-n) λc=>K (vI k c)
 |_,_=>F
def Ee(E:bB)(src dst:TypeId)(x:AV)(F:Prop)(K:AV->Prop):Prop:=
 match x with
 | .one (.d (.pv (.int _ n)))=>aTI E.T src λ_=>aTI E.T dst λi=>match i.kind with
  | .int k=>AW k n λc=>K (vI k c)
  |_=>F
 |_=>F
def kV(E:bB)(t:TypeId)(x:AV)(f:Nat)(K:AV->Prop):Prop:=
 aTI E.T t λi=>match i.kind with
 | .st fs=>ov fs f λp=>aTI E.T p.2 λj=>match j.size with
  |0=>False
  |_+1=>match x with
   | .one (.ref id k s off)=>K (.one (.ref id k s (off+p.1)))
   | .one (.ptr cs)=>wj cs p.1 λr=>K (.one (.ptr r))
   |_=>False
 |_=>False
def rX(i:TI)(cs:List AC)(K:AV->Prop):Prop:=
 match i.agg with
 |true=>MH cs i.size λxs=>K (.agg xs)
 |false=>match cs with
  |c::_=>K (.one c)
  |[]=>False
def rS(E:bB)(st:ASt)(t:TypeId)(x:AV)(K:AV->Prop):Prop:=
 aTI E.T t λi=>match x with
 | .one (.ref id k s off)=>aOb st.ob id λo=>match o with
  | .cells _ cs=>match k with
   |0=>wj cs off λr=>rX i r K
   |_+1=>False
  | .row _ s' xs=>match Nat.beq s s' with
   |true=>AIx xs k λ_ x=>wj x off λr=>yv r λr=>rX i r K
   |false=>False
  | .frame _ _=>False
  | .any _=>False
  | .many _ _=>False
 | .one (.ptr cs)=>yv cs λcs=>rX i cs K
 |_=>False
def jC:List AC->Bool
 |[]=>true
 | .dead::_=>false
 | .und::_=>false
 |_::r=>jC r
def mL(x:AV)(K:List AC->Prop):Prop:=
 match x with
 | .one c=>match jC [c]with
  |true=>K [c]
  |false=>False
 | .agg cs=>match jC cs with
  |true=>K cs
  |false=>False
 | .tup _=>False
def AL:List AC->Nat->Bool
 |[],0=>true
 |_::r,n+1=>AL r n
 |_,_=>false
theorem tN:∀{l:List AC} {n:Nat},AL l n=true->l.length=n
 |[],0,_=>rfl
 |_::r,n+1,h=>by rw[List.length_cons,tN (l:=r) (n:=n) h]
 |[],_+1,h=>by cases h
 |_::_,0,h=>by cases h
def Px(E:bB)(st:ASt)(t:TypeId)(x v:AV)(K:ASt->Prop):Prop:=
 aTI E.T t λi=>mL v λvs=>match AL vs i.size with
 |false=>False
 |true=>match x with
  | .one (.ref id k s off)=>aOb st.ob id λo=>match o with
   | .cells u cs=>match k with
    |0=>mo cs off vs λcs'=>match st with
     |⟨tm,ob⟩=>gH id (.cells u cs') ob λob=>K ⟨tm,ob⟩
    |_+1=>False
   | .row e s' xs=>match Nat.beq s s' with
    |true=>AIx xs k λk x=>yv x λx=>mo x off vs λx'=>Ii x' λx'=>match st with
     |⟨tm,ob⟩=>gH id (.row e s' (xs.set k x')) ob λob=>K ⟨tm,ob⟩
    |false=>False
   | .frame _ _=>False
   | .any _=>False
   | .many _ _=>False
  |_=>False
def ww(z:Value)(K:List AC->Prop):Prop:=
 match z with
 | .agg cs=>NE cs.toList λl=>match jC l with
  |true=>K l
  |false=>False
 |v=>Gu v λc=>match jC [c]with
  |true=>K [c]
  |false=>False
def H5(st:ASt)(place:Nat->(Nat×Nat->Prop)->Prop):List (Nat×Operand)->List AC->(List AC->Prop)->Prop
 |[],l,K=>K l
 |(i,x)::r,l,K=>place i λp=>aEv st x λv=>mL v λvs=>match AL vs p.2 with
  |true=>mo l p.1 vs λl'=>H5 st place r l' K
  |false=>False
def zX(E:bB):List (Nat×TypeId)->(List (Nat×Nat)->Prop)->Prop
 |[],K=>K []
 |p::r,K=>aTI E.T p.2 λj=>zX E r λq=>K ((p.1,j.size)::q)
def As(E:bB)(st:ASt)(t:TypeId)(parts:List (Nat×Operand))(K:AV->Prop):Prop:=
 aTI E.T t λi=>ww i.zero λz=>match i.kind with
 | .st fs=>zX E fs λplaces=>H5 st (λn K=>ov places n K) parts z λl=>K (.agg l)
 | .arr _ e=>aTI E.T e λj=>H5 st (λn K=>K (n*j.size,j.size)) parts z λl=>K (.agg l)
 |_=>False
def lV(st:ASt)(s:Nat):List (Nat×Operand)->(at_ n:Nat)->(List (List AD)->Prop)->Prop
 |[],a,n,K=>match Nat.beq a n with
  |true=>K []
  |false=>False
 |(i,x)::r,a,n,K=>match Nat.beq i a with
  |true=>aEv st x λv=>mL v λvs=>match AL vs s with
   |true=>Ii vs λds=>lV st s r (a+1) n λr'=>K (ds::r')
   |false=>False
  |false=>False
def nJ(E:bB)(st:ASt)(d:Option Tmp)(e:TypeId)(xs:List (List AD))(K:ASt->Prop):Prop:=
 aTI E.T e λj=>match j.size with
 |0=>False
 |s+1=>match d with
  |some d=>wq st d (.row e (s+1) xs) λst=>dR st (some d) (.one (.own d)) K
  |none=>False
def yq(E:bB)(st:ASt)(d:Option Tmp)(t:TypeId)(n:Nat)(parts:List (Nat×Operand))(K:ASt->Prop):Prop:=
 aTI E.T t λi=>match i.kind with
 | .sl e=>aTI E.T e λj=>match Nat.ble (n*j.size) 16777216 with
  |true=>lV st j.size parts 0 n λxs=>nJ E st d e xs K
  |false=>False
 |_=>False
def rU(st:ASt)(x:AV)(K:List (List AD)->Prop):Prop:=
 match x with
 | .one .nil=>K []
 | .one (.d (.sl xs))=>K xs
 | .one (.own id)=>aOb st.ob id λo=>match o with
  | .row _ _ xs=>K xs
  |_=>False
 |_=>False
def Pv(st:ASt)(s:Nat)(x:AV)(K:List (List AD)->Prop):Prop:=
 match x with
 | .one .nil=>K []
 | .one (.d (.sl xs))=>(∀x∈xs,x.length=s)/\K xs
 | .one (.own id)=>aOb st.ob id λo=>match o with
  | .row _ s' xs=>match Nat.beq s s' with
   |true=>K xs
   |false=>False
  |_=>False
 |_=>False
def Gp(E:bB)(st:ASt)(d:Option Tmp)(t t2:TypeId)(x y:AV)(K:ASt->Prop):Prop:=
 match Nat.beq t t2 with
 |false=>False
 |true=>aTI E.T t λi=>match i.kind with
  | .sl e=>aTI E.T e λj=>match j.size,j.bytes with
   |s+1,b+1=>Pv st (s+1) y λys=>match x with
    | .one .nil=>(ys.length*(b+1)<=140737488355328)/\nJ E st d e ys K
    | .one (.own id)=>aOb st.ob id λo=>match o with
     | .row e' s' xs=>match Nat.beq e e',Nat.beq (s+1) s' with
      |true,true=>((xs.length+ys.length)*(b+1)<=140737488355328)/\wq st id (.row e (s+1) (xs++ys)) λst=>dR st d (.one (.own id)) K
      |_,_=>False
     |_=>False
    |_=>False
   |_,_=>False
  |_=>False
def Pm(E:bB)(st:ASt)(d:Option Tmp)(t:TypeId)(x y:AV)(K:ASt->Prop):Prop:=
 match x,y with
 | .one (.d (.pv (.int _ n))),.one (.d (.pv (.int _ m)))=>aTI E.T t λi=>match i.kind with
  | .sl e=>aTI E.T e λj=>ww j.zero λz=>Ii z λz=>∃k:Nat,n=(k:Int)/\m=(k:Int)/\j.bytes*k<=281474976710656/\k<=140737488355328/\nJ E st d e (List.replicate k z) K
  |_=>False
 |_,_=>False
def KT(E:bB)(st:ASt)(d:Option Tmp)(t:TypeId)(y:AV)(K:ASt->Prop):Prop:=
 match y with
 | .one (.d (.pv (.int _ m)))=>aTI E.T t λi=>match i.kind with
  | .sl e=>aTI E.T e λj=>∃c:Nat,m=(c:Int)/\j.bytes*c<=281474976710656/\c<=140737488355328/\nJ E st d e [] K
  |_=>False
 |_=>False
def Uo(x:Operand)(A B:Prop):Prop:=
 match x with
 | .const (.int .i64 (.ofNat 0))=>A
 |_=>B
def KS(E:bB)(st:ASt)(t:TypeId)(x:AV)(F:Prop)(K:AV->Prop):Prop:=
 match x with
 | .one (.d (.pv (.string s)))=>aTI E.T t λi=>match i.kind with
  | .str=>K (vI .i64 s.size)
  |_=>F
 |_=>aTI E.T t λi=>match i.kind with
  | .sl _=>rU st x λxs=>K (vI .i64 xs.length)
  |_=>F
def H9:List AD->Nat->Bool
 |[],0=>true
 |_::r,n+1=>H9 r n
 |_,_=>false
theorem AK:∀{l:List AD} {n:Nat},H9 l n=true->l.length=n
 |[],0,_=>rfl
 |_::r,n+1,h=>by rw[List.length_cons,AK (l:=r) (n:=n) h]
 |[],_+1,h=>by cases h
 |_::_,0,h=>by cases h
structure uE (n:Int) (len:Nat) (K:Nat->Prop):Prop where
 h:∃i:Nat,n=(i:Int)/\i<len/\K i
theorem uE.at{n:Int}{len:Nat}{K:Nat->Prop}(i:Nat)(h1:n=(i:Int))(h2:i<len)(hk:K i):uE n len K:=⟨⟨i,h1,h2,hk⟩⟩
def kW(E:bB)(st:ASt)(t:TypeId)(x i:AV)(K:AV->Prop):Prop:=
 match i with
 | .one (.d (.pv (.int _ n)))=>aTI E.T t λti=>match ti.kind with
  | .sl e=>aTI E.T e λj=>match j.size with
   |0=>False
   |s+1=>match x with
    | .one (.d (.sl xs))=>AIx xs n λ_ x=>match H9 x (s+1)with
     |true=>K (.one (.ptr x))
     |false=>False
    | .one (.own id)=>aOb st.ob id λo=>match o with
     | .row _ s' xs=>match Nat.beq (s+1) s' with
      |true=>AIx xs n λk _=>K (.one (.ref id k (s+1) 0))
      |false=>False
     |_=>False
    | .one (.d (.x R))=>AXi E.W st.ob R n (s+1) K
    |_=>False
  | .arr len e=>aTI E.T e λj=>match x with
   | .one (.ref id k s off)=>uE n len λi=>K (.one (.ref id k s (off+i*j.size)))
   |_=>False
  |_=>False
 |_=>False
def xM(E:bB)(t:TypeId)(x i:AV)(F:Prop)(K:AV->Prop):Prop:=
 match x,i with
 | .one (.d (.pv (.string s))),.one (.d (.pv (.int _ n)))=>aTI E.T t λti=>match ti.kind with
  | .str=>∃(k:Nat) (b:UInt8),n=(k:Int)/\s[k]? =some b/\K (vI .u8 b.toNat)
  |_=>F
 |_,_=>F
def Aq(st:ASt)(x:Option Operand)(K:Option Int->Prop):Prop:=
 match x with
 |none=>K none
 |some x=>aEv st x λv=>match v with
  | .one (.d (.pv (.int _ n)))=>K (some n)
  |_=>False
def Oj(lo:Option Int)(l:Nat):Prop:=
 match lo with
 |none=>l=0
 |some n=>n=(l:Int)
def IO(len:Nat)(hi:Option Int)(h:Nat):Prop:=
 match hi with
 |none=>h=len
 |some n=>n=(h:Int)
def TV(len:Nat)(lo hi:Option Int)(K:Nat->Nat->Prop):Prop:=
 ∃l h:Nat,Oj lo l/\IO len hi h/\l<=h/\h<=len/\K l h
def wt(E:bB)(x:AV)(lo hi:Option Int)(F:Prop)(K:AV->Prop)(i:TI):Prop:=
 match x with
 | .one (.d (.pv (.string s)))=>match i.kind with
  | .str=>TV s.size lo hi λl h=>K (vS (s.extract l h))
  |_=>F
 | .one (.d (.sl xs))=>match i.kind with
  | .sl e=>aTI E.T e λj=>TV xs.length lo hi λl h=>(∀x∈xs,x.length=j.size)/\K (.one (.d (.sl ((xs.take h).drop l))))
  |_=>F
 |_=>F
def Bi(E:bB)(st:ASt)(t:TypeId)(x:AV)(lo hi:Option Operand)(F:Prop)(K:AV->Prop):Prop:=
 Aq st lo λlo=>Aq st hi λhi=>aTI E.T t (wt E x lo hi F K)
def vC(E:bB)(t:TypeId)(x:AV)(f:Nat)(K:AV->Prop):Prop:=
 match x with
 | .agg cs=>aTI E.T t λi=>match i.kind with
  | .st fs=>ov fs f λp=>aTI E.T p.2 λj=>wj cs p.1 λr=>rX j r K
  |_=>False
 |_=>False
def Nw(st:ASt)(d:Option Tmp)(t:TypeId)(cs:List AC)(K:ASt->Prop):Prop:=
 match d with
 |some d=>wl d cs λcs=>wq st d (.cells t cs) λst=>dR st (some d) (.one (.ref d 0 0 0)) K
 |none=>False
def MB(x y:AV)(F:Prop)(K:IntKind->Int->Int->Prop):Prop:=
 match x with
 | .one (.d (.pv (.int k a)))=>match y with
  | .one (.d (.pv (.int _ b)))=>K k a b
  |_=>F
 |_=>F
def Ty(E:bB)(ts:List TypeId)(args:List AV)(st:ASt)(d:Option Tmp)(F:Prop)(K:ASt->Prop):Prop:=
 match ts with
 |t::_=>match args with
  |[x]=>KS E st t x F λv=>dR st d v K
  |_=>F
 |_=>F
def pD(s:ByteArray):List (List AD):=s.data.toList.map λb=>[.pv (.int .u8 b.toNat)]
def Gn(E:bB)(st:ASt)(d:Option Tmp)(t t2:TypeId)(x:AV)(s:ByteArray)(K:ASt->Prop):Prop:=
 aTI E.T t λi=>match i.kind with
 | .sl e=>aTI E.T e λj=>match j.zero,j.size,j.bytes with
  | .int .u8 n,1,1=>n=0/\aTI E.T t2 λi2=>match i2.kind with
   | .str=>match x with
    | .one .nil=>(s.size<=140737488355328)/\nJ E st d e (pD s) K
    | .one (.own id)=>aOb st.ob id λo=>match o with
     | .row e' s' xs=>match Nat.beq e e',Nat.beq 1 s' with
      |true,true=>(xs.length+s.size<=140737488355328)/\wq st id (.row e 1 (xs++pD s)) λst=>dR st d (.one (.own id)) K
      |_,_=>False
     |_=>False
    |_=>False
   |_=>False
  |_,_,_=>False
 |_=>False
def Tv(E:bB)(ts:List TypeId)(args:List AV)(st:ASt)(d:Option Tmp)(F:Prop)(K:ASt->Prop):Prop:=
 match ts with
 |[t,t2]=>match args with
  |[x,y]=>match y with
   | .one (.d (.pv (.string s)))=>Gn E st d t t2 x s K
   |_=>Gp E st d t t2 x y K
  |_=>F
 |_=>F
def oH(E:bB)(b:Builtin)(ts:List TypeId)(args:List AV)(st:ASt)(d:Option Tmp)(F:Prop)(K:ASt->Prop):Prop:=
 match b with
 | .len=>Ty E ts args st d F K
 | .append=>Tv E ts args st d F K
 | .max=>match args with
  |[x,y]=>MB x y F λk a b=>dR st d (vI k (if b>a then b else a)) K
  |_=>F
 | .min=>match args with
  |[x,y]=>MB x y F λk a b=>dR st d (vI k (if b<a then b else a)) K
  |_=>F
 |_=>F
def aop(E:bB)(S:bV)(o:Oper)(st:ASt)(K:ASt->Prop):Prop:=
 match o.op with
 | .move x| .assign x=>aEv st x λv=>dR st o.dst v K
 | .pick c a b=>aEv st c λc=>wh c (aEv st a λv=>dR st o.dst v K) (aEv st b λv=>dR st o.dst v K)
 | .binOp op t x y _=>aEv st x λx=>aEv st y λy=>Nu E op t x y (AOp E S o st K) λv=>dR st o.dst v K
 | .unOp op _ x=>aEv st x λx=>aUn op x (AOp E S o st K) λv=>dR st o.dst v K
 | .convert s d x=>aEv st x λx=>Ee E s d x (AOp E S o st K) λv=>dR st o.dst v K
 | .fieldAddr t x f=>aEv st x λx=>kV E t x f λv=>dR st o.dst v K
 | .load t x=>aEv st x λx=>rS E st t x λv=>dR st o.dst v K
 | .store t x v=>aEv st x λx=>aEv st v λv=>Px E st t x v λst=>dR st o.dst (.one .und) K
 | .box t x=>aEv st x λx=>mL x λcs=>Nw st o.dst t cs K
 | .alloc t=>aTI E.T t λi=>ww i.zero λcs=>Nw st o.dst t cs K
 | .build t ps=>As E st t ps.toList λv=>dR st o.dst v K
 | .buildSlice t n ps=>yq E st o.dst t n ps.toList K
 | .makeSlice t l c=>Uo l (aEv st c λc=>KT E st o.dst t c K) (aEv st l λl=>aEv st c λc=>Pm E st o.dst t l c K)
 | .slice t x lo hi none=>aEv st x λx=>Bi E st t x lo hi (AOp E S o st K) λv=>dR st o.dst v K
 | .indexAddr t x i=>aEv st x λx=>aEv st i λi=>kW E st t x i λv=>dR st o.dst v K
 | .index t x i=>aEv st x λx=>aEv st i λi=>xM E t x i (AOp E S o st K) λv=>dR st o.dst v K
 | .field t x f=>aEv st x λx=>vC E t x f λv=>dR st o.dst v K
 | .extract x i=>aEv st x λx=>match x with
  | .tup vs=>ov vs i λv=>dR st o.dst v K
  |_=>False
 | .nilCheck x=>aEv st x λx=>match x with
  | .one (.ref i k s off)=>dR st o.dst (.one (.ref i k s off)) K
  | .one (.ptr cs)=>dR st o.dst (.one (.ptr cs)) K
  | .one (.d (.pv (.func (.func f) a c)))=>dR st o.dst (.one (.d (.pv (.func (.func f) a c)))) K
  |_=>AOp E S o st K
 | .call c=>match c.callee with
  | .builtin b=>Aw st c.args.toList λargs=>oH E b c.argTypes.toList args st o.dst (AOp E S o st K) K
  | .value f=>aEv st f λf=>match f with
   | .one (.d (.pv (.func (.func f) first caps)))=>match first.toList,caps.toList with
    |[],[]=>Aw st c.args.toList λargs=>aG E S f args st λr st=>dR st o.dst r K
    |_,_=>AOp E S o st K
   |_=>AOp E S o st K
  |_=>AOp E S o st K
 |_=>AOp E S o st K
def AE(all:List Oper)(o:Oper)(st:ASt)(Y N:ASt->Prop):Prop:=
 match o.guard with
 |none=>Y st
 |some (j,want)=>ov all j λoj=>match oj.dst with
  |none=>False
  |some d=>aTm st.tm d λv=>match v with
   | .one (.d (.pv (.bool p)))=>match st with
    | ⟨tm, ob⟩ => AB p (nI tm d (vB true) fun tm => match want with
     |true=>Y ⟨tm,ob⟩
     | false => N ⟨tm, ob⟩) (nI tm d (vB false) fun tm => match want with
     |true=>N ⟨tm,ob⟩
     |false=>Y ⟨tm,ob⟩)
   | .one .und=>N st
   |_=>False
def DA(E:bB)(S:bV)(all:List Oper):List Oper->ASt->(ASt->Prop)->Prop
 |[],st,K=>K st
 |o::r,st,K=>AE all o st (λst=>aop E S o st λst=>DA E S all r st K) (λst=>dR st o.dst (.one .und) λst=>DA E S all r st K)
end
section
open Go.RowKit
section
variable {E:bB} {S:bV} {Z:Nat->Prop} {ρ:Nat->Value} {st:ASt} {a:Act} {w:World} {K:ASt->Prop} {o:Oper}
def qU(E:bB)(S:bV)(o:Oper)(a:Act)(w:World)(K:ASt->Prop):Prop:=∀Q,Oper.wp E.P o a w (λa' w'=>∃st',hG E.W S st' a' w'/\K st') Q
theorem vP(h:Sim E.W S Z ρ st a w){x:AV}{v:Value}(hx:bX Z w ρ x v)(hr:(execOp a.eval o).run E.P w= .ok (.value v) w)(hk:dR st o.dst x K):qU E S o a w K:=by
 intro Q;unfold Oper.wp;rw[hr];exact⟨_,⟨Z,ρ,h.put o.dst hx⟩,fW hk⟩
def jm(E:bB)(Z:Nat->Prop)(ρ:Nat->Value)(o:Oper)(a:Act)(w:World)(K:AV->Prop):Prop:=∃x v,bX Z w ρ x v/\(execOp a.eval o).run E.P w= .ok (.value v) w/\K x
theorem ie(h:Sim E.W S Z ρ st a w)(hk:jm E Z ρ o a w (λv=>dR st o.dst v K)):qU E S o a w K:=by
 obtain⟨x,v,hx,hr,hk⟩:=hk;exact vP h hx hr hk
theorem p8(h:Sim E.W S Z ρ st a w)(hk:jm E Z ρ o a w (λv=>dR st o.dst v K)\/AOp E S o st K):qU E S o a w K:=by
 rcases hk with hk|hk
 ·exact ie h hk
 ·exact λQ=>hk.run a w Q ⟨Z,ρ,h⟩
theorem bN{K:TI->Prop}{t:TypeId}(he:E.Ok)(h:aTI E.T t K):∃i,aS E.P t i/\K i:=by
 unfold aTI at h;split at h
 ·rename_i i hi;exact⟨i,ZF he.ty hi,h⟩
 ·exact h.elim
theorem aS.und{P:Program}{t:TypeId}{i:TI}(h:aS P t i):∃d,P.underlying t=some d/\qg d=i.kind:=map_eq_some_iff.1 h.kd
theorem aS.stf{P:Program}{t:TypeId}{i:TI}(h:aS P t i){fs:List (Nat×TypeId)}(hk:i.kind= .st fs):∃fields,P.underlying t=some (.struct fields)/\fields.toList.map (λf=>(f.offset,f.type))=fs:=by
 obtain⟨d,hd,e⟩:=h.und;rw[hk]at e;cases d<;>simp only[qg]at e<;>first|(cases e;exact⟨_,hd,rfl⟩)|cases e
theorem aS.sl{P:Program}{t:TypeId}{i:TI}(h:aS P t i){e:TypeId}(hk:i.kind= .sl e):P.underlying t=some (.slice e):=by
 obtain⟨d,hd,e1⟩:=h.und;rw[hk]at e1;cases d<;>simp only[qg]at e1<;>first|(cases e1;exact hd)|cases e1
theorem aS.arr{P:Program}{t:TypeId}{i:TI}(h:aS P t i){n:Nat}{e:TypeId}(hk:i.kind= .arr n e):P.underlying t=some (.array n e):=by
 obtain⟨d,hd,e1⟩:=h.und;rw[hk]at e1;cases d<;>simp only[qg]at e1<;>first|(cases e1;exact hd)|cases e1
theorem aS.str{P:Program}{t:TypeId}{i:TI}(h:aS P t i)(hk:i.kind= .str):P.underlying t=some .string:=by
 obtain⟨d,hd,e1⟩:=h.und;rw[hk]at e1;cases d<;>simp only[qg]at e1<;>first|exact hd|cases e1
theorem aS.bool{P:Program}{t:TypeId}{i:TI}(h:aS P t i)(hk:i.kind= .bool):P.underlying t=some .bool:=by
 obtain⟨d,hd,e1⟩:=h.und;rw[hk]at e1;cases d<;>simp only[qg]at e1<;>first|exact hd|cases e1
theorem aS.int{P:Program}{t:TypeId}{i:TI}(h:aS P t i){k:IntKind}(hk:i.kind= .int k):P.underlying t=some (.int k):=by
 obtain⟨d,hd,e1⟩:=h.und;rw[hk]at e1;cases d<;>simp only[qg]at e1<;>first|(cases e1;exact hd)|cases e1
theorem aS.info'{P:Program}{t:TypeId}{i:TI}(h:aS P t i):∃j,P.info? t=some j/\j.zero=some i.zero/\j.size=i.size/\j.bytes=i.bytes:=by
 obtain⟨j,hj,e⟩:=map_eq_some_iff.1 h.info;simp only[Prod.mk.injEq]at e;exact⟨j,hj,e.1,e.2.1,e.2.2⟩
theorem pp{id k s off b:Nat}{v:Value}(hb:bQ (ρ id)=some b)(hv:v= .pointer (some ⟨b,k*s+off,none⟩)):bX Z w ρ (.one (.ref id k s off)) v:= .one (.ref id k s off) v ⟨b,hb,hv⟩
theorem tp{cs:List AD}{v:Value}(h:Ec Z w cs v):bX Z w ρ (.one (.ptr cs)) v:= .one (.ptr cs) v h
theorem QS{d:AD}{v:Value}(h:bR Z w d v):bX Z w ρ (.one (.d d)) v:= .one (.d d) v h
theorem xl{id:Nat}{v:Value}(h:v=ρ id)(h1:v.oneCell'=true):bX Z w ρ (.one (.own id)) v:= .one (.own id) v ⟨h,h1⟩
theorem cy{v u:Value}(h:bX Z w ρ (.one (.d (.pv v))) u):u=v:=by
 cases h with
 |one _ _ h=>cases h;rfl
theorem cK{v:Value}(h:v.oneCell'=true):bX Z w ρ (.one (.d (.pv v))) v:= .one _ _ (.pv v h)
theorem qv{K:AV->Prop}(h:Sim E.W S Z ρ st a w){x:Operand}(ho:o.op= .move x\/o.op= .assign x)(hk:aEv st x K):jm E Z ρ o a w K:=by
 obtain⟨v,hv,hk⟩:=bn h hk;refine⟨_,_,hv,?_,hk⟩;rcases ho with ho|ho<;>simp[execOp,ho]
theorem Ed{v:AV}{X Y:Prop}{u:Value}(hv:bX Z w ρ v u)(h:wh v X Y):∃p,u= .bool p/\(p=true->X)/\(p=false->Y):=by
 unfold wh at h;split at h
 ·rename_i p;exact⟨p,cy hv,h.t,h.f⟩
 ·exact h.elim
theorem CN{K:AV->Prop}(h:Sim E.W S Z ρ st a w){c x y:Operand}(ho:o.op= .pick c x y)
  (hk:aEv st c λc=>wh c (aEv st x K) (aEv st y K)):jm E Z ρ o a w K:=by
 obtain⟨v,hv,hk⟩:=bn h hk;obtain⟨p,hp,h1,h2⟩:=Ed hv hk;cases p with
 |true=>
  obtain⟨u,hu,hk⟩:=bn h (h1 rfl);refine⟨_,_,hu,?_,hk⟩;simp[execOp,ho,hp,asBool]
 |false=>
  obtain⟨u,hu,hk⟩:=bn h (h2 rfl);refine⟨_,_,hu,?_,hk⟩;simp[execOp,ho,hp,asBool]
theorem NC{op:BinOp}{k:IntKind}{x y:Int}{K:AV->Prop}(h:yr op k x y K):∃v,v.oneCell'=true/\(∀t,(binOp op t (.int k x) (.int k y)).run E.P w= .ok v w)/\K (.one (.d (.pv v))):=by
 cases op<;>simp only[yr]at h<;>try exact h.elim
 case add=>obtain⟨c,rfl,hk⟩:=h.h;exact⟨_,rfl,λt=>by simp[binOp,Op.intArith],hk⟩
 case sub=>obtain⟨c,rfl,hk⟩:=h.h;exact⟨_,rfl,λt=>by simp[binOp,Op.intArith],hk⟩
 case mul=>obtain⟨c,rfl,hk⟩:=h.h;exact⟨_,rfl,λt=>by simp[binOp,Op.intArith],hk⟩
 case quo=>obtain⟨c,rfl,hk⟩:=h.2.h;exact⟨_,rfl,λt=>by simp[binOp,Op.intDiv,h.1],hk⟩
 case rem=>exact⟨_,rfl,λt=>by simp[binOp,Op.intDiv,h.1],h.2⟩
 case and=>exact⟨_,rfl,λt=>by simp[binOp,Op.intBits,TZ],h⟩
 case xor=>exact⟨_,rfl,λt=>by simp[binOp,Op.intBits,Uj],h⟩
 case shr=>
  split at h
  ·rename_i hb;have hb:¬y<0:=by rw[decide_eq_true_eq]at hb;omega
   exact⟨_,rfl,λt=>by simp[binOp,Op.shift,SK,hb],h⟩
  ·exact h.elim
 all_goals exact⟨_,rfl,λt=>by simp[binOp,Op.intCmp],h⟩
theorem NJ{op:BinOp}{x y:ByteArray}{K:AV->Prop}(h:MG op x y K):∃v,v.oneCell'=true/\(∀t,(binOp op t (.string x) (.string y)).run E.P w= .ok v w)/\K (.one (.d (.pv v))):=by
 cases op<;>simp only[MG]at h<;>try exact h.elim
 case add=>
  refine⟨_,rfl,λt=>?_,h.2⟩;have:¬((x.size+y.size:Nat):Int)>IntKind.i64.max:=by rw[IntKind.max_i64];omega
  simp only[binOp,Op.stringOp,if_neg this];rfl
 case eql=>exact⟨_,rfl,λt=>by simp[binOp,Op.stringOp],h⟩
 case neq=>exact⟨_,rfl,λt=>by simp[binOp,Op.stringOp],h⟩
theorem lD{op:BinOp}{t:TypeId}{x y:Operand}{u v:Value}(hu:match u with| .int .. | .string _| .bool _=>true|_=>false):eqGuard op t x y u v=pure ():=by
 cases u<;>simp at hu<;>cases op<;>rfl
theorem Fp{K:AV->Prop}{F:Prop}(he:E.Ok)(h:Sim E.W S Z ρ st a w){op:BinOp}{t t2:TypeId}{x y:Operand}(ho:o.op= .binOp op t x y t2)
  (hk:aEv st x λx=>aEv st y λy=>Nu E op t x y F K):jm E Z ρ o a w K\/F:=by
 obtain⟨vx,hx,hk⟩:=bn h hk;obtain⟨vy,hy,hk⟩:=bn h hk;unfold Nu at hk;split at hk
 ·rename_i k m k' n;split at hk
  ·rename_i e;have e:=Eu e;subst e;have e1:=cy hx;have e2:=cy hy;obtain⟨v,h1,h2,hk⟩:=NC (E:=E) (w:=w) hk;refine .inl ⟨_,_,(cK h1),?_,hk⟩;simp only[execOp,ho,e1,e2];rw[lD (by rfl)];simp[h2]
  ·exact hk.elim
 ·have e1:=cy hx;have e2:=cy hy;obtain⟨v,h1,h2,hk⟩:=NJ (E:=E) (w:=w) hk;refine .inl ⟨_,_,(cK h1),?_,hk⟩;simp only[execOp,ho,e1,e2];rw[lD (by rfl)];simp[h2]
 ·have e1:=cy hx;have e2:=cy hy;obtain⟨i,hi,hk⟩:=bN he hk;split at hk
  ·rename_i hb;have hu:=hi.bool hb;cases op<;>simp only[Gq]at hk<;>try exact hk.elim
   ·refine .inl ⟨_,_,(cK rfl),?_,hk⟩;simp only[execOp,ho,e1,e2];rw[lD (by rfl)];simp[run_eql_bool _ _ _ _ hu]
   ·refine .inl ⟨_,_,(cK rfl),?_,hk⟩;simp only[execOp,ho,e1,e2];rw[lD (by rfl)];simp[run_neq_bool _ _ _ _ hu]
  ·exact hk.elim
 ·exact .inr hk
theorem JV{K:AV->Prop}{F:Prop}(h:Sim E.W S Z ρ st a w){op:UnOp}{t:TypeId}{x:Operand}(ho:o.op= .unOp op t x)
  (hk:aEv st x λx=>aUn op x F K):jm E Z ρ o a w K\/F:=by
 obtain⟨vx,hx,hk⟩:=bn h hk;unfold aUn at hk;split at hk
 ·have e:=cy hx;refine .inl ⟨_,_,(cK rfl),?_,hk⟩;simp[execOp,ho,e,Op.unary]
 ·have e:=cy hx;obtain⟨c,rfl,hk⟩:=hk.h;refine .inl ⟨_,_,(cK rfl),?_,hk⟩;simp[execOp,ho,e,Op.unary,Op.intArith]
 ·exact .inr hk
theorem CL{K:AV->Prop}{F:Prop}(he:E.Ok)(h:Sim E.W S Z ρ st a w){s d:TypeId}{x:Operand}(ho:o.op= .convert s d x)
  (hk:aEv st x λx=>Ee E s d x F K):jm E Z ρ o a w K\/F:=by
 obtain⟨vx,hx,hk⟩:=bn h hk;unfold Ee at hk;split at hk
 ·have e:=cy hx;obtain⟨i,hi,hk⟩:=bN he hk;obtain⟨j,hj,hk⟩:=bN he hk;split at hk
  ·rename_i k hkk;obtain⟨ds,hds,_⟩:=hi.und;have hd:=hj.int hkk;obtain⟨c,rfl,hk⟩:=hk.h;refine .inl ⟨_,_,(cK rfl),?_,hk⟩;simp[execOp,ho,e,convert,run_underlying hds,run_underlying hd,Conv.intToInt]
  ·exact .inr hk
 ·exact .inr hk
theorem tq{P:Program}{b off:Nat}{fl:Field}{s:Nat}(w:World)(hs:∀w,(sizeOf fl.type).run P w= .ok s w)(h0:s≠0):(fieldPlace ⟨b,off,none⟩ fl).run P w= .ok ⟨b,off+fl.offset,none⟩ w:=by
 unfold fieldPlace;simp only[Sem.run_bind,hs,Result.andThen_ok,if_neg h0];simp[Addr.add]
theorem qO{K:AV->Prop}(he:E.Ok)(h:Sim E.W S Z ρ st a w){t:TypeId}{x:Operand}{f:Nat}(ho:o.op= .fieldAddr t x f)
  (hk:aEv st x λx=>kV E t x f K):jm E Z ρ o a w K:=by
 obtain⟨vx,hx,hk⟩:=bn h hk;obtain⟨i,hi,hk⟩:=bN he hk;split at hk
 ·rename_i fs hfs;obtain⟨fields,hu,hf⟩:=hi.stf hfs;obtain⟨p,hp,hk⟩:=fD hk;obtain⟨j,hj,hk⟩:=bN he hk;rw[<-hf,getElem?_map]at hp;obtain⟨fl,hfl,rfl⟩:=map_eq_some_iff.1 hp;have hfl':fields[f]? =some fl:=by simpa using hfl
  split at hk
  ·exact hk.elim
  ·rename_i n hn;have run:∀b off,a.eval x= .pointer (some ⟨b,off,none⟩)->(execOp a.eval o).run E.P w= .ok (.value (.pointer (some ⟨b,off+fl.offset,none⟩))) w:=by
    intro b off e;have:=tq (P:=E.P) (b:=b) (off:=off) (fl:=fl) w hj.sz (by omega);simp[execOp,ho,e,Instr.fieldAt,run_underlying hu,hfl',Instr.sureAddr,this]
   split at hk
   ·cases hx with
    |one _ _ hx=>
     obtain⟨b,hb,e⟩:=hx;refine⟨_,_,(pp hb ?_),(run _ _ e),hk⟩;rw[add_assoc]
   ·cases hx with
    |one _ _ hx=>
     obtain⟨b,off,us,e,hZ,hl,hc,hd⟩:=hx;obtain⟨hle,hk⟩:=jK hk;refine⟨_,_,(tp ⟨b,off+fl.offset,us.drop fl.offset,rfl,hZ,by simp[hl],λi u hu=>?_,λi x u h1 h2=>?_⟩),(run _ _ e),hk⟩
     ·rw[getElem?_drop]at hu;rw[add_assoc];exact hc _ u hu
     ·rw[getElem?_drop]at h1 h2;exact hd _ x u h1 h2
   ·exact hk.elim
 ·exact hk.elim
theorem kC{t:TypeId}{i:TI}(hi:aS E.P t i){b off:Nat}{us:List Value}(hc:∀j u,us[j]? =some u->w.cell? ⟨b,off+j,none⟩=some u)
  {cs:List AC} (hl:us.length=cs.length) (hr:∀(j:Nat) c u,cs[j]? =some c->us[j]? =some u->dW Z w ρ c u) {K:AV->Prop} (hk:rX i cs K):
  ∃x v,(loadVar t ⟨b,off,none⟩).run E.P w= .ok v w/\bX Z w ρ x v/\K x:=by
 unfold rX at hk;unfold loadVar;split at hk
 ·rename_i hg;obtain⟨hle,hk⟩:=oK hk;refine⟨_,_,?_,.agg _ (us.take i.size) (by simp[hl]) λj c u h1 h2=>?_,hk⟩
  ·have hlen:(us.take i.size).length=i.size:=by simp;omega
   have:=run_loadCells_list (P:=E.P) w ⟨b,off,none⟩ (us.take i.size) (λj u hu=>by
    have hadd:(⟨b,off,none⟩:Addr).add j=⟨b,off+j,none⟩:=by unfold Addr.add;split<;>simp_all
    rw[hadd];rw[getElem?_take]at hu;split at hu
    ·exact hc j u hu
    ·cases hu)
   rw[hlen]at this;simp only[Sem.run_bind,hi.ag,hg,Result.andThen_ok,if_true,hi.sz,this,Sem.run_pure]
  ·rw[getElem?_take]at h1 h2;split at h1
   ·rename_i hlt;rw[if_pos hlt]at h2;exact hr j c u h1 h2
   ·cases h1
 ·rename_i hg;split at hk
  ·rename_i c r;cases us with
   |nil=>simp at hl
   |cons u us=>
    refine⟨_,u,?_,.one _ _ (hr 0 c u rfl rfl),hk⟩;have:=hc 0 u rfl;simp only[Nat.add_zero]at this;simp[hi.ag,hg,this]
  ·exact hk.elim
end
end
section
open Go.RowKit
section
variable {E:bB} {S:bV} {Z:Nat->Prop} {ρ:Nat->Value} {st:ASt} {a:Act} {w:World} {K:ASt->Prop} {o:Oper}
theorem mV{us:List (List Value)}{s:Nat}(h:∀u∈us,u.length=s){k j:Nat}{u:List Value}{v:Value}(hu:us[k]? =some u)(hv:u[j]? =some v):us.flatten[k*s+j]? =some v:=by
 induction us generalizing k with
 |nil=>simp at hu
 |cons x r ih=>
  have hx:x.length=s:=h x (by simp);cases k with
  |zero=>
   simp at hu;subst hu;rw[List.flatten_cons,Nat.zero_mul,zero_add,List.getElem?_append_left (List.getElem?_eq_some_iff.1 hv).1];exact hv
  |succ k=>
   have:=ih (λu hu=>h u (by simp[hu])) (by simpa using hu);rw[List.flatten_cons,List.getElem?_append_right (by rw[hx,add_mul];omega),hx];rw[show(k+1)*s+j-s=k*s+j by rw[add_mul];omega];exact this
theorem jq{us:List (List Value)}{s:Nat}(h:∀u∈us,u.length=s):us.flatten.length=us.length*s:=by
 induction us with
 |nil=>simp
 |cons x r ih=>
  rw[List.flatten_cons,List.length_append,ih λu hu=>h u (by simp[hu]),h x (by simp),List.length_cons,add_mul];omega
theorem yg{e:TypeId}{s n:Nat}{v:Value}{xs:List Value}(h:w.ownsRow 0 e s v n xs){b:Nat}(hb:bQ v=some b):∃cap cur,v= .slice (some ⟨b,0,none⟩) n cap/\w.heap[b]? =some (.cells cur e (0,0))/\n<=cap/\cap<=maxLen/\cur.size=cap*s/\cur.toList.take (n*s)=xs:=by
 rcases h.2 with⟨rfl,_⟩|⟨g,cap,cur,rfl,_,hg,h1,h2,h3,h4⟩
 ·simp[bQ]at hb
 ·simp only[bQ]at hb;injection hb with hb
  subst hb;exact⟨cap,cur,rfl,hg,h1,h2,h3,h4⟩
theorem Sz{e:TypeId}{s n:Nat}{v:Value}{xs:List Value}(h:w.ownsRow 0 e s v n xs)(hn:0<n):∃b,bQ v=some b:=by
 rcases h.2 with⟨rfl,h0⟩|⟨g,cap,cur,rfl,_⟩
 ·omega
 ·exact⟨g,rfl⟩
theorem lO{e:TypeId}{s n:Nat}{v:Value}{xs:List Value}(h:w.ownsRow 0 e s v n xs){b:Nat}(hb:bQ v=some b){i:Nat}{u:Value}(hu:xs[i]? =some u):w.cell? ⟨b,i,none⟩=some u:=by
 obtain⟨cap,cur,_,hg,_,_,_,ht⟩:=yg h hb;rw[cell_of_row w b i cur e (0,0) hg];rw[<-ht,getElem?_take]at hu;split at hu
 ·simpa using hu
 ·cases hu
theorem pg(he:E.Ok)(h:Sim E.W S Z ρ st a w){t:TypeId}{vx:AV}{u:Value}(hx:bX Z w ρ vx u){K:AV->Prop}(hk:rS E st t vx K):
  ∃b off v y,u= .pointer (some ⟨b,off,none⟩)/\(loadVar t ⟨b,off,none⟩).run E.P w= .ok v w/\bX Z w ρ y v/\K y:=by
 obtain⟨i,hi,hk⟩:=bN he hk;have fin:∀{b off:Nat} {v:Value} {y:AV},u= .pointer (some ⟨b,off,none⟩)->(loadVar t ⟨b,off,none⟩).run E.P w= .ok v w->bX Z w ρ y v->K y->∃b off v y,u= .pointer (some ⟨b,off,none⟩)/\(loadVar t ⟨b,off,none⟩).run E.P w= .ok v w/\bX Z w ρ y v/\K y:=
  λe hr hy hk=>⟨_,_,_,_,e,hr,hy,hk⟩
 split at hk
 ·rename_i id k s off _;cases hx with
  |one _ _ hx=>
   obtain⟨b,hb,e⟩:=hx;obtain⟨ob,hob,hk⟩:=co hk;have hrel:=h.ws.obj id ob hob;split at hk
   ·rename_i u' cs;split at hk
    ·obtain⟨b',us,hp,hg,hl,hc⟩:=hrel;rw[hp]at hb;simp only[bQ]at hb;injection hb with hb
     subst hb;obtain⟨hle,hk⟩:=jK hk;rw[Nat.zero_mul,zero_add]at e;obtain⟨y,v,hr,hy,hk⟩:=kC (ρ:=ρ) hi (b:=b') (off:=off) (us:=us.drop off) (λj u hu=>by
      rw[getElem?_drop]at hu;rw[cell_of_row w b' _ _ _ _ hg];simpa using hu) (by simp[hl]) (λj c u h1 h2=>by
      rw[getElem?_drop]at h1 h2;exact hc _ c u h1 h2) hk
     exact fin e hr hy hk
    ·exact hk.elim
   ·rename_i e' s' xs;split at hk
    ·rename_i hs;have hs:=eq_of_beq_eq_true hs;subst hs;obtain⟨us,h0,hl,hxs,hus,hown,hd⟩:=hrel;obtain⟨k',ex,hkk,hex,hk⟩:=hk.h;have hkk:k=k':=by omega
     subst hkk;obtain⟨hle,hk⟩:=jK hk;have hk:=mx hk;have hku:k<us.length:=by rw[hl];exact(List.getElem?_eq_some_iff.1 hex).1
     have hu1:us[k]? =some us[k]:=List.getElem?_eq_getElem hku;have hul:=hus us[k] (List.getElem_mem hku);have hxl:=hxs ex (List.mem_of_getElem? hex);obtain⟨y,v,hr,hy,hk⟩:=kC (ρ:=ρ) hi (b:=b) (off:=k*s+off) (us:=us[k].drop off) (λj u hu=>by
      rw[getElem?_drop]at hu;have:=lO hown hb (mV hus hu1 hu);rwa[add_assoc]) (by simp[hul,hxl]) (λj c u h1 h2=>by
      rw[getElem?_map]at h1;obtain⟨d,h3,rfl⟩:=map_eq_some_iff.1 h1;rw[getElem?_drop]at h3 h2;exact hd k _ ex us[k] d u hex hu1 h3 h2) hk
     exact fin e hr hy hk
    ·exact hk.elim
   ·exact hk.elim
   ·exact hk.elim
   ·exact hk.elim
 ·rename_i cs _;cases hx with
  |one _ _ hx=>
   obtain⟨b,off,us,e,hZ,hl,hc,hd⟩:=hx;have hk:=mx hk;obtain⟨y,v,hr,hy,hk⟩:=kC (ρ:=ρ) hi (b:=b) (off:=off) (us:=us) hc (by simp[hl]) (λj c u h1 h2=>by
    rw[getElem?_map]at h1;obtain⟨d,h3,rfl⟩:=map_eq_some_iff.1 h1;exact hd j d u h3 h2) hk
   exact fin e hr hy hk
 ·exact hk.elim
theorem CM{K:AV->Prop}(he:E.Ok)(h:Sim E.W S Z ρ st a w){t:TypeId}{x:Operand}(ho:o.op= .load t x)
  (hk:aEv st x λx=>rS E st t x K):jm E Z ρ o a w K:=by
 obtain⟨vx,hx,hk⟩:=bn h hk;obtain⟨b,off,v,y,e,hr,hy,hk⟩:=pg he h hx hk;refine⟨_,_,hy,?_,hk⟩;simp[execOp,ho,e,Instr.loadAt,Instr.sureAddr,hr]
theorem NK(he:E.Ok){t:TypeId}{i:TI}(hi:aS E.P t i){us:List Value}{cs:List AC}(hl:us.length=cs.length)(hr:∀(j:Nat) c u,cs[j]? =some c->us[j]? =some u->dW Z w ρ c u){off:Nat}(hoff:off<=cs.length){K:AV->Prop}(hk:rX i (cs.drop off) K):
  ∃x v,(part t us.toArray off).run E.P w= .ok v w/\bX Z w ρ x v/\K x:=by
 unfold rX at hk;unfold part;split at hk
 ·rename_i hg;obtain⟨hle,hk⟩:=oK hk;refine⟨_,.agg ((us.drop off).take i.size).toArray,?_,.agg _ ((us.drop off).take i.size) (by simp[hl]) λj c u h1 h2=>?_,hk⟩
  ·simp only[Sem.run_bind,hi.ag,hg,Result.andThen_ok,if_true,hi.sz,Sem.run_pure];congr 2;simp[List.extract]
  ·rw[getElem?_take]at h1 h2;split at h1
   ·rename_i hlt;rw[if_pos hlt]at h2;rw[getElem?_drop]at h1 h2;exact hr _ c u h1 h2
   ·cases h1
 ·rename_i hg;split at hk
  ·rename_i c r hcs;have h1:cs[off]? =some c:=by
    have:=congrArg (·[0]?) hcs;simpa using this
   have hlt:off<us.length:=by rw[hl];exact(List.getElem?_eq_some_iff.1 h1).1
   refine⟨_,us[off],?_,.one _ _ (hr off c us[off] h1 (List.getElem?_eq_getElem hlt)),hk⟩;simp[hi.ag,hg,hlt]
  ·exact hk.elim
theorem zn{K:AV->Prop}(he:E.Ok)(h:Sim E.W S Z ρ st a w){t:TypeId}{x:Operand}{f:Nat}(ho:o.op= .field t x f)
  (hk:aEv st x λx=>vC E t x f K):jm E Z ρ o a w K:=by
 obtain⟨vx,hx,hk⟩:=bn h hk;unfold vC at hk;split at hk
 ·rename_i cs;obtain⟨i,hi,hk⟩:=bN he hk;split at hk
  ·rename_i fs hfs;obtain⟨fields,hu,hf⟩:=hi.stf hfs;obtain⟨p,hp,hk⟩:=fD hk;obtain⟨j,hj,hk⟩:=bN he hk;obtain⟨hle,hk⟩:=jK hk;rw[<-hf,getElem?_map]at hp;obtain⟨fl,hfl,rfl⟩:=map_eq_some_iff.1 hp;have hfl':fields[f]? =some fl:=by simpa using hfl
   generalize hev:a.eval x=ve at hx;cases hx with
   |agg _ us hl hr=>
    obtain⟨y,v,hrun,hy,hk⟩:=NK (w:=w) (ρ:=ρ) he hj hl hr hle hk;refine⟨_,_,hy,?_,hk⟩;simp[execOp,ho,hev,Instr.field,run_underlying hu,hfl',asAgg,hrun]
  ·exact hk.elim
 ·exact hk.elim
theorem vm{K:AV->Prop}(h:Sim E.W S Z ρ st a w){x:Operand}{i:Nat}(ho:o.op= .extract x i)
  (hk : aEv st x fun x => match x with
   | .tup vs=>ov vs i K
   |_=>False):jm E Z ρ o a w K:=by
 obtain⟨vx,hx,hk⟩:=bn h hk;split at hk
 ·rename_i vs;obtain⟨y,hy,hk⟩:=fD hk;generalize hev:a.eval x=ve at hx;cases hx with
  |tup _ us hl hr=>
   have hlt:i<us.length:=by rw[hl];exact(List.getElem?_eq_some_iff.1 hy).1
   refine⟨_,_,(hr i y us[i] hy (List.getElem?_eq_getElem hlt)),?_,hk⟩;simp[execOp,ho,hev,Instr.extract,hlt]
 ·exact hk.elim
theorem Ov{K:AV->Prop}{F:Prop}(h:Sim E.W S Z ρ st a w){x:Operand}(ho:o.op= .nilCheck x)
  (hk : aEv st x fun x => match x with
   | .one (.ref i k s off)=>K (.one (.ref i k s off))
   | .one (.ptr cs)=>K (.one (.ptr cs))
   | .one (.d (.pv (.func (.func f) a c)))=>K (.one (.d (.pv (.func (.func f) a c))))
   |_=>F):jm E Z ρ o a w K\/F:=by
 obtain⟨vx,hx,hk⟩:=bn h hk;split at hk
 ·have hx':=hx;cases hx with
  |one _ _ hx=>
   obtain⟨b,hb,e⟩:=hx;refine .inl ⟨_,_,hx',?_,hk⟩;simp[execOp,ho,e]
 ·have hx':=hx;cases hx with
  |one _ _ hx=>
   obtain⟨b,off,us,e,_⟩:=hx;refine .inl ⟨_,_,hx',?_,hk⟩;simp[execOp,ho,e]
 ·have e:=cy hx;refine .inl ⟨_,_,hx,?_,hk⟩;simp[execOp,ho,e]
 ·exact .inr hk
theorem vG(h:Sim E.W S Z ρ st a w){x:AV}{v:Value}(hx:bX Z w ρ x v){K:List (List AD)->Prop}(hk:rU st x K):
  ∃(xs:List (List AD)) (A:Option Addr) (cap:Nat),v= .slice A xs.length cap/\xs.length<=cap/\K xs/\∃(s:Nat) (us:List (List Value)),us.length=xs.length/\(∀x∈xs,x.length=s)/\(∀u∈us,u.length=s)/\
   (us.flatten=[]\/∃b off,A=some ⟨b,off,none⟩/\∀(i:Nat) u,us.flatten[i]? =some u->w.cell? ⟨b,off+i,none⟩=some u)/\
   (∀(i j:Nat) x u p q,xs[i]? =some x->us[i]? =some u->x[j]? =some p->u[j]? =some q->bR Z w p q):=by
 unfold rU at hk;split at hk
 ·cases hx with
  |one _ _ hx=>exact⟨[],none,0,hx,Nat.le_refl _,hk,0,[],rfl,by simp,by simp,.inl rfl,by simp⟩
 ·cases hx with
  |one _ _ hx=>
   cases hx with
   |sl xs A cap s us hc hm hl hxs hus hr hd=>
    refine⟨_,A,cap,rfl,hc,hk,s,us,hl,hxs,hus,?_,hd⟩;rcases hr with h0|⟨b,off,hA,_,hcell⟩
    ·exact .inl h0
    ·exact .inr ⟨b,off,hA,hcell⟩
 ·rename_i id;cases hx with
  |one _ _ hx=>
   obtain⟨ob,hob,hk⟩:=co hk;split at hk
   ·rename_i e s xs;obtain⟨us,h0,hl,hxs,hus,hown,hd⟩:=h.ws.obj id _ hob;have hx:v=ρ id:=hx.1;subst hx;rcases hown.2 with⟨hv,hn⟩|⟨g,cap,cur,hv,_,hg,h1,h2,h3,h4⟩
    ·have:xs=[]:=List.eq_nil_of_length_eq_zero hn;subst this;have:us=[]:=List.eq_nil_of_length_eq_zero hl;subst this;exact⟨[],none,0,hv,Nat.le_refl _,hk,s,[],rfl,by simp,by simp,.inl rfl,by simp⟩
    ·refine⟨xs,some ⟨g,0,none⟩,cap,hv,h1,hk,s,us,hl,hxs,hus,.inr ⟨g,0,rfl,λi u hu=>?_⟩,hd⟩;rw[zero_add];exact lO hown (by rw[hv];rfl) hu
   ·exact hk.elim
 ·exact hk.elim
theorem Fq{K:AV->Prop}{F:Prop}(he:E.Ok)(h:Sim E.W S Z ρ st a w){t:TypeId}{ts:Array TypeId}{x:AV}{v:Value}(hx:bX Z w ρ x v)
  (hr:(execOp a.eval o).run E.P w=((Builtin.len_ ts o.type #[v]).run E.P w).andThen λv w=> .ok (.value v) w) (hts:ts[0]? =some t)
  (hk:KS E st t x F K):jm E Z ρ o a w K\/F:=by
 unfold KS at hk;split at hk
 ·have e:=cy hx;subst e;obtain⟨i,hi,hk⟩:=bN he hk;split at hk
  ·rename_i hs;refine .inl ⟨_,_,(cK rfl),?_,hk⟩;rw[hr];simp[Builtin.len_,hts,run_underlying (hi.str hs),goInt]
  ·exact .inr hk
 ·obtain⟨i,hi,hk⟩:=bN he hk;split at hk
  ·rename_i e hs;obtain⟨xs,A,cap,rfl,_,hk,_⟩:=vG h hx hk;refine .inl ⟨_,_,(cK rfl),?_,hk⟩;rw[hr];simp[Builtin.len_,hts,run_underlying (hi.sl hs),goInt]
  ·exact .inr hk
theorem qP{K:AV->Prop}(he:E.Ok)(h:Sim E.W S Z ρ st a w){t:TypeId}{x ix:Operand}(ho:o.op= .indexAddr t x ix)
  (hk:aEv st x λx=>aEv st ix λi=>kW E st t x i K):jm E Z ρ o a w K:=by
 obtain⟨vx,hx,hk⟩:=bn h hk;obtain⟨vi,hi,hk⟩:=bn h hk;unfold kW at hk;split at hk
 ·rename_i ki n;have ei:=cy hi;obtain⟨ti,hti,hk⟩:=bN he hk;split at hk
  ·rename_i e hs;have hu:=hti.sl hs;obtain⟨j,hj,hk⟩:=bN he hk;split at hk
   ·exact hk.elim
   ·rename_i s hjs;have run:∀(b off k len cap:Nat),n=(k:Int)->k<len->a.eval x= .slice (some ⟨b,off,none⟩) len cap->(execOp a.eval o).run E.P w= .ok (.value (.pointer (some ⟨b,off+k*(s+1),none⟩))) w:=by
     intro b off k len cap hn hkl ev;subst hn;have hc:(0:Int)<=(k:Int)/\(k:Int)<(len:Int):=⟨by omega,by omega⟩;have hadd:(⟨b,off,none⟩:Addr).add (k*(s+1))=⟨b,off+k*(s+1),none⟩:=by unfold Addr.add;split<;>simp_all
     have hnk:¬len<=k:=by omega
     simp[execOp,ho,ei,ev,Instr.indexAt,asIntOf,run_underlying hu,hkl,hnk,hj.sz,hjs,hadd]
    split at hk
    ·generalize hev:a.eval x=ve at hx;cases hx with
     |one _ _ hx=>
      cases hx with
      |sl xs A cap s' us hc hm hl hxs hus hr hd=>
       obtain⟨k,ex,hn,hex,hk⟩:=hk.h;split at hk
       ·rename_i hlen;have hlen:=AK hlen;have hkx:=(List.getElem?_eq_some_iff.1 hex).1;have hku:k<us.length:=by rw[hl];exact hkx
        have hu1:us[k]? =some us[k]:=List.getElem?_eq_getElem hku;have hul:=hus us[k] (List.getElem_mem hku);have hxl:=hxs ex (List.mem_of_getElem? hex);have hss:s'=s+1:=by omega
        subst hss;rcases hr with h0|⟨b,off,hA,hZ,hcell⟩
        ·have h1:=jq hus;rw[h0,List.length_nil]at h1;have h2:0<us.length*(s+1):=Nat.mul_pos (by omega) (by omega);omega
        ·subst hA;refine⟨_,_,(tp ⟨b,off+k*(s+1),us[k],rfl,hZ,by omega,λi u hu=>?_,λi p u h1 h2=>hd k i ex us[k] p u hex hu1 h1 h2⟩),(run b off k _ cap hn hkx hev),hk⟩;have:=hcell _ u (mV hus hu1 hu);rwa[add_assoc]
       ·exact hk.elim
    ·obtain⟨ob,hob,hk⟩:=co hk;split at hk
     ·split at hk
      ·rename_i hs';have hs':=eq_of_beq_eq_true hs';subst hs';obtain⟨us,h0,hl,hxs,hus,hown,hd⟩:=h.ws.obj _ _ hob;generalize hev:a.eval x=ve at hx;cases hx with
       |one _ _ hx=>
        have hx:=hx.1;subst hx;obtain⟨k,ex,hn,hex,hk⟩:=hk.h;have hkx:=(List.getElem?_eq_some_iff.1 hex).1;obtain⟨b,hb⟩:=Sz hown (by omega);obtain⟨cap,cur,hv,_⟩:=yg hown hb;refine⟨_,_,(pp hb rfl),?_,hk⟩;have:=run b 0 k _ cap hn hkx (by rw[hev,hv]);rw[zero_add]at this;exact this
      ·exact hk.elim
     ·exact hk.elim
    ·obtain⟨y,hk,hy⟩:=hk.h;generalize hev:a.eval x=ve at hx;cases hx with
     |one _ _ hx=>
      obtain⟨b,off,k,len,cap,e1,e2,e3,e4⟩:=hy S Z w ρ _ h.ws hx;exact⟨_,_,e4,run b off k len cap e2 e3 (hev.trans e1),hk⟩
    ·exact hk.elim
  ·rename_i len e hs;have hu:=hti.arr hs;obtain⟨j,hj,hk⟩:=bN he hk;split at hk
   ·rename_i id k s off _h1 _h2 _h3;obtain⟨i,hn,hlt,hk⟩:=hk.h;generalize hev:a.eval x=ve at hx;cases hx with
    |one _ _ hx=>
     obtain⟨b,hb,rfl⟩:=hx;refine⟨_,_,pp hb rfl,?_,hk⟩;subst hn;have hadd:(⟨b,k*s+off,none⟩:Addr).add (i*j.size)=⟨b,k*s+(off+i*j.size),none⟩:=by
      unfold Addr.add;split
      ·rename_i h0;rw[h0,Nat.add_zero]
      ·simp only[add_assoc]
     have hnk:¬len<=i:=by omega
     simp[execOp,ho,ei,hev,Instr.indexAt,asIntOf,run_underlying hu,hlt,hnk,hj.sz,Instr.sureAddr,hadd]
   ·exact hk.elim
  ·exact hk.elim
 ·exact hk.elim
theorem zo{K:AV->Prop}{F:Prop}(he:E.Ok)(h:Sim E.W S Z ρ st a w){t:TypeId}{x ix:Operand}(ho:o.op= .index t x ix)
  (hk:aEv st x λx=>aEv st ix λi=>xM E t x i F K):jm E Z ρ o a w K\/F:=by
 obtain⟨vx,hx,hk⟩:=bn h hk;obtain⟨vi,hi,hk⟩:=bn h hk;unfold xM at hk;split at hk
 ·rename_i s ki n;have ei:=cy hi;have ex:=cy hx;obtain⟨ti,hti,hk⟩:=bN he hk;split at hk
  ·rename_i hs;have hu:=hti.str hs;obtain⟨k,b,hn,hb,hk2⟩:=hk;subst hn;refine .inl ⟨_,_,(cK rfl),?_,hk2⟩;simp[execOp,ho,ei,ex,Instr.index,asIntOf,run_underlying hu,hb]
  ·exact .inr hk
 ·exact .inr hk
theorem vz(h:Sim E.W S Z ρ st a w){x:Option Operand}{K:Option Int->Prop}(hk:Aq st x K):(x=none/\K none)\/∃y k n,x=some y/\a.eval y= .int k n/\K (some n):=by
 unfold Aq at hk;split at hk
 ·exact .inl ⟨rfl,hk⟩
 ·rename_i y;obtain⟨v,hv,hk⟩:=bn h hk;split at hk
  ·exact .inr ⟨y,_,_,rfl,cy hv,hk⟩
  ·exact hk.elim
theorem Nc{P:Program}{len cap:Nat}(isSl:Bool)(hc:len<=cap){lo hi:Option Int}{lv hv:Option Value}(hlo:(lo=none/\lv=none)\/∃k n,lo=some n/\lv=some (.int k n))(hhi:(hi=none/\hv=none)\/∃k n,hi=some n/\hv=some (.int k n))
  {l h:Nat} (h1:Oj lo l) (h2:IO len hi h) (h3:l<=h) (h4:h<=len) (w:World):
  (Instr.sliceBounds isSl len cap lv hv none).run P w= .ok (l,h,cap) w:=by
 have c1:∀k,(Instr.sliceBound (.int k (h:Int)) cap (if isSl then .sliceAcap else .sliceAlen)).run P w= .ok h w:=λk=>by
  rw[run_sliceBound _ _ _ _ _ (by omega) (by omega)];simp
 have c2:∀k,(Instr.sliceBound (.int k (l:Int)) h .sliceB).run P w= .ok l w:=λk=>by
  rw[run_sliceBound _ _ _ _ _ (by omega) (by omega)];simp
 rcases hlo with⟨rfl,rfl⟩|⟨kl,nl,rfl,rfl⟩<;>rcases hhi with⟨rfl,rfl⟩|⟨kh,nh,rfl,rfl⟩
 ·simp only[Oj,IO]at h1 h2;subst h1 h2;simp[Instr.sliceBounds]
 ·simp only[Oj,IO]at h1 h2;subst h1 h2;simp[Instr.sliceBounds,c1]
 ·simp only[Oj,IO]at h1 h2;subst h1 h2;simp[Instr.sliceBounds,c2]
 ·simp only[Oj,IO]at h1 h2;subst h1 h2;simp[Instr.sliceBounds,c1,c2]
theorem zq{K:AV->Prop}{F:Prop}(he:E.Ok)(h:Sim E.W S Z ρ st a w){t:TypeId}{x:Operand}{lo hi:Option Operand}(ho:o.op= .slice t x lo hi none)
  (hk:aEv st x λx=>Bi E st t x lo hi F K):jm E Z ρ o a w K\/F:=by
 obtain⟨vx,hx,hk⟩:=bn h hk;unfold Bi at hk;have main:∀(lo' hi':Option Int),((lo'=none/\lo.map a.eval=none)\/∃k n,lo'=some n/\lo.map a.eval=some (.int k n))->((hi'=none/\hi.map a.eval=none)\/∃k n,hi'=some n/\hi.map a.eval=some (.int k n))->
   aTI E.T t (wt E vx lo' hi' F K)->jm E Z ρ o a w K\/F:=by
  intro lo' hi' hlo hhi hk;obtain⟨i,hi0,hk1⟩:=bN he hk;clear hk;unfold wt at hk1;split at hk1
  ·split at hk1
   ·rename_i hs;have e:=cy hx;obtain⟨l,h0,h1,h2,h3,h4,hk2⟩:=hk1;refine .inl ⟨_,_,(cK rfl),?_,hk2⟩;have hu:=hi0.str hs;have:=Nc (P:=E.P) false (Nat.le_refl _) hlo hhi h1 h2 h3 h4 w;simp only[execOp,ho,e,Instr.sliceAt,Instr.slice,Sem.run_bind,run_underlying hu,Result.andThen_ok,map_none,Option.isSome_none,Bool.false_eq_true,if_false,this,Sem.run_pure]
   ·exact .inr hk1
  ·rename_i xs;split at hk1;rotate_left
   ·exact .inr hk1
   rename_i e hs;have hu:=hi0.sl hs;obtain⟨j,hj,hk2⟩:=bN he hk1;clear hk1;obtain⟨l,h0,h1,h2,h3,h4,hsz,hk⟩:=hk2;generalize hev:a.eval x=ve at hx;cases hx with
   |one _ _ hx=>
    cases hx with
    |sl _ A cap s us hc hm hl hxs hus hr hd=>
     have:=Nc (P:=E.P) true hc hlo hhi h1 h2 h3 h4 w;have hrun:∃A',(execOp a.eval o).run E.P w= .ok (.value (.slice A' (h0-l) (cap-l))) w/\A'=(if cap=l then A else A.map (·.add (l*j.size))):=by
      refine⟨_,?_,rfl⟩;simp only[execOp,ho,hev,Instr.sliceAt,Instr.slice,Sem.run_bind,run_underlying hu,Result.andThen_ok,map_none,this,hj.sz,Sem.run_pure]
     obtain⟨A',hrun,hA'⟩:=hrun;have hlen:((xs.take h0).drop l).length=h0-l:=by simp;omega
     refine .inl ⟨_,_,(QS ?_),hrun,hk⟩;show bR Z w (.sl ((xs.take h0).drop l)) (.slice A' (h0-l) (cap-l));rw[<-hlen];refine .sl _ A' (cap-l) s ((us.take h0).drop l) (by rw[hlen];omega) (by omega) (by simp[hl]) (λx hx=>hxs x (mem_of_mem_take (List.mem_of_mem_drop hx))) (λu hu=>hus u (mem_of_mem_take (List.mem_of_mem_drop hu))) ?_ (λi k x u p q h5 h6 h7 h8=>?_)
     ·by_cases hemp:((us.take h0).drop l).flatten=[]
      ·exact .inl hemp
      ·rcases hr with hr|⟨b,off,hA,hZ,hcell⟩
       ·refine absurd (List.flatten_eq_nil_iff.2 λu hu=>?_) hemp;exact List.flatten_eq_nil_iff.1 hr u (mem_of_mem_take (List.mem_of_mem_drop hu))
       ·have hlt:l<h0:=by
         rcases Nat.lt_or_ge l h0 with h|h
         ·exact h
         ·refine absurd ?_ hemp;rw[List.drop_of_length_le (by simp;omega)];rfl
        have hxe:xs≠ []:=by intro e;subst e;simp at h4;omega
        obtain⟨x0,hx0⟩:=List.exists_mem_of_ne_nil xs hxe;have hsj:s=j.size:=(hxs x0 hx0).symm.trans (hsz x0 hx0);rw[if_neg (by omega),hA]at hA';refine .inr ⟨b,off+l*s,?_,hZ,λi u hu=>?_⟩
        ·rw[hA',hsj];simp only[Option.map_some,Addr.add];split
         ·rename_i e;simp[e]
         ·rfl
        ·have e1:us.flatten=(us.take l).flatten++(((us.take h0).drop l).flatten++(us.drop h0).flatten):=by
          rw[<-List.flatten_append,<-List.flatten_append];congr 1;have e2:us.take l=(us.take h0).take l:=by rw[List.take_take,Nat.min_eq_left h3]
          rw[e2,<-List.append_assoc,List.take_append_drop,List.take_append_drop]
         have e3:(us.take l).flatten.length=l*s:=by
          rw[jq λu hu=>hus u (mem_of_mem_take hu),List.length_take,Nat.min_eq_left (by omega)]
         have:=hcell (l*s+i) u (by
          rw[e1,List.getElem?_append_right (by omega),e3,Nat.add_sub_cancel_left,List.getElem?_append_left (List.getElem?_eq_some_iff.1 hu).1];exact hu)
         rwa[<-add_assoc]at this
     ·rw[getElem?_drop]at h5 h6;rw[getElem?_take]at h5 h6;split at h5
      ·rename_i hlt;rw[if_pos hlt]at h6;exact hd _ k x u p q h5 h6 h7 h8
      ·cases h5
  ·exact .inr hk1
 rcases vz h hk with⟨e1,hk1⟩|⟨y,k,n,e1,hy,hk1⟩
 ·rcases vz h hk1 with⟨e2,hk2⟩|⟨y2,k2,n2,e2,hy2,hk2⟩
  ·exact main none none (.inl ⟨rfl,by rw[e1];rfl⟩) (.inl ⟨rfl,by rw[e2];rfl⟩) hk2
  ·exact main none (some n2) (.inl ⟨rfl,by rw[e1];rfl⟩) (.inr ⟨k2,n2,rfl,by simp[e2,hy2]⟩) hk2
 ·rcases vz h hk1 with⟨e2,hk2⟩|⟨y2,k2,n2,e2,hy2,hk2⟩
  ·exact main (some n) none (.inr ⟨k,n,rfl,by simp[e1,hy]⟩) (.inl ⟨rfl,by rw[e2];rfl⟩) hk2
  ·exact main (some n) (some n2) (.inr ⟨k,n,rfl,by simp[e1,hy]⟩) (.inr ⟨k2,n2,rfl,by simp[e2,hy2]⟩) hk2
end
end
end Go.Proofs.YtknefkdcokgpbaaGreat
