/- AvPL -/
import Derived.Test.YtknefkdcokgpbaaGreatAvJ3
set_option maxHeartbeats 8000000
set_option linter.unusedVariables false
set_option linter.unusedSimpArgs false
set_option maxRecDepth 100000
open List (getElem?_append_left getElem?_append_right getElem?_eq_getElem mem_of_getElem?)
namespace Go.Proofs.YtknefkdcokgpbaaGreat
section
open Go.RowKit
variable {Z:Nat->Prop}{u:Value}{w:World}{E:bB}
def zN:AD->Value
 | .pv v=>v
 |_=>undef
def AD.isPv:AD->Bool
 | .pv _=>true
 |_=>false
def AP1.pl:AP1->Value
 | .one d=>zN d
 | .agg ds=> .agg (ds.map zN).toArray
def AP1.isPl:AP1->Bool
 | .one d=>d.isPv
 | .agg ds=>ds.all AD.isPv
theorem uo{d:AD}(h:d.isPv=true)(hr:bR Z w d u):u=zN d:=by
 cases hr with
 |pv=>rfl
 |sl=>cases h
 |x=>cases h
theorem M9{p:AP1}(h:p.isPl=true)(hr:dE Z w p u):u=p.pl:=by
 cases p with
 |one d=>exact uo h hr
 |agg ds=>
  obtain⟨us,rfl,hl,hh⟩:=hr;have:us=ds.map zN:=by
   apply List.ext_getElem?;intro i;rw[List.getElem?_map];cases hd:ds[i]? with
   |none=>rw[List.getElem?_eq_none];rfl;rw[hl];exact List.getElem?_eq_none_iff.1 hd
   |some d=>
    have hlt:i<us.length:=by rw[hl];exact(List.getElem?_eq_some_iff.1 hd).1
    rw[List.getElem?_eq_getElem hlt];have hp:d.isPv=true:=List.all_eq_true.1 h d (List.mem_of_getElem? hd);simp[uo hp (hh i d us[i] hd (List.getElem?_eq_getElem hlt))]
  rw[this];rfl
theorem Wq(he:E.Ok)(h:GZ E.W Z w):E.W w:=by
 obtain⟨w1,h1,h2,_⟩:=h;exact he.below w1 w h1 h2
theorem aM.plain(he:E.Ok){f:FuncId}{args:List AP1}{v:Value}(enter:∀(us:Array Value) w,(callFunc f us).run E.P w= .ok (.enter f us) w)(hp:args.all AP1.isPl=true)(hv:v.oneCell'=true)
  (h:∀w,E.W w->Calls E.P f (args.map AP1.pl).toArray w λe w'=>e= .returned v/\Below w.heap.size w w'):aM E f args (.val (.one (.pv v))):=by
 refine⟨enter,λZ w us hz hg hl hr=>?_⟩;have:us=args.map AP1.pl:=by
  apply List.ext_getElem?;intro i;rw[List.getElem?_map];cases hd:args[i]? with
  |none=>rw[List.getElem?_eq_none];rfl;rw[hl];exact List.getElem?_eq_none_iff.1 hd
  |some d=>
   have hlt:i<us.length:=by rw[hl];exact(List.getElem?_eq_some_iff.1 hd).1
   rw[List.getElem?_eq_getElem hlt];have hp:d.isPl=true:=List.all_eq_true.1 hp d (List.mem_of_getElem? hd);simp[M9 hp (hr i d us[i] hd (List.getElem?_eq_getElem hlt))]
 subst this;refine(h w (Wq he hg)).mono ?_;rintro e w' ⟨rfl,hb⟩;exact⟨v,Z,rfl,hb,λ_ h=>h,λ_ h=> .inl h,.pv v hv⟩
end
section
open Go.RowKit
theorem dy{α:Type}{us:List (List α)}{s:Nat}(h:∀u∈us,u.length=s):∀{k r:Nat} {u:List α},us[k]? =some u->r<s->us.flatten[k*s+r]? =u[r]? :=by
 induction us with
 |nil=>intro k r u hu;simp at hu
 |cons x l ih=>
  intro k r u hu hr;have hx:=h x aj;cases k with
  |zero=>
   simp at hu;subst hu;rw[List.flatten_cons,Nat.zero_mul,Nat.zero_add,getElem?_append_left ac]
  |succ k=>
   rw[List.flatten_cons,getElem?_append_right (by rw[hx,Nat.succ_mul];omega),hx,show(k+1)*s+r-s=k*s+r by rw[Nat.succ_mul];omega];exact ih (λu hu=>h u (by simp[hu])) (by simpa using hu) hr
theorem eh{α:Type}{us:List (List α)}{s:Nat}(h:∀u∈us,u.length=s):us.flatten.length=us.length*s:=by
 induction us with
 |nil=>simp
 |cons x l ih=>rw[List.flatten_cons,List.length_append,ih λu hu=>h u (by simp[hu]),h x aj,List.length_cons,Nat.succ_mul];omega
inductive bW (w:World):(Nat->Prop)->AD->Value->Prop
 |pv (P:Nat->Prop) (v:Value) (h1:v.oneCell'=true):bW w P (.pv v) v
 |emp (P:Nat->Prop) (A:Option Addr) (cap:Nat) (hm:cap<=maxLen):bW w P (.sl []) (.slice A 0 cap)
 |sl (P:Nat->Prop) (xs:List (List AD)) (e:TypeId) (s:Nat) (us:List (List Value)) (v:Value) (Q:Nat->Nat->Prop)
   (hs:0<s) (hl:us.length=xs.length) (hx:∀x∈xs,x.length=s) (hu:∀u∈us,u.length=s)
   (hown:w.ownsRow 0 e s v xs.length us.flatten)
   (hb:∀b,bQ v=some b->P b/\∀i,¬Q i b) (hQ:∀i b,Q i b->P b) (hd:∀i j b,Q i b->Q j b->i=j)
   (h:∀(i:Nat) a u,xs.flatten[i]? =some a->us.flatten[i]? =some u->bW w (Q i) a u):bW w P (.sl xs) v
section
variable {w w':World} {P P':Nat->Prop} {d:AD} {v:Value}
theorem bW.mono(hp:∀b,P b->P' b)(h:bW w P d v):bW w P' d v:=by
 cases h with
 |pv P v h1=>exact .pv _ _ h1
 |emp P A cap hm=>exact .emp _ A cap hm
 |sl P xs e s us v Q hs hl hx hu hown hb hQ hd h=>exact .sl _ xs e s us _ Q hs hl hx hu hown (λb e=>⟨hp b (hb b e).1,(hb b e).2⟩) (λi b q=>hp b (hQ i b q)) hd h
theorem bW.keep(h:bW w P d v)(hk:∀b,P b->w'.heap[b]? =w.heap[b]?):bW w' P d v:=by
 induction h with
 |pv P v h1=>exact .pv _ v h1
 |emp P A cap hm=>exact .emp _ A cap hm
 |sl P xs e s us v Q hs hl hx hu hown hb hQ hd h ih=>
  refine .sl _ xs e s us v Q hs hl hx hu ⟨hown.1,?_⟩ hb hQ hd λi a u ha hu=>ih i a u ha hu λb q=>hk b (hQ i b q);rcases hown.2 with h0|⟨g,cap,cur,hv,hbg,hg,r⟩
  ·exact .inl h0
  ·exact .inr ⟨g,cap,cur,hv,hbg,(hk g (hb g (by rw[hv];rfl)).1).trans hg,r⟩
theorem bW.one(h:bW w P d v):v.oneCell'=true:=by
 cases h with
 |pv P v h1=>exact h1
 |emp P A cap hm=>rfl
 |sl P xs e s us v Q hs hl hx hu hown hb hQ hd h=>rcases hown.2 with⟨hv,_⟩|⟨g,cap,cur,hv,_⟩<;>rw[hv]<;>rfl
theorem bW.relD{Z:Nat->Prop}(h:bW w P d v)(hz:∀b,P b->Z b):bR Z w d v:=by
 induction h with
 |pv P v h1=>exact .pv v h1
 |emp P A cap hm=>exact .sl [] A cap 1 [] (Nat.zero_le _) hm rfl aj aj (.inl rfl) aj
 |sl P xs e s us v Q hs hl hx hu hown hb hQ hd h ih=>
  have key:∀(i j:Nat) x u a b,xs[i]? =some x->us[i]? =some u->x[j]? =some a->u[j]? =some b->bR Z w a b:=λi j x u a b h1 h2 h3 h4=>by
   have hj:j<s:=by rw[<-hx x (mem_of_getElem? h1)];exact(List.getElem?_eq_some_iff.1 h3).1
   exact ih (i*s+j) a b (by rw[dy hx h1 hj];exact h3) (by rw[dy hu h2 hj];exact h4) λb q=>hz b (hQ _ b q)
  rcases hown.2 with⟨hv,hn⟩|⟨g,cap,cur,hv,_,hg,h1,h2,h3,h4⟩
  ·have:xs=[]:=List.eq_nil_of_length_eq_zero hn;subst this hv;exact .sl [] none 0 0 [] (Nat.le_refl _) (Nat.zero_le _) rfl aj aj (.inl rfl) aj
  ·subst hv;exact .sl xs _ cap s us h1 h2 hl hx hu (.inr ⟨g,0,rfl,hz g (hb g rfl).1,λi u hu=>by rw[Nat.zero_add];exact lO hown rfl hu⟩) key
end
def cV(w:World)(P:Nat->Prop)(ds:List AD)(us:List Value):Prop:=
 us.length=ds.length/\∃Q:Nat->Nat->Prop,(∀i b,Q i b->P b)/\(∀i j b,Q i b->Q j b->i=j)/\∀(i:Nat) a u,ds[i]? =some a->us[i]? =some u->bW w (Q i) a u
section
variable {w w':World} {P P1 P2 P':Nat->Prop} {ds d1 d2:List AD} {us u1 u2:List Value}
theorem cV.mono(hp:∀b,P b->P' b)(h:cV w P ds us):cV w P' ds us:=by
 obtain⟨l,Q,q,e,r⟩:=h;exact⟨l,Q,λi b h=>hp b (q i b h),e,r⟩
theorem cV.keep(h:cV w P ds us)(hk:∀b,P b->w'.heap[b]? =w.heap[b]?):cV w' P ds us:=by
 obtain⟨l,Q,q,e,r⟩:=h;exact⟨l,Q,q,e,λi a u ha hu=>(r i a u ha hu).keep λb h=>hk b (q i b h)⟩
theorem cV.nil:cV w P [] []:=⟨rfl,λ_ _=>False,λ_ _ h=>h.elim,λ_ _ _ h=>h.elim,λi a u ha=>by simp at ha⟩
theorem cV.append(h1:cV w P1 d1 u1)(h2:cV w P2 d2 u2)(hd:∀b,P1 b->P2 b->False)(a1:∀b,P1 b->P b)(a2:∀b,P2 b->P b):cV w P (d1++d2) (u1++u2):=by
 obtain⟨l1,Q1,q1,e1,r1⟩:=h1;obtain⟨l2,Q2,q2,e2,r2⟩:=h2;refine⟨by simp[l1,l2],λi b=>if i<d1.length then Q1 i b else Q2 (i-d1.length) b,?_,?_,?_⟩
 ·intro i b h;split at h
  ·exact a1 b (q1 _ _ h)
  ·exact a2 b (q2 _ _ h)
 ·intro i j b h h';split at h<;>split at h'
  ·exact e1 i j b h h'
  ·exact(hd b (q1 _ _ h) (q2 _ _ h')).elim
  ·exact(hd b (q1 _ _ h') (q2 _ _ h)).elim
  ·have:=e2 _ _ b h h';omega
 ·intro i a u ha hu;by_cases hi:i<d1.length
  ·rw[getElem?_append_left hi]at ha;rw[getElem?_append_left ac]at hu;simp only[if_pos hi];exact r1 i a u ha hu
  ·rw[getElem?_append_right ac]at ha;rw[getElem?_append_right ac,l1]at hu;simp only[if_neg hi];exact r2 _ a u ha hu
theorem cV.split(h:cV w P (d1++d2) us):∃(u1 u2:List Value) (P1 P2:Nat->Prop),us=u1++u2/\(∀b,P1 b->P2 b->False)/\(∀b,P1 b->P b)/\(∀b,P2 b->P b)/\cV w P1 d1 u1/\cV w P2 d2 u2:=by
 obtain⟨l,Q,q,e,r⟩:=h;have hl:us.length=d1.length+d2.length:=by simpa using l
 refine⟨us.take d1.length,us.drop d1.length,λb=>∃i,i<d1.length/\Q i b,λb=>∃i,Q (d1.length+i) b,(List.take_append_drop _ _).symm,?_,?_,?_,⟨by simp;omega,λi b=>i<d1.length/\Q i b,?_,?_,?_⟩,⟨by simp;omega,λi b=>Q (d1.length+i) b,?_,?_,?_⟩⟩
 ·rintro b ⟨i,hi,h1⟩ ⟨j,h2⟩;have:=e _ _ _ h1 h2;omega
 ·rintro b ⟨i,_,h⟩;exact q _ _ h
 ·rintro b ⟨i,h⟩;exact q _ _ h
 ·rintro i b ⟨hi,h⟩;exact⟨i,hi,h⟩
 ·rintro i j b ⟨_,h⟩ ⟨_,h'⟩;exact e _ _ _ h h'
 ·intro i a u ha hu;have hi:i<d1.length:=(List.getElem?_eq_some_iff.1 ha).1;refine(r i a u (by rw[getElem?_append_left hi];exact ha) ?_).mono λb h=>⟨hi,h⟩;rw[List.getElem?_take,if_pos hi]at hu;exact hu
 ·intro i b h;exact⟨i,h⟩
 ·intro i j b h h';have:=e _ _ _ h h';omega
 ·intro i a u ha hu;refine r _ a u (by rw[getElem?_append_right ac];simpa using ha) ?_;rw[List.getElem?_drop]at hu;exact hu
theorem cV.one{d:AD}{v:Value}(h:bW w P d v):cV w P [d] [v]:=by
 refine⟨rfl,λi b=>i=0/\P b,λi b h=>h.2,λi j b h h'=>by omega,λi a u ha hu=>?_⟩;cases i with
 |zero=>simp at ha hu;subst ha hu;exact h.mono λb hb=>⟨rfl,hb⟩
 |succ i=>simp at ha
theorem cV.get{i:Nat}{a:AD}{u:Value}(h:cV w P ds us)(ha:ds[i]? =some a)(hu:us[i]? =some u):bW w P a u:=by
 obtain⟨l,Q,q,e,r⟩:=h;exact(r i a u ha hu).mono λb h=>q i b h
theorem cV.relD{Z:Nat->Prop}(h:cV w P ds us)(hz:∀b,P b->Z b):us.length=ds.length/\∀(i:Nat) a u,ds[i]? =some a->us[i]? =some u->bR Z w a u:=⟨h.1,λi a u ha hu=>(h.get ha hu).relD hz⟩
end
def Fam(lo hi:Nat)(cs ds:List AD):Prop:=
 cs.length=ds.length/\∀(Z:Nat->Prop) (w:World) (us:List Value),us.length=cs.length->(∀(i:Nat) c u,cs[i]? =some c->us[i]? =some u->bR Z w c u)->cV w (λb=>lo<=b/\b<hi/\Z b) ds us
def AD.isBl:AD->Bool
 | .pv _=>true
 | .sl []=>true
 |_=>false
theorem Hz{Z P:Nat->Prop}{w:World}{d:AD}{u:Value}(hb:d.isBl=true)(h:bR Z w d u):bW w P d u:=by
 cases h with
 |pv _ h1=>exact .pv _ _ h1
 |sl xs A cap s us hc hm hl hx hu hr h=>
  cases xs with
  |nil=>exact .emp _ _ _ hm
  |cons x r=>cases hb
 |x R _ h1 h=>cases hb
theorem Ya{lo hi:Nat}{ds:List AD}(h:ds.all AD.isBl=true):Fam lo hi ds ds:=by
 refine⟨rfl,λZ w us hl hr=>⟨hl,λ_ _=>False,λ_ _ h=>h.elim,λ_ _ _ h=>h.elim,λi a u ha hu=>?_⟩⟩;exact Hz (List.all_eq_true.1 h a (mem_of_getElem? ha)) (hr i a u ha hu)
theorem Fam.mono{lo hi lo' hi':Nat}{cs ds:List AD}(h:Fam lo hi cs ds)(h1:lo'<=lo)(h2:hi<=hi'):Fam lo' hi' cs ds:=
 ⟨h.1,λZ w us hl hr=>(h.2 Z w us hl hr).mono λb hb=>⟨ac,ac,hb.2.2⟩⟩
theorem Fam.app{lo m l2 h2:Nat}{c1 d1 c2 d2:List AD}(h:Fam lo m c1 d1)(h':Fam l2 h2 c2 d2)(e1:m<=l2)(e2:lo<=m)(e3:m<=h2):Fam lo h2 (c1++c2) (d1++d2):=by
 refine⟨by simp[h.1,h'.1],λZ w us hl hr=>?_⟩;have hlen:us.length=c1.length+c2.length:=by simpa using hl
 have t1:=h.2 Z w (us.take c1.length) al λi c u hc hu=>by
  have hi:i<c1.length:=(List.getElem?_eq_some_iff.1 hc).1;rw[List.getElem?_take,if_pos hi]at hu;exact hr i c u (by rw[getElem?_append_left hi];exact hc) hu
 have t2:=h'.2 Z w (us.drop c1.length) al λi c u hc hu=>by
  rw[List.getElem?_drop]at hu;exact hr _ c u (by rw[getElem?_append_right ac];simpa using hc) hu
 have:=t1.append (P:=λb=>lo<=b/\b<h2/\Z b) t2 (λb p q=>by omega) (λb p=>⟨p.1,ac,p.2.2⟩) λb p=>⟨ac,p.2.1,p.2.2⟩;rwa[List.take_append_drop]at this
theorem Fam.flat_set{lo m l2 h2:Nat}{cs ds:List (List AD)}{c d:List AD}(h:Fam lo m cs.flatten ds.flatten)(h':Fam l2 h2 c d)(e1:m<=l2)(e2:lo<=m)(e3:m<=h2):Fam lo h2 (cs++[c]).flatten (ds++[d]).flatten:=by
 rw[List.flatten_append,List.flatten_append];simpa using h.app h' e1 e2 e3
def zH(lo hi:Nat)(w:World):AP1->Value->Prop
 | .one d,v=>cV w (λb=>lo<=b/\b<hi) [d] [v]
 | .agg ds,v=>∃us:List Value,v= .agg us.toArray/\cV w (λb=>lo<=b/\b<hi) ds us
structure ce (E:bB) (f:FuncId) (args:List AP1) (res:AP1):Prop where
 enter:∀(us:Array Value) w,(callFunc f us).run E.P w= .ok (.enter f us) w
 run:∀(Z:Nat->Prop) (w:World) (us:List Value),(∀b,Z b->b<w.heap.size)->GZ E.W Z w->us.length=args.length->(∀(i:Nat) p u,args[i]? =some p->us[i]? =some u->dE Z w p u)->
  Calls E.P f us.toArray w λe w'=>∃v,e= .returned v/\Below w.heap.size w w'/\zH w.heap.size w'.heap.size w' res v
theorem zH.relP{lo hi:Nat}{w:World}{p:AP1}{v:Value}{Z:Nat->Prop}(h:zH lo hi w p v)(hz:∀b,lo<=b->b<hi->Z b):dE Z w p v:=by
 cases p with
 |one d=>exact(cV.relD h λb hb=>hz b hb.1 hb.2).2 0 d v rfl rfl
 |agg ds=>
  obtain⟨us,rfl,h⟩:=h;have:=cV.relD h λb hb=>hz b hb.1 hb.2;exact⟨us,rfl,this.1,this.2⟩
theorem ce.pcall{E:bB}{f:FuncId}{args:List AP1}{res:AP1}(h:ce E f args res):aM E f args (.val res):=by
 refine⟨h.enter,λZ w us hz hg hl hr=>(h.run Z w us hz hg hl hr).mono ?_⟩;rintro e w' ⟨v,rfl,hb,hv⟩;exact⟨v,λb=>Z b\/(w.heap.size<=b/\b<w'.heap.size),rfl,hb,λb hb=> .inl hb,λb hb=>hb,hv.relP λb h1 h2=> .inr ⟨h1,h2⟩⟩
def Rm(n m:Nat):(Nat->Prop)->World->Value->Prop:=λZ _ _=>m<=n\/∃k,m=k+1/\Z k
def cH(n m:Nat):AO:= .frame [.one (.d (.x (Rm n m)))] [.bool true]
theorem je{Z:Nat->Prop}{w:World}{ρ:Nat->Value}{id n m:Nat}(hρ:ρ id=undef)(h:m<=n\/∃k,m=k+1/\Z k):cQ Z w ρ id (cH n m):=by
 refine⟨hρ,rfl,λi x u hx hu=>?_⟩;cases i with
 |zero=>
  simp at hx hu;subst hx hu;refine .one _ _ (show bR Z w (.x (Rm n m)) (.bool true)from .x _ _ rfl λZ' w' hz hb=>?_);rcases h with h|⟨k,e,h⟩
  ·exact .inl h
  ·exact .inr ⟨k,e,hz k h⟩
 |succ i=>simp at hx
theorem td{Z:Nat->Prop}{w:World}{ρ:Nat->Value}{id n m:Nat}(h:cQ Z w ρ id (cH n m)):m<=n\/∃k,m=k+1/\Z k:=by
 have:=h.2.2 0 _ _ rfl rfl;cases this with
 |one _ _ h=>
  have h:bR Z w (.x (Rm n m)) (.bool true):=h;cases h with
  |x R v h1 h=>exact h Z w (λ_ h=>h) λ_ _=>rfl
theorem WS.reframe{T:World->Prop}{S:bV}{Z:Nat->Prop}{w:World}{ρ:Nat->Value}{ob:List (Nat×AO)}(h:WS T S Z w ρ ob){id:Nat}{vs:List AV}{us:List Value}(hrel:cQ Z w ρ id (.frame vs us)):WS T S Z w ρ (fj ob id (.frame vs us)):=by
 have nob:bQ (ρ id)=none:=by rw[hrel.1];rfl
 refine⟨h.os,h.tape,h.output,h.size,h.old,h.zlt,λj o b ho hb=>?_,λi j oi oj b hi hj hij hbi hbj=>?_,λj o ho=>?_,⟨λj P Q ho=>?_,λi j P Q P' Q' hi hj=>?_⟩,h.g,h.z0,h.znew⟩
 ·rw[cz]at ho;split at ho
  ·rename_i e;subst e;rw[nob]at hb;cases hb
  ·exact h.mine j o b ho hb
 ·rw[cz]at hi hj;split at hi
  ·rename_i e;subst e;rw[nob]at hbi;cases hbi
  ·split at hj
   ·rename_i e;subst e;rw[nob]at hbj;cases hbj
   ·exact h.sep i j oi oj b hi hj hij hbi hbj
 ·rw[cz]at ho;split at ho
  ·rename_i e;subst e;injection ho with ho;subst ho;exact hrel.up
  ·exact h.obj j o ho
 ·rw[cz]at ho;split at ho
  ·cases ho
  ·obtain⟨h1,h2⟩:=h.many.ok j P Q ho;refine⟨λb hb=>⟨(h1 b hb).1,(h1 b hb).2.1,(h1 b hb).2.2.1,λi o hi hbi=>?_⟩,h2⟩;rw[cz]at hi;split at hi
   ·rename_i e;subst e;rw[nob]at hbi;cases hbi
   ·exact(h1 b hb).2.2.2 i o hi hbi
 ·rw[cz]at hi hj;split at hi
  ·cases hi
  ·split at hj
   ·cases hj
   ·exact h.many.sep i j P Q P' Q' hi hj
def bS(R:Nat->(Nat->Prop)->World->Value->Prop):Nat->List AD->List AD
 |_,[]=>[]
 |i,.pv v::r=> .pv v::bS R (i+1) r
 |i,_::r=> .x (R i)::bS R (i+1) r
def JI(R:Nat->(Nat->Prop)->World->Value->Prop):AP1->AV
 | .one (.pv v)=> .one (.d (.pv v))
 | .one _=> .one (.d (.x (R 0)))
 | .agg ds=> .agg ((bS R 0 ds).map .d)
def eA:AP1->List AD
 | .one d=>[d]
 | .agg ds=>ds
theorem dq(R:Nat->(Nat->Prop)->World->Value->Prop):∀(ds:List AD) (i:Nat),(bS R i ds).length=ds.length
 |[],_=>rfl
 | .pv _::r,i=>by simp[bS,dq R r]
 | .sl _::r,i=>by simp[bS,dq R r]
 | .x _::r,i=>by simp[bS,dq R r]
theorem iS(R:Nat->(Nat->Prop)->World->Value->Prop):∀{ds:List AD} {k i:Nat} {c:AD},(bS R k ds)[i]? =some c->∃d,ds[i]? =some d/\((∃v,d= .pv v/\c= .pv v)\/c= .x (R (k+i)))
 |[],_,_,_,h=>by simp[bS]at h
 |d::r,k,0,c,h=>by
  refine⟨d,rfl,?_⟩;cases d with
  |pv v=>simp[bS]at h;exact .inl ⟨v,rfl,h.symm⟩
  |sl xs=>simp[bS]at h;exact .inr h.symm
  |x R'=>simp[bS]at h;exact .inr h.symm
 |d::r,k,i+1,c,h=>by
  have h':(bS R (k+1) r)[i]? =some c:=by cases d<;>simpa[bS]using h
  obtain⟨d',h1,h2⟩:=iS R h';refine⟨d',by simpa using h1,?_⟩;rcases h2 with h2|h2
  ·exact .inl h2
  ·exact .inr (by rw[h2];congr 2;omega)
section
variable {E:bB} {S:bV}
theorem X6{f:FuncId}{args:List AV}{tm:List AV}{ob:List (Nat×AO)}{K:AV->ASt->Prop}{ps:List AP1}{res:AP1}{m:Nat}(hc:ce E f ps res)(hps:aRs ob args (· =ps))(hm:aOb ob 9997 λo=>o=cH S.w0.heap.size m)
  (hk:∀R lo hi,m<=lo->lo<=hi->Fam lo hi (bS R 0 (eA res)) (eA res)->gH 9997 (cH S.w0.heap.size hi) ob λob=>K (JI R res) ⟨tm,ob⟩):aG E S f args ⟨tm,ob⟩ K:=by
 refine⟨hc.enter,λZ ρ a w us hs hl hr=>?_⟩;obtain⟨ps',h1,h2,rfl⟩:=fX hs.ws hl hr hps;obtain⟨o,ho,rfl⟩:=co hm;have hmark:=td (hs.ws.obj 9997 _ ho);have hρ:ρ 9997=undef:=(hs.ws.obj 9997 _ ho).1;have hmle:m<=w.heap.size:=by
  rcases hmark with h|⟨k,e,h⟩
  ·exact Nat.le_trans h hs.ws.size
  ·have:=hs.ws.zlt k h;omega
 refine(hc.run (gG Z ρ ob) w us (gG.lt hs.ws) ?_ h1 h2).mono ?_
 ·obtain⟨w1,g1,g2,g3⟩:=hs.ws.g;exact⟨w1,g1,g2,λb hb=> .inl (g3 b hb)⟩
 ·rintro e w' ⟨v,rfl,hb,hv⟩;have hsz:=hb.size;obtain⟨us',hf,hvu⟩:∃us',cV w' (λb=>w.heap.size<=b/\b<w'.heap.size) (eA res) us'/\(match res with| .one _=>us'=[v]| .agg _=>v= .agg us'.toArray):=by
   cases res with
   |one d=>exact⟨[v],hv,rfl⟩
   |agg ds=>obtain⟨us',e,h⟩:=hv;exact⟨us',h,e⟩
  obtain⟨lF,Q,q,eQ,rQ⟩:=hf;let R:Nat->(Nat->Prop)->World->Value->Prop:=λi Zx wx u=>(∀b,Q i b->Zx b)/\∃a,(eA res)[i]? =some a/\bW wx (Q i) a u
  let Z':Nat->Prop:=λb=>Z b\/(w.heap.size<=b/\b<w'.heap.size)
  have hg:=hs.grow (Z':=Z') (dL hb) (λb h=> .inl h) λb h=>h;have hcell:∀(i:Nat) c u,(bS R 0 (eA res))[i]? =some c->us'[i]? =some u->bR Z' w' c u:=by
   intro i c u hc hu;obtain⟨d,hd,h⟩:=iS R hc;have ht:=rQ i d u hd hu;rcases h with⟨x,rfl,rfl⟩|h
   ·cases ht with|pv _ _ h1=>exact .pv _ h1
   ·rw[Nat.zero_add]at h;subst h;refine .x _ _ ht.one λZx wx hzx hbx=>⟨λb hb=>hzx b (.inr (q i b hb)),d,hd,ht.keep λb hb=>hbx b (.inr (q i b hb))⟩
  have hfam:∀lo hi:Nat,(∀b,w.heap.size<=b->b<w'.heap.size->lo<=b/\b<hi)->Fam lo hi (bS R 0 (eA res)) (eA res):=by
   intro lo hi hlh;refine⟨dq R _ _,λZx wx ux hl hr=>⟨by rw[hl,dq],λi b=>Q i b/\Zx b,λi b h=>?_,λi j b h h'=>eQ i j b h.1 h'.1,λi a u ha hu=>?_⟩⟩
   ·have:=hlh b (q i b h.1).1 (q i b h.1).2;exact⟨this.1,this.2,h.2⟩
   ·have hi:i<(bS R 0 (eA res)).length:=by rw[dq];exact(List.getElem?_eq_some_iff.1 ha).1
    obtain⟨d,hd,h⟩:=iS R (getElem?_eq_getElem hi);have hrel:=hr i _ u (getElem?_eq_getElem hi) hu;rw[ha]at hd;injection hd with hd
    subst hd;rcases h with⟨x,e1,e2⟩|h
    ·rw[e2]at hrel;rw[e1];cases hrel with|pv _ h1=>exact .pv _ _ h1
    ·rw[h,Nat.zero_add]at hrel;cases hrel with
     |x _ _ h1 hR=>
      obtain⟨hz,a',ha',ht⟩:=hR Zx wx (λ_ h=>h) λ_ _=>rfl;rw[ha]at ha';injection ha' with ha'
      subst ha';exact ht.mono λb hb=>⟨hb,hz b hb⟩
  have hval:bX Z' w' ρ (JI R res) v:=by
   cases res with
   |one d=>
    simp only at hvu;subst hvu;cases d with
    |pv x=>exact .one _ _ (hcell 0 (.pv x) v rfl rfl)
    |sl xs=>exact .one _ _ (hcell 0 (.x (R 0)) v rfl rfl)
    |x R'=>exact .one _ _ (hcell 0 (.x (R 0)) v rfl rfl)
   |agg ds=>
    simp only at hvu;subst hvu;refine .agg _ us' (by rw[List.length_map,dq];exact lF) λi c u hc hu=>?_;rw[List.getElem?_map]at hc;obtain⟨d,hd,rfl⟩:=Option.map_eq_some_iff.1 hc;exact hcell i d u hd hu
  have fin:∀hi:Nat,(hi<=S.w0.heap.size\/∃k,hi=k+1/\Z' k)->Sim E.W S Z' ρ ⟨tm,fj ob 9997 (cH S.w0.heap.size hi)⟩ a w':=λhi h=>
   ⟨hg.ws.reframe (je hρ h),hg.len,hg.tm,hg.df⟩
  by_cases hlt:w.heap.size<w'.heap.size
  ·refine⟨v,_,_,Z',ρ,rfl,fin w'.heap.size (.inr ⟨w'.heap.size-1,ac,.inr ac⟩),hval,dl (K:=λob=>K (JI R res) ⟨tm,ob⟩) (hk R w.heap.size w'.heap.size hmle hsz (hfam _ _ λb h1 h2=>⟨h1,h2⟩))⟩
  ·refine⟨v,_,_,Z',ρ,rfl,fin m ?_,hval,dl (K:=λob=>K (JI R res) ⟨tm,ob⟩) (hk R m m (Nat.le_refl _) (Nat.le_refl _) (hfam _ _ λb h1 h2=>by omega))⟩;rcases hmark with h|⟨k,e,h⟩
   ·exact .inl h
   ·exact .inr ⟨k,e,.inl h⟩
def MD(ob:List (Nat×AO))(n:Nat)(x:AV)(res:AP1):Prop:=
 match x with
 | .one .nil=>res= .one (.sl [])
 | .one (.own id)=>aOb ob id λo=>match o with
  | .row _ s xs=>∃(lo hi:Nat) (ys:List (List AD)),n<=lo/\Fam lo hi xs.flatten ys.flatten/\ys.length=xs.length/\(∀y∈ys,y.length=s)/\res= .one (.sl ys)
  |_=>False
 | .one (.d c)=>∃(lo hi:Nat) (d:AD),n<=lo/\Fam lo hi [c] [d]/\res= .one d
 | .agg cs=>Ii cs λcs'=>∃(lo hi:Nat) (ds:List AD),n<=lo/\Fam lo hi cs' ds/\res= .agg ds
 |_=>False
def Id(E:bB)(st:ASt)(n:Nat)(rs:List ResultVar)(res:AP1):Prop:=
 match rs with
 |[.tmp t]=>aTm st.tm t λv=>MD st.ob n v res
 |[.cell t ty]=>aTm st.tm t λx=>rS E st ty x λv=>MD st.ob n v res
 |_=>False
def Ws(E:bB)(rs:List ResultVar)(n:Nat)(res:AP1):Exit->ASt->Prop
 | .ret,st=>Id E st n rs res
 | .normal,st=>Id E st n rs res
 |_,_=>False
theorem Eo{st:ASt}{Z:Nat->Prop}{ρ:Nat->Value}{w:World}(h:WS E.W S Z w ρ st.ob)(hO:∀b,¬S.O b){x:AV}{v:Value}{res:AP1}(hv:bX Z w ρ x v)(hk:MD st.ob S.w0.heap.size x res):zH S.w0.heap.size w.heap.size w res v:=by
 have up:∀{lo hi:Nat} {ds us},S.w0.heap.size<=lo->cV w (λb=>lo<=b/\b<hi/\Z b) ds us->cV w (λb=>S.w0.heap.size<=b/\b<w.heap.size) ds us:=λhn hf=>hf.mono λb hb=>⟨ac,h.zlt b hb.2.2⟩;unfold MD at hk;split at hk
 ·subst hk;cases hv with
  |one _ _ hv=>
   have hv:v= .slice none 0 0:=hv;subst hv;exact .one (.emp _ _ _ (Nat.zero_le _))
 ·rename_i id;obtain⟨o,ho,hk⟩:=co hk;split at hk
  ·rename_i e s xs;obtain⟨lo,hi,ys,hn,hf,hyl,hys,rfl⟩:=hk;obtain⟨us,h0,hl,hxs,hus,hown,hd⟩:=h.obj id _ ho;cases hv with
   |one _ _ hv=>
    have hv:v=ρ id:=hv.1;subst hv;have hlx:xs.flatten.length=xs.length*s:=eh hxs;obtain⟨lF,Q,q,eQ,rQ⟩:=hf.2 Z w us.flatten (by rw[eh hus,hlx,hl]) λi c u hc hu=>by
     have hi:i<xs.length*s:=by rw[<-hlx];exact(List.getElem?_eq_some_iff.1 hc).1
     have hs:0<s:=h0;have hdm:i=i/s*s+i % s:=(Nat.div_add_mod' i s).symm;have hr:i % s<s:=Nat.mod_lt _ hs;have hk:i/s<xs.length:=Nat.div_lt_of_lt_mul (by rw[Nat.mul_comm];exact hi);rw[hdm,dy hxs (getElem?_eq_getElem hk) hr]at hc;rw[hdm,dy hus (getElem?_eq_getElem ac) hr]at hu;exact hd _ _ _ _ c u (getElem?_eq_getElem hk) (getElem?_eq_getElem ac) hc hu
    refine .one (.sl _ ys e s us _ Q h0 (by rw[hl,hyl]) hys hus (by rw[hyl];exact hown) (λb hb=>?_) (λi b hb=>⟨by have:=(q i b hb).1;omega,h.zlt b (q i b hb).2.2⟩) eQ rQ);have hm:=h.mine id _ b ho hb;exact⟨⟨hm.2.resolve_right (hO b),h.lt ho hb⟩,λi hq=>hm.1 (q i b hq).2.2⟩
  ·exact hk.elim
 ·obtain⟨lo,hi,d,hn,hf,rfl⟩:=hk;cases hv with
  |one _ _ hv=>
   refine up hn (hf.2 Z w [v] rfl λi c' u hc hu=>?_);cases i with
   |zero=>simp at hc hu;subst hc hu;exact hv
   |succ i=>simp at hc
 ·rename_i cs;obtain⟨cs',hk,hl',hr'⟩:=mP hk;obtain⟨lo,hi,ds,hn,hf,rfl⟩:=hk;cases hv with
  |agg _ us hl hr=>
   refine⟨us,rfl,up hn (hf.2 Z w us (by rw[hl,hl']) λi c u hc hu=>?_)⟩;have hi:i<cs.length:=by rw[<-hl'];exact(List.getElem?_eq_some_iff.1 hc).1
   exact hr' i c cs[i] u hc (getElem?_eq_getElem hi) (hr i _ u (getElem?_eq_getElem hi) hu)
 ·exact hk.elim
theorem NH{st:ASt}(he:E.Ok){Z:Nat->Prop}{ρ:Nat->Value}{a:Act}{w:World}(h:Sim E.W S Z ρ st a w)(hO:∀b,¬S.O b){fn:Func}{res:AP1}(hk:Id E st S.w0.heap.size fn.results.toList res):
  ∃v,(results fn a.tmps).run E.P w= .ok v w/\zH S.w0.heap.size w.heap.size w res v:=by
 have hres:∀vs:List Value,(fn.results.toList.mapM (dZ a.tmps)).run E.P w= .ok vs w->(results fn a.tmps).run E.P w= .ok (if h:vs.toArray.size=1 then vs.toArray[0]else .tuple vs.toArray) w:=by
  intro vs hvs;have e:results fn a.tmps=(do let vs<-fn.results.mapM (dZ a.tmps);pure (if h:vs.size=1 then vs[0]else .tuple vs)):=rfl;rw[e,Sem.run_bind,Array.mapM_eq_mapM_toList,Sem.run_map,hvs];rfl
 unfold Id at hk;split at hk
 ·rename_i t hr;obtain⟨x,hx,hk⟩:=iY hk;have hlt:t<a.tmps.size:=by rw[h.len];exact(List.getElem?_eq_some_iff.1 hx).1
  have hp:=Eo h.ws hO (h.tm t x _ hx (Array.getElem?_eq_getElem hlt)) hk;have h1:(dZ a.tmps (.tmp t)).run E.P w= .ok a.tmps[t] w:=by simp[dZ,hlt]
  have:=hres [a.tmps[t]] (by rw[hr,List.mapM_cons,Sem.run_bind,h1];rfl);exact⟨a.tmps[t],this,hp⟩
 ·rename_i t ty hr;obtain⟨x,hx,hk⟩:=iY hk;have hlt:t<a.tmps.size:=by rw[h.len];exact(List.getElem?_eq_some_iff.1 hx).1
  obtain⟨b,off,v,y,e,hrl,hy,hk⟩:=pg he h (h.tm t x _ hx (Array.getElem?_eq_getElem hlt)) hk;have hp:=Eo h.ws hO hy hk;have h1:(dZ a.tmps (.cell t ty)).run E.P w= .ok v w:=by simp[dZ,hlt,e,asAddr,hrl]
  have:=hres [v] (by rw[hr,List.mapM_cons,Sem.run_bind,h1];rfl);exact⟨v,this,hp⟩
 ·exact hk.elim
theorem ck(he:E.Ok){f:FuncId}{fn:Func}{c:Code}{n:Nat}{rs:List ResultVar}{args:List AP1}{res:AP1}(hf:E.P.funcs[f]? =some fn)(hb:fn.body=some c)
  (enter:∀(us:Array Value) w,(callFunc f us).run E.P w= .ok (.enter f us) w) (hn:fn.ntmps=n) (hrs:fn.results.toList=rs)
  (h:∀S:bV,uS args n λtm=>AWP E S c (Ws E rs S.w0.heap.size res) ⟨tm,[(9997,cH S.w0.heap.size S.w0.heap.size)]⟩):ce E f args res:=by
 refine⟨enter,λZ w us hz hg hl hr=>?_⟩;subst hn hrs;obtain⟨hle,hk⟩:=jL (h ⟨w,λ_=>False,Z⟩);have hs:Sim E.W ⟨w,λ_=>False,Z⟩ Z (λ_=>undef) ⟨args.map AP1.v++List.replicate (fn.ntmps-args.length) (.one .und),[(9997,cH w.heap.size w.heap.size)]⟩ {tmps:=us.toArray++Array.replicate (fn.ntmps-us.toArray.size) undef,defers:=[]} w:=by
  have hw0:WS E.W ⟨w,λ_=>False,Z⟩ Z w (λ_=>undef) []:=⟨rfl,rfl,rfl,Nat.le_refl _,λ_ _ _=>rfl,hz,λid o b ho _=>(by cases ho),λi j oi oj b hi _ _ _ _=>(by cases hi),λid o ho=>(by cases ho),jI.nil,hg,λb hb=>hb,λb hb=> .inl hb⟩;refine⟨hw0.reframe (id:=9997) (je rfl (.inl (Nat.le_refl _))),by simp[hl],λi x v hx hv=>?_,rfl⟩;simp only at hx hv;have hv':(us++List.replicate (fn.ntmps-us.length) undef)[i]? =some v:=by
   have:=hv;rw[<-Array.getElem?_toList]at this;simpa using this
  by_cases hi:i<us.length
  ·rw[getElem?_append_left (by simpa[hl]using hi),List.getElem?_map]at hx;obtain⟨p,hp,rfl⟩:=Option.map_eq_some_iff.1 hx;rw[getElem?_append_left hi]at hv';exact(hr i p v hp hv').v
  ·rw[getElem?_append_right al]at hx;rw[getElem?_append_right ac]at hv';have e1:=List.eq_of_mem_replicate (mem_of_getElem? hx);have e2:=List.eq_of_mem_replicate (mem_of_getElem? hv');subst e1 e2;exact .one _ _ (show dW Z w (λ_=>undef) .und undef from rfl)
 refine calls_of_wp hf hb (wp_mono (hk.run _ w ⟨Z,_,hs⟩) λe a' w' h'=>?_);obtain⟨st',⟨Z',ρ',hs'⟩,hk'⟩:=h';have fin:Id E st' w.heap.size fn.results.toList res->a'.defers=[]/\∃v,(results fn a'.tmps).run E.P w'= .ok v w'/\∃v0,Ending.returned v= .returned v0/\Below w.heap.size w w'/\zH w.heap.size w'.heap.size w' res v0:=by
  intro hr;obtain⟨v,h1,h2⟩:=NH he hs' (λb h=>h) hr;exact⟨hs'.df,v,h1,v,rfl,⟨hs'.ws.os,hs'.ws.tape,hs'.ws.output,hs'.ws.size,λb hb=>hs'.ws.old b hb (λh=>h)⟩,h2⟩
 cases e with
 |normal=>exact fin hk'
 |ret=>exact fin hk'
 |_=>exact hk'.elim
end
end
open Go.RowKit
theorem xm{Z:Nat->Prop}{w:World}{ρ:Nat->Value}{v:Value}:∀{ds:List AD},ds.all AD.isPv=true->bX Z w ρ (.agg (ds.map .d)) v->v= .agg (ds.map zN).toArray:=by
 intro ds hp h;cases h with
 |agg _ us hl h=>
  have:us=ds.map zN:=by
   apply List.ext_getElem
   ·simpa using hl
   ·intro i h1 h2;have hi:i<ds.length:=by simpa using h2
    have hr:=h i (.d ds[i]) us[i] (by simp[hi]) (by simp[h1]);have:=uo (List.all_eq_true.1 hp ds[i] (List.getElem_mem hi)) (show bR Z w ds[i] us[i]from hr);simpa using this
  rw[this]
end Go.Proofs.YtknefkdcokgpbaaGreat
