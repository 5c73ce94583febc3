/- AvFC -/
import Derived.Test.YthgkdhnlehneeaaGreatDoorAvDT
import Derived.Test.YthgkdhnlehneeaaGreatDoorAwx
set_option maxHeartbeats 8000000
set_option linter.unusedVariables false
set_option linter.unusedSimpArgs false
set_option maxRecDepth 100000
open List (getElem?_append_left getElem?_append_right getElem?_eq_getElem getElem_mem mem_append mem_of_getElem? mem_singleton)
open Bool (and_eq_true or_eq_true)
namespace Go.Proofs.YthgkdhnlehneeaaGreatDoor
section
open Go.RowKit
theorem qe{α:Type}{us:List (List α)}{s:Nat}(h:∀u∈us,u.length=s):∀{k r:Nat} {u:List α},us[k]? =some u->r<s->us.flatten[k*s+r]? =u[r]? :=by
 induction us with
 |nil=>intro k r u hu;simp at hu
 |cons x l ih=>
  intro k r u hu hr;have hx:=h x ah;cases k with
  |zero=>
   simp at hu;subst hu;rw[List.flatten_cons,Nat.zero_mul,Nat.zero_add,getElem?_append_left ac]
  |succ k=>
   rw[List.flatten_cons,getElem?_append_right (by rw[hx,Nat.succ_mul];omega),hx,show(k+1)*s+r-s=k*s+r by rw[Nat.succ_mul];omega];exact ih (λu hu=>h u (by simp[hu])) (by simpa using hu) hr
theorem wS{α:Type}{us:List (List α)}{s:Nat}(h:∀u∈us,u.length=s):us.flatten.length=us.length*s:=by
 induction us with
 |nil=>simp
 |cons x l ih=>rw[List.flatten_cons,List.length_append,ih λu hu=>h u (by simp[hu]),h x ah,List.length_cons,Nat.succ_mul];omega
inductive nD (w:World):(Nat->Prop)->AD->Value->Prop
 |pv (P:Nat->Prop) (v:Value) (h1:v.oneCell'=true):nD w P (.pv v) v
 |emp (P:Nat->Prop) (A:Option Addr) (cap:Nat) (hm:cap<=maxLen):nD w P (.sl []) (.slice A 0 cap)
 |sl (P:Nat->Prop) (xs:List (List AD)) (e:TypeId) (s:Nat) (us:List (List Value)) (v:Value) (Q:Nat->Nat->Prop)
   (hs:0<s) (hl:us.length=xs.length) (hx:∀x∈xs,x.length=s) (hu:∀u∈us,u.length=s)
   (hown:w.ownsRow 0 e s v xs.length us.flatten)
   (hb:∀b,ch v=some b->P b/\∀i,¬Q i b) (hQ:∀i b,Q i b->P b) (hd:∀i j b,Q i b->Q j b->i=j)
   (h:∀(i:Nat) a u,xs.flatten[i]? =some a->us.flatten[i]? =some u->nD w (Q i) a u):nD w P (.sl xs) v
section
variable {w w':World} {P P':Nat->Prop} {d:AD} {v:Value}
theorem nD.mono(hp:∀b,P b->P' b)(h:nD w P d v):nD w P' d v:=by
 cases h with
 |pv P v h1=>exact .pv _ _ h1
 |emp P A cap hm=>exact .emp _ A cap hm
 |sl P xs e s us v Q hs hl hx hu hown hb hQ hd h=>exact .sl _ xs e s us _ Q hs hl hx hu hown (λb e=>⟨hp b (hb b e).1,(hb b e).2⟩) (λi b q=>hp b (hQ i b q)) hd h
theorem nD.keep(h:nD w P d v)(hk:∀b,P b->w'.heap[b]? =w.heap[b]?):nD w' P d v:=by
 induction h with
 |pv P v h1=>exact .pv _ v h1
 |emp P A cap hm=>exact .emp _ A cap hm
 |sl P xs e s us v Q hs hl hx hu hown hb hQ hd h ih=>
  refine .sl _ xs e s us v Q hs hl hx hu ⟨hown.1,?_⟩ hb hQ hd λi a u ha hu=>ih i a u ha hu λb q=>hk b (hQ i b q);rcases hown.2 with h0|⟨g,cap,cur,hv,hbg,hg,r⟩
  ·exact .inl h0
  ·exact .inr ⟨g,cap,cur,hv,hbg,(hk g (hb g (by rw[hv];rfl)).1).trans hg,r⟩
theorem nD.one(h:nD w P d v):v.oneCell'=true:=by
 cases h with
 |pv P v h1=>exact h1
 |emp P A cap hm=>rfl
 |sl P xs e s us v Q hs hl hx hu hown hb hQ hd h=>rcases hown.2 with⟨hv,_⟩|⟨g,cap,cur,hv,_⟩<;>rw[hv]<;>rfl
theorem nD.relD{Z:Nat->Prop}(h:nD w P d v)(hz:∀b,P b->Z b):co Z w d v:=by
 induction h with
 |pv P v h1=>exact .pv v h1
 |emp P A cap hm=>exact .sl [] A cap 1 [] (Nat.zero_le _) hm rfl ah ah (.inl rfl) ah
 |sl P xs e s us v Q hs hl hx hu hown hb hQ hd h ih=>
  have key:∀(i j:Nat) x u a b,xs[i]? =some x->us[i]? =some u->x[j]? =some a->u[j]? =some b->co Z w a b:=λi j x u a b h1 h2 h3 h4=>by
   have hj:j<s:=by rw[<-hx x (mem_of_getElem? h1)];exact(List.getElem?_eq_some_iff.1 h3).1
   exact ih (i*s+j) a b (by rw[qe hx h1 hj];exact h3) (by rw[qe hu h2 hj];exact h4) λb q=>hz b (hQ _ b q)
  rcases hown.2 with⟨hv,hn⟩|⟨g,cap,cur,hv,_,hg,h1,h2,h3,h4⟩
  ·have:xs=[]:=List.eq_nil_of_length_eq_zero hn;subst this hv;exact .sl [] none 0 0 [] (Nat.le_refl _) (Nat.zero_le _) rfl ah ah (.inl rfl) ah
  ·subst hv;exact .sl xs _ cap s us h1 h2 hl hx hu (.inr ⟨g,0,rfl,hz g (hb g rfl).1,λi u hu=>by rw[Nat.zero_add];exact qt hown rfl hu⟩) key
end
def fm(w:World)(P:Nat->Prop)(ds:List AD)(us:List Value):Prop:=
 us.length=ds.length/\∃Q:Nat->Nat->Prop,(∀i b,Q i b->P b)/\(∀i j b,Q i b->Q j b->i=j)/\∀(i:Nat) a u,ds[i]? =some a->us[i]? =some u->nD w (Q i) a u
section
variable {w w':World} {P P1 P2 P':Nat->Prop} {ds d1 d2:List AD} {us u1 u2:List Value}
theorem fm.mono(hp:∀b,P b->P' b)(h:fm w P ds us):fm w P' ds us:=by
 obtain⟨l,Q,q,e,r⟩:=h;exact⟨l,Q,λi b h=>hp b (q i b h),e,r⟩
theorem fm.keep(h:fm w P ds us)(hk:∀b,P b->w'.heap[b]? =w.heap[b]?):fm w' P ds us:=by
 obtain⟨l,Q,q,e,r⟩:=h;exact⟨l,Q,q,e,λi a u ha hu=>(r i a u ha hu).keep λb h=>hk b (q i b h)⟩
theorem fm.nil:fm w P [] []:=⟨rfl,λ_ _=>False,λ_ _ h=>h.elim,λ_ _ _ h=>h.elim,λi a u ha=>by simp at ha⟩
theorem fm.append(h1:fm w P1 d1 u1)(h2:fm w P2 d2 u2)(hd:∀b,P1 b->P2 b->False)(a1:∀b,P1 b->P b)(a2:∀b,P2 b->P b):fm w P (d1++d2) (u1++u2):=by
 obtain⟨l1,Q1,q1,e1,r1⟩:=h1;obtain⟨l2,Q2,q2,e2,r2⟩:=h2;refine⟨by simp[l1,l2],λi b=>if i<d1.length then Q1 i b else Q2 (i-d1.length) b,?_,?_,?_⟩
 ·intro i b h;split at h
  ·exact a1 b (q1 _ _ h)
  ·exact a2 b (q2 _ _ h)
 ·intro i j b h h';split at h<;>split at h'
  ·exact e1 i j b h h'
  ·exact(hd b (q1 _ _ h) (q2 _ _ h')).elim
  ·exact(hd b (q1 _ _ h') (q2 _ _ h)).elim
  ·have:=e2 _ _ b h h';omega
 ·intro i a u ha hu;by_cases hi:i<d1.length
  ·rw[getElem?_append_left hi]at ha;rw[getElem?_append_left ac]at hu;simp only[if_pos hi];exact r1 i a u ha hu
  ·rw[getElem?_append_right ac]at ha;rw[getElem?_append_right ac,l1]at hu;simp only[if_neg hi];exact r2 _ a u ha hu
theorem fm.split(h:fm w P (d1++d2) us):∃(u1 u2:List Value) (P1 P2:Nat->Prop),us=u1++u2/\(∀b,P1 b->P2 b->False)/\(∀b,P1 b->P b)/\(∀b,P2 b->P b)/\fm w P1 d1 u1/\fm w P2 d2 u2:=by
 obtain⟨l,Q,q,e,r⟩:=h;have hl:us.length=d1.length+d2.length:=by simpa using l
 refine⟨us.take d1.length,us.drop d1.length,λb=>∃i,i<d1.length/\Q i b,λb=>∃i,Q (d1.length+i) b,(List.take_append_drop _ _).symm,?_,?_,?_,⟨by simp;omega,λi b=>i<d1.length/\Q i b,?_,?_,?_⟩,⟨by simp;omega,λi b=>Q (d1.length+i) b,?_,?_,?_⟩⟩
 ·rintro b ⟨i,hi,h1⟩ ⟨j,h2⟩;have:=e _ _ _ h1 h2;omega
 ·rintro b ⟨i,_,h⟩;exact q _ _ h
 ·rintro b ⟨i,h⟩;exact q _ _ h
 ·rintro i b ⟨hi,h⟩;exact⟨i,hi,h⟩
 ·rintro i j b ⟨_,h⟩ ⟨_,h'⟩;exact e _ _ _ h h'
 ·intro i a u ha hu;have hi:i<d1.length:=(List.getElem?_eq_some_iff.1 ha).1;refine(r i a u (by rw[getElem?_append_left hi];exact ha) ?_).mono λb h=>⟨hi,h⟩;rw[List.getElem?_take,if_pos hi]at hu;exact hu
 ·intro i b h;exact⟨i,h⟩
 ·intro i j b h h';have:=e _ _ _ h h';omega
 ·intro i a u ha hu;refine r _ a u (by rw[getElem?_append_right ac];simpa using ha) ?_;rw[List.getElem?_drop]at hu;exact hu
theorem fm.one{d:AD}{v:Value}(h:nD w P d v):fm w P [d] [v]:=by
 refine⟨rfl,λi b=>i=0/\P b,λi b h=>h.2,λi j b h h'=>by omega,λi a u ha hu=>?_⟩;cases i with
 |zero=>simp at ha hu;subst ha hu;exact h.mono λb hb=>⟨rfl,hb⟩
 |succ i=>simp at ha
theorem fm.get{i:Nat}{a:AD}{u:Value}(h:fm w P ds us)(ha:ds[i]? =some a)(hu:us[i]? =some u):nD w P a u:=by
 obtain⟨l,Q,q,e,r⟩:=h;exact(r i a u ha hu).mono λb h=>q i b h
theorem fm.relD{Z:Nat->Prop}(h:fm w P ds us)(hz:∀b,P b->Z b):us.length=ds.length/\∀(i:Nat) a u,ds[i]? =some a->us[i]? =some u->co Z w a u:=⟨h.1,λi a u ha hu=>(h.get ha hu).relD hz⟩
end
def Fam(lo hi:Nat)(cs ds:List AD):Prop:=
 cs.length=ds.length/\∀(Z:Nat->Prop) (w:World) (us:List Value),us.length=cs.length->(∀(i:Nat) c u,cs[i]? =some c->us[i]? =some u->co Z w c u)->fm w (λb=>lo<=b/\b<hi/\Z b) ds us
def AD.isBl:AD->Bool
 | .pv _=>true
 | .sl []=>true
 |_=>false
theorem QA{Z P:Nat->Prop}{w:World}{d:AD}{u:Value}(hb:d.isBl=true)(h:co Z w d u):nD w P d u:=by
 cases h with
 |pv _ h1=>exact .pv _ _ h1
 |sl xs A cap s us hc hm hl hx hu hr h=>
  cases xs with
  |nil=>exact .emp _ _ _ hm
  |cons x r=>cases hb
 |x R _ h1 h=>cases hb
theorem aaU{lo hi:Nat}{ds:List AD}(h:ds.all AD.isBl=true):Fam lo hi ds ds:=by
 refine⟨rfl,λZ w us hl hr=>⟨hl,λ_ _=>False,λ_ _ h=>h.elim,λ_ _ _ h=>h.elim,λi a u ha hu=>?_⟩⟩;exact QA (List.all_eq_true.1 h a (mem_of_getElem? ha)) (hr i a u ha hu)
theorem Fam.mono{lo hi lo' hi':Nat}{cs ds:List AD}(h:Fam lo hi cs ds)(h1:lo'<=lo)(h2:hi<=hi'):Fam lo' hi' cs ds:=
 ⟨h.1,λZ w us hl hr=>(h.2 Z w us hl hr).mono λb hb=>⟨ac,ac,hb.2.2⟩⟩
theorem Fam.app{lo m l2 h2:Nat}{c1 d1 c2 d2:List AD}(h:Fam lo m c1 d1)(h':Fam l2 h2 c2 d2)(e1:m<=l2)(e2:lo<=m)(e3:m<=h2):Fam lo h2 (c1++c2) (d1++d2):=by
 refine⟨by simp[h.1,h'.1],λZ w us hl hr=>?_⟩;have hlen:us.length=c1.length+c2.length:=by simpa using hl
 have t1:=h.2 Z w (us.take c1.length) al λi c u hc hu=>by
  have hi:i<c1.length:=(List.getElem?_eq_some_iff.1 hc).1;rw[List.getElem?_take,if_pos hi]at hu;exact hr i c u (by rw[getElem?_append_left hi];exact hc) hu
 have t2:=h'.2 Z w (us.drop c1.length) al λi c u hc hu=>by
  rw[List.getElem?_drop]at hu;exact hr _ c u (by rw[getElem?_append_right ac];simpa using hc) hu
 have:=t1.append (P:=λb=>lo<=b/\b<h2/\Z b) t2 (λb p q=>by omega) (λb p=>⟨p.1,ac,p.2.2⟩) λb p=>⟨ac,p.2.1,p.2.2⟩;rwa[List.take_append_drop]at this
theorem Fam.flat_set{lo m l2 h2:Nat}{cs ds:List (List AD)}{c d:List AD}(h:Fam lo m cs.flatten ds.flatten)(h':Fam l2 h2 c d)(e1:m<=l2)(e2:lo<=m)(e3:m<=h2):Fam lo h2 (cs++[c]).flatten (ds++[d]).flatten:=by
 rw[List.flatten_append,List.flatten_append];simpa using h.app h' e1 e2 e3
def Ji(lo hi:Nat)(w:World):AP1->Value->Prop
 | .one d,v=>fm w (λb=>lo<=b/\b<hi) [d] [v]
 | .agg ds,v=>∃us:List Value,v= .agg us.toArray/\fm w (λb=>lo<=b/\b<hi) ds us
structure jt (E:bx) (f:FuncId) (args:List AP1) (res:AP1):Prop where
 enter:∀(us:Array Value) w,(callFunc f us).run E.P w= .ok (.enter f us) w
 run:∀(Z:Nat->Prop) (w:World) (us:List Value),(∀b,Z b->b<w.heap.size)->GZ E.W Z w->us.length=args.length->(∀(i:Nat) p u,args[i]? =some p->us[i]? =some u->fF Z w p u)->
  Calls E.P f us.toArray w λe w'=>∃v,e= .returned v/\Below w.heap.size w w'/\Ji w.heap.size w'.heap.size w' res v
theorem Ji.relP{lo hi:Nat}{w:World}{p:AP1}{v:Value}{Z:Nat->Prop}(h:Ji lo hi w p v)(hz:∀b,lo<=b->b<hi->Z b):fF Z w p v:=by
 cases p with
 |one d=>exact(fm.relD h λb hb=>hz b hb.1 hb.2).2 0 d v rfl rfl
 |agg ds=>
  obtain⟨us,rfl,h⟩:=h;have:=fm.relD h λb hb=>hz b hb.1 hb.2;exact⟨us,rfl,this.1,this.2⟩
theorem jt.pcall{E:bx}{f:FuncId}{args:List AP1}{res:AP1}(h:jt E f args res):aN E f args (.val res):=by
 refine⟨h.enter,λZ w us hz hg hl hr=>(h.run Z w us hz hg hl hr).mono ?_⟩;rintro e w' ⟨v,rfl,hb,hv⟩;exact⟨v,λb=>Z b\/(w.heap.size<=b/\b<w'.heap.size),rfl,hb,λb hb=> .inl hb,λb hb=>hb,hv.relP λb h1 h2=> .inr ⟨h1,h2⟩⟩
def Rm(n m:Nat):(Nat->Prop)->World->Value->Prop:=λZ _ _=>m<=n\/∃k,m=k+1/\Z k
def sR(n m:Nat):AO:= .frame [.one (.d (.x (Rm n m)))] [.bool true]
theorem BE{Z:Nat->Prop}{w:World}{ρ:Nat->Value}{id n m:Nat}(hρ:ρ id=undef)(h:m<=n\/∃k,m=k+1/\Z k):cZ Z w ρ id (sR n m):=by
 refine⟨hρ,rfl,λi x u hx hu=>?_⟩;cases i with
 |zero=>
  simp at hx hu;subst hx hu;refine .one _ _ (show co Z w (.x (Rm n m)) (.bool true)from .x _ _ rfl λZ' w' hz hb=>?_);rcases h with h|⟨k,e,h⟩
  ·exact .inl h
  ·exact .inr ⟨k,e,hz k h⟩
 |succ i=>simp at hx
theorem TS{Z:Nat->Prop}{w:World}{ρ:Nat->Value}{id n m:Nat}(h:cZ Z w ρ id (sR n m)):m<=n\/∃k,m=k+1/\Z k:=by
 have:=h.2.2 0 _ _ rfl rfl;cases this with
 |one _ _ h=>
  have h:co Z w (.x (Rm n m)) (.bool true):=h;cases h with
  |x R v h1 h=>exact h Z w (λ_ h=>h) λ_ _=>rfl
theorem WS.reframe{T:World->Prop}{S:bZ}{Z:Nat->Prop}{w:World}{ρ:Nat->Value}{ob:List (Nat×AO)}(h:WS T S Z w ρ ob){id:Nat}{vs:List AV}{us:List Value}(hrel:cZ Z w ρ id (.frame vs us)):WS T S Z w ρ (jG ob id (.frame vs us)):=by
 have nob:ch (ρ id)=none:=by rw[hrel.1];rfl
 refine⟨h.os,h.tape,h.output,h.size,h.old,h.zlt,λj o b ho hb=>?_,λi j oi oj b hi hj hij hbi hbj=>?_,λj o ho=>?_,⟨λj P Q ho=>?_,λi j P Q P' Q' hi hj=>?_⟩,h.g,h.z0,h.znew⟩
 ·rw[dy]at ho;split at ho
  ·rename_i e;subst e;rw[nob]at hb;cases hb
  ·exact h.mine j o b ho hb
 ·rw[dy]at hi hj;split at hi
  ·rename_i e;subst e;rw[nob]at hbi;cases hbi
  ·split at hj
   ·rename_i e;subst e;rw[nob]at hbj;cases hbj
   ·exact h.sep i j oi oj b hi hj hij hbi hbj
 ·rw[dy]at ho;split at ho
  ·rename_i e;subst e;injection ho with ho;subst ho;exact hrel.up
  ·exact h.obj j o ho
 ·rw[dy]at ho;split at ho
  ·cases ho
  ·obtain⟨h1,h2⟩:=h.many.ok j P Q ho;refine⟨λb hb=>⟨(h1 b hb).1,(h1 b hb).2.1,(h1 b hb).2.2.1,λi o hi hbi=>?_⟩,h2⟩;rw[dy]at hi;split at hi
   ·rename_i e;subst e;rw[nob]at hbi;cases hbi
   ·exact(h1 b hb).2.2.2 i o hi hbi
 ·rw[dy]at hi hj;split at hi
  ·cases hi
  ·split at hj
   ·cases hj
   ·exact h.many.sep i j P Q P' Q' hi hj
def uc(R:Nat->(Nat->Prop)->World->Value->Prop):Nat->List AD->List AD
 |_,[]=>[]
 |i,.pv v::r=> .pv v::uc R (i+1) r
 |i,_::r=> .x (R i)::uc R (i+1) r
def Vi(R:Nat->(Nat->Prop)->World->Value->Prop):AP1->AV
 | .one (.pv v)=> .one (.d (.pv v))
 | .one _=> .one (.d (.x (R 0)))
 | .agg ds=> .agg ((uc R 0 ds).map .d)
def ot:AP1->List AD
 | .one d=>[d]
 | .agg ds=>ds
theorem nX(R:Nat->(Nat->Prop)->World->Value->Prop):∀(ds:List AD) (i:Nat),(uc R i ds).length=ds.length
 |[],_=>rfl
 | .pv _::r,i=>by simp[uc,nX R r]
 | .sl _::r,i=>by simp[uc,nX R r]
 | .x _::r,i=>by simp[uc,nX R r]
theorem Ft(R:Nat->(Nat->Prop)->World->Value->Prop):∀{ds:List AD} {k i:Nat} {c:AD},(uc R k ds)[i]? =some c->∃d,ds[i]? =some d/\((∃v,d= .pv v/\c= .pv v)\/c= .x (R (k+i)))
 |[],_,_,_,h=>by simp[uc]at h
 |d::r,k,0,c,h=>by
  refine⟨d,rfl,?_⟩;cases d with
  |pv v=>simp[uc]at h;exact .inl ⟨v,rfl,h.symm⟩
  |sl xs=>simp[uc]at h;exact .inr h.symm
  |x R'=>simp[uc]at h;exact .inr h.symm
 |d::r,k,i+1,c,h=>by
  have h':(uc R (k+1) r)[i]? =some c:=by cases d<;>simpa[uc]using h
  obtain⟨d',h1,h2⟩:=Ft R h';refine⟨d',by simpa using h1,?_⟩;rcases h2 with h2|h2
  ·exact .inl h2
  ·exact .inr (by rw[h2];congr 2;omega)
section
variable {E:bx} {S:bZ}
theorem aaS{f:FuncId}{args:List AV}{tm:List AV}{ob:List (Nat×AO)}{K:AV->ASt->Prop}{ps:List AP1}{res:AP1}{m:Nat}(hc:jt E f ps res)(hps:aRs ob args (· =ps))(hm:aOb ob 9997 λo=>o=sR S.w0.heap.size m)
  (hk:∀R lo hi,m<=lo->lo<=hi->Fam lo hi (uc R 0 (ot res)) (ot res)->ju 9997 (sR S.w0.heap.size hi) ob λob=>K (Vi R res) ⟨tm,ob⟩):aI E S f args ⟨tm,ob⟩ K:=by
 refine⟨hc.enter,λZ ρ a w us hs hl hr=>?_⟩;obtain⟨ps',h1,h2,rfl⟩:=kO hs.ws hl hr hps;obtain⟨o,ho,rfl⟩:=da hm;have hmark:=TS (hs.ws.obj 9997 _ ho);have hρ:ρ 9997=undef:=(hs.ws.obj 9997 _ ho).1;have hmle:m<=w.heap.size:=by
  rcases hmark with h|⟨k,e,h⟩
  ·exact Nat.le_trans h hs.ws.size
  ·have:=hs.ws.zlt k h;omega
 refine(hc.run (kL Z ρ ob) w us (kL.lt hs.ws) ?_ h1 h2).mono ?_
 ·obtain⟨w1,g1,g2,g3⟩:=hs.ws.g;exact⟨w1,g1,g2,λb hb=> .inl (g3 b hb)⟩
 ·rintro e w' ⟨v,rfl,hb,hv⟩;have hsz:=hb.size;obtain⟨us',hf,hvu⟩:∃us',fm w' (λb=>w.heap.size<=b/\b<w'.heap.size) (ot res) us'/\(match res with| .one _=>us'=[v]| .agg _=>v= .agg us'.toArray):=by
   cases res with
   |one d=>exact⟨[v],hv,rfl⟩
   |agg ds=>obtain⟨us',e,h⟩:=hv;exact⟨us',h,e⟩
  obtain⟨lF,Q,q,eQ,rQ⟩:=hf;let R:Nat->(Nat->Prop)->World->Value->Prop:=λi Zx wx u=>(∀b,Q i b->Zx b)/\∃a,(ot res)[i]? =some a/\nD wx (Q i) a u
  let Z':Nat->Prop:=λb=>Z b\/(w.heap.size<=b/\b<w'.heap.size)
  have hg:=hs.grow (Z':=Z') (gC hb) (λb h=> .inl h) λb h=>h;have hcell:∀(i:Nat) c u,(uc R 0 (ot res))[i]? =some c->us'[i]? =some u->co Z' w' c u:=by
   intro i c u hc hu;obtain⟨d,hd,h⟩:=Ft R hc;have ht:=rQ i d u hd hu;rcases h with⟨x,rfl,rfl⟩|h
   ·cases ht with|pv _ _ h1=>exact .pv _ h1
   ·rw[Nat.zero_add]at h;subst h;refine .x _ _ ht.one λZx wx hzx hbx=>⟨λb hb=>hzx b (.inr (q i b hb)),d,hd,ht.keep λb hb=>hbx b (.inr (q i b hb))⟩
  have hfam:∀lo hi:Nat,(∀b,w.heap.size<=b->b<w'.heap.size->lo<=b/\b<hi)->Fam lo hi (uc R 0 (ot res)) (ot res):=by
   intro lo hi hlh;refine⟨nX R _ _,λZx wx ux hl hr=>⟨by rw[hl,nX],λi b=>Q i b/\Zx b,λi b h=>?_,λi j b h h'=>eQ i j b h.1 h'.1,λi a u ha hu=>?_⟩⟩
   ·have:=hlh b (q i b h.1).1 (q i b h.1).2;exact⟨this.1,this.2,h.2⟩
   ·have hi:i<(uc R 0 (ot res)).length:=by rw[nX];exact(List.getElem?_eq_some_iff.1 ha).1
    obtain⟨d,hd,h⟩:=Ft R (getElem?_eq_getElem hi);have hrel:=hr i _ u (getElem?_eq_getElem hi) hu;rw[ha]at hd;injection hd with hd
    subst hd;rcases h with⟨x,e1,e2⟩|h
    ·rw[e2]at hrel;rw[e1];cases hrel with|pv _ h1=>exact .pv _ _ h1
    ·rw[h,Nat.zero_add]at hrel;cases hrel with
     |x _ _ h1 hR=>
      obtain⟨hz,a',ha',ht⟩:=hR Zx wx (λ_ h=>h) λ_ _=>rfl;rw[ha]at ha';injection ha' with ha'
      subst ha';exact ht.mono λb hb=>⟨hb,hz b hb⟩
  have hval:cu Z' w' ρ (Vi R res) v:=by
   cases res with
   |one d=>
    simp only at hvu;subst hvu;cases d with
    |pv x=>exact .one _ _ (hcell 0 (.pv x) v rfl rfl)
    |sl xs=>exact .one _ _ (hcell 0 (.x (R 0)) v rfl rfl)
    |x R'=>exact .one _ _ (hcell 0 (.x (R 0)) v rfl rfl)
   |agg ds=>
    simp only at hvu;subst hvu;refine .agg _ us' (by rw[List.length_map,nX];exact lF) λi c u hc hu=>?_;rw[List.getElem?_map]at hc;obtain⟨d,hd,rfl⟩:=Option.map_eq_some_iff.1 hc;exact hcell i d u hd hu
  have fin:∀hi:Nat,(hi<=S.w0.heap.size\/∃k,hi=k+1/\Z' k)->Sim E.W S Z' ρ ⟨tm,jG ob 9997 (sR S.w0.heap.size hi)⟩ a w':=λhi h=>
   ⟨hg.ws.reframe (BE hρ h),hg.len,hg.tm,hg.df⟩
  by_cases hlt:w.heap.size<w'.heap.size
  ·refine⟨v,_,_,Z',ρ,rfl,fin w'.heap.size (.inr ⟨w'.heap.size-1,ac,.inr ac⟩),hval,fK (K:=λob=>K (Vi R res) ⟨tm,ob⟩) (hk R w.heap.size w'.heap.size hmle hsz (hfam _ _ λb h1 h2=>⟨h1,h2⟩))⟩
  ·refine⟨v,_,_,Z',ρ,rfl,fin m ?_,hval,fK (K:=λob=>K (Vi R res) ⟨tm,ob⟩) (hk R m m (Nat.le_refl _) (Nat.le_refl _) (hfam _ _ λb h1 h2=>by omega))⟩;rcases hmark with h|⟨k,e,h⟩
   ·exact .inl h
   ·exact .inr ⟨k,e,.inl h⟩
def PK(ob:List (Nat×AO))(n:Nat)(x:AV)(res:AP1):Prop:=
 match x with
 | .one .nil=>res= .one (.sl [])
 | .one (.own id)=>aOb ob id λo=>match o with
  | .row _ s xs=>∃(lo hi:Nat) (ys:List (List AD)),n<=lo/\Fam lo hi xs.flatten ys.flatten/\ys.length=xs.length/\(∀y∈ys,y.length=s)/\res= .one (.sl ys)
  |_=>False
 | .one (.d c)=>∃(lo hi:Nat) (d:AD),n<=lo/\Fam lo hi [c] [d]/\res= .one d
 | .agg cs=>K6 cs λcs'=>∃(lo hi:Nat) (ds:List AD),n<=lo/\Fam lo hi cs' ds/\res= .agg ds
 |_=>False
def K1(E:bx)(st:ASt)(n:Nat)(rs:List ResultVar)(res:AP1):Prop:=
 match rs with
 |[.tmp t]=>aTm st.tm t λv=>PK st.ob n v res
 |[.cell t ty]=>aTm st.tm t λx=>xP E st ty x λv=>PK st.ob n v res
 |_=>False
def Zq(E:bx)(rs:List ResultVar)(n:Nat)(res:AP1):Exit->ASt->Prop
 | .ret,st=>K1 E st n rs res
 | .normal,st=>K1 E st n rs res
 |_,_=>False
theorem Hu{st:ASt}{Z:Nat->Prop}{ρ:Nat->Value}{w:World}(h:WS E.W S Z w ρ st.ob)(hO:∀b,¬S.O b){x:AV}{v:Value}{res:AP1}(hv:cu Z w ρ x v)(hk:PK st.ob S.w0.heap.size x res):Ji S.w0.heap.size w.heap.size w res v:=by
 have up:∀{lo hi:Nat} {ds us},S.w0.heap.size<=lo->fm w (λb=>lo<=b/\b<hi/\Z b) ds us->fm w (λb=>S.w0.heap.size<=b/\b<w.heap.size) ds us:=λhn hf=>hf.mono λb hb=>⟨ac,h.zlt b hb.2.2⟩;unfold PK at hk;split at hk
 ·subst hk;cases hv with
  |one _ _ hv=>
   have hv:v= .slice none 0 0:=hv;subst hv;exact .one (.emp _ _ _ (Nat.zero_le _))
 ·rename_i id;obtain⟨o,ho,hk⟩:=da hk;split at hk
  ·rename_i e s xs;obtain⟨lo,hi,ys,hn,hf,hyl,hys,rfl⟩:=hk;obtain⟨us,h0,hl,hxs,hus,hown,hd⟩:=h.obj id _ ho;cases hv with
   |one _ _ hv=>
    have hv:v=ρ id:=hv.1;subst hv;have hlx:xs.flatten.length=xs.length*s:=wS hxs;obtain⟨lF,Q,q,eQ,rQ⟩:=hf.2 Z w us.flatten (by rw[wS hus,hlx,hl]) λi c u hc hu=>by
     have hi:i<xs.length*s:=by rw[<-hlx];exact(List.getElem?_eq_some_iff.1 hc).1
     have hs:0<s:=h0;have hdm:i=i/s*s+i % s:=(Nat.div_add_mod' i s).symm;have hr:i % s<s:=Nat.mod_lt _ hs;have hk:i/s<xs.length:=Nat.div_lt_of_lt_mul (by rw[Nat.mul_comm];exact hi);rw[hdm,qe hxs (getElem?_eq_getElem hk) hr]at hc;rw[hdm,qe hus (getElem?_eq_getElem ac) hr]at hu;exact hd _ _ _ _ c u (getElem?_eq_getElem hk) (getElem?_eq_getElem ac) hc hu
    refine .one (.sl _ ys e s us _ Q h0 (by rw[hl,hyl]) hys hus (by rw[hyl];exact hown) (λb hb=>?_) (λi b hb=>⟨by have:=(q i b hb).1;omega,h.zlt b (q i b hb).2.2⟩) eQ rQ);have hm:=h.mine id _ b ho hb;exact⟨⟨hm.2.resolve_right (hO b),h.lt ho hb⟩,λi hq=>hm.1 (q i b hq).2.2⟩
  ·exact hk.elim
 ·obtain⟨lo,hi,d,hn,hf,rfl⟩:=hk;cases hv with
  |one _ _ hv=>
   refine up hn (hf.2 Z w [v] rfl λi c' u hc hu=>?_);cases i with
   |zero=>simp at hc hu;subst hc hu;exact hv
   |succ i=>simp at hc
 ·rename_i cs;obtain⟨cs',hk,hl',hr'⟩:=nG hk;obtain⟨lo,hi,ds,hn,hf,rfl⟩:=hk;cases hv with
  |agg _ us hl hr=>
   refine⟨us,rfl,up hn (hf.2 Z w us (by rw[hl,hl']) λi c u hc hu=>?_)⟩;have hi:i<cs.length:=by rw[<-hl'];exact(List.getElem?_eq_some_iff.1 hc).1
   exact hr' i c cs[i] u hc (getElem?_eq_getElem hi) (hr i _ u (getElem?_eq_getElem hi) hu)
 ·exact hk.elim
theorem Q6{st:ASt}(he:E.Ok){Z:Nat->Prop}{ρ:Nat->Value}{a:Act}{w:World}(h:Sim E.W S Z ρ st a w)(hO:∀b,¬S.O b){fn:Func}{res:AP1}(hk:K1 E st S.w0.heap.size fn.results.toList res):
  ∃v,(results fn a.tmps).run E.P w= .ok v w/\Ji S.w0.heap.size w.heap.size w res v:=by
 have hres:∀vs:List Value,(fn.results.toList.mapM (fJ a.tmps)).run E.P w= .ok vs w->(results fn a.tmps).run E.P w= .ok (if h:vs.toArray.size=1 then vs.toArray[0]else .tuple vs.toArray) w:=by
  intro vs hvs;have e:results fn a.tmps=(do let vs<-fn.results.mapM (fJ a.tmps);pure (if h:vs.size=1 then vs[0]else .tuple vs)):=rfl;rw[e,Sem.run_bind,Array.mapM_eq_mapM_toList,Sem.run_map,hvs];rfl
 unfold K1 at hk;split at hk
 ·rename_i t hr;obtain⟨x,hx,hk⟩:=jU hk;have hlt:t<a.tmps.size:=by rw[h.len];exact(List.getElem?_eq_some_iff.1 hx).1
  have hp:=Hu h.ws hO (h.tm t x _ hx (Array.getElem?_eq_getElem hlt)) hk;have h1:(fJ a.tmps (.tmp t)).run E.P w= .ok a.tmps[t] w:=by simp[fJ,hlt]
  have:=hres [a.tmps[t]] (by rw[hr,List.mapM_cons,Sem.run_bind,h1];rfl);exact⟨a.tmps[t],this,hp⟩
 ·rename_i t ty hr;obtain⟨x,hx,hk⟩:=jU hk;have hlt:t<a.tmps.size:=by rw[h.len];exact(List.getElem?_eq_some_iff.1 hx).1
  obtain⟨b,off,v,y,e,hrl,hy,hk⟩:=vH he h (h.tm t x _ hx (Array.getElem?_eq_getElem hlt)) hk;have hp:=Hu h.ws hO hy hk;have h1:(fJ a.tmps (.cell t ty)).run E.P w= .ok v w:=by simp[fJ,hlt,e,asAddr,hrl]
  have:=hres [v] (by rw[hr,List.mapM_cons,Sem.run_bind,h1];rfl);exact⟨v,this,hp⟩
 ·exact hk.elim
theorem ew(he:E.Ok){f:FuncId}{fn:Func}{c:Code}{n:Nat}{rs:List ResultVar}{args:List AP1}{res:AP1}(hf:E.P.funcs[f]? =some fn)(hb:fn.body=some c)
  (enter:∀(us:Array Value) w,(callFunc f us).run E.P w= .ok (.enter f us) w) (hn:fn.ntmps=n) (hrs:fn.results.toList=rs)
  (h:∀S:bZ,BW args n λtm=>AWP E S c (Zq E rs S.w0.heap.size res) ⟨tm,[(9997,sR S.w0.heap.size S.w0.heap.size)]⟩):jt E f args res:=by
 refine⟨enter,λZ w us hz hg hl hr=>?_⟩;subst hn hrs;obtain⟨hle,hk⟩:=ng (h ⟨w,λ_=>False,Z⟩);have hs:Sim E.W ⟨w,λ_=>False,Z⟩ Z (λ_=>undef) ⟨args.map AP1.v++List.replicate (fn.ntmps-args.length) (.one .und),[(9997,sR w.heap.size w.heap.size)]⟩ {tmps:=us.toArray++Array.replicate (fn.ntmps-us.toArray.size) undef,defers:=[]} w:=by
  have hw0:WS E.W ⟨w,λ_=>False,Z⟩ Z w (λ_=>undef) []:=⟨rfl,rfl,rfl,Nat.le_refl _,λ_ _ _=>rfl,hz,λid o b ho _=>(by cases ho),λi j oi oj b hi _ _ _ _=>(by cases hi),λid o ho=>(by cases ho),kj.nil,hg,λb hb=>hb,λb hb=> .inl hb⟩;refine⟨hw0.reframe (id:=9997) (BE rfl (.inl (Nat.le_refl _))),by simp[hl],λi x v hx hv=>?_,rfl⟩;simp only at hx hv;have hv':(us++List.replicate (fn.ntmps-us.length) undef)[i]? =some v:=by
   have:=hv;rw[<-Array.getElem?_toList]at this;simpa using this
  by_cases hi:i<us.length
  ·rw[getElem?_append_left (by simpa[hl]using hi),List.getElem?_map]at hx;obtain⟨p,hp,rfl⟩:=Option.map_eq_some_iff.1 hx;rw[getElem?_append_left hi]at hv';exact(hr i p v hp hv').v
  ·rw[getElem?_append_right al]at hx;rw[getElem?_append_right ac]at hv';have e1:=List.eq_of_mem_replicate (mem_of_getElem? hx);have e2:=List.eq_of_mem_replicate (mem_of_getElem? hv');subst e1 e2;exact .one _ _ (show fp Z w (λ_=>undef) .und undef from rfl)
 refine calls_of_wp hf hb (wp_mono (hk.run _ w ⟨Z,_,hs⟩) λe a' w' h'=>?_);obtain⟨st',⟨Z',ρ',hs'⟩,hk'⟩:=h';have fin:K1 E st' w.heap.size fn.results.toList res->a'.defers=[]/\∃v,(results fn a'.tmps).run E.P w'= .ok v w'/\∃v0,Ending.returned v= .returned v0/\Below w.heap.size w w'/\Ji w.heap.size w'.heap.size w' res v0:=by
  intro hr;obtain⟨v,h1,h2⟩:=Q6 he hs' (λb h=>h) hr;exact⟨hs'.df,v,h1,v,rfl,⟨hs'.ws.os,hs'.ws.tape,hs'.ws.output,hs'.ws.size,λb hb=>hs'.ws.old b hb (λh=>h)⟩,h2⟩
 cases e with
 |normal=>exact fin hk'
 |ret=>exact fin hk'
 |_=>exact hk'.elim
end
end
section
open Go.Proofs.Tryz
open Go.ChangeShapes Go.WideShapes Go.RowKit
variable {st:ASt}{op:BinOp}{r:Bool}{ds es:List AD}{o:Oper}{x y:Operand}{t t2:TypeId}{S:bZ}
structure A7 (op:BinOp) (t:TypeId) (ds es:List AD) (r:Bool):Prop where
 guard:∀(x y:Operand) w,(eqGuard op t x y (.agg (ds.map BD).toArray) (.agg (es.map BD).toArray)).run Tryz.prog w= .ok () w
 run:∀w,(binOp op t (.agg (ds.map BD).toArray) (.agg (es.map BD).toArray)).run Tryz.prog w= .ok (.bool r) w
theorem A7.reads{t2:TypeId}(he:A7 op t ds es r)(hd:ds.all AD.isPv=true)(hd2:es.all AD.isPv=true){S:bZ}{Z:Nat->Prop}{ρ:Nat->Value}{st:ASt}{a:Act}{w:World}{o:Oper}{x y:Operand}
  (ho:o.op= .binOp op t x y t2) (hx:aEv st x λv=>v= .agg (ds.map .d)) (hy:aEv st y λv=>v= .agg (es.map .d)) (hs:Sim av.W S Z ρ st a w):∃u,cu Z w ρ (vB r) u/\(execOp a.eval o).run av.P w= .ok (.value u) w:=by
 obtain⟨v,hv,rfl⟩:=bz hs hx;obtain⟨u,hu,rfl⟩:=bz hs hy;have e1:=Aj hd hv;have e2:=Aj hd2 hu;have h1:=he.guard x y w;have h2:=he.run w;exact⟨.bool r,cQ rfl,by simp[execOp,ho,e1,e2,av,h1,h2]⟩
theorem aaW(he:A7 op t ds es r){K:ASt->Prop}(ho:o.op= .binOp op t x y t2)(hx:aEv st x λv=>v= .agg (ds.map .d))(hy:aEv st y λv=>v= .agg (es.map .d))(hd:ds.all AD.isPv=true)(hd2:es.all AD.isPv=true)(hk:fa st o.dst (vB r) K):AOp av S o st K:=
 .reads λZ ρ a w hs=>by
  obtain⟨u,hu,hr⟩:=he.reads hd hd2 ho hx hy hs;exact⟨_,u,hu,hr,hk⟩
theorem aa4(he:A7 op t ds es r){K:AV->Prop}(ho:o.op= .binOp op t x y t2)(hx:aEv st x λv=>v= .agg (ds.map .d))(hy:aEv st y λv=>v= .agg (es.map .d))(hd:ds.all AD.isPv=true)(hd2:es.all AD.isPv=true)(hk:K (vB r)):nC av o st K:=
 ⟨_,hk,λS Z ρ a w hs=>he.reads hd hd2 ho hx hy hs⟩
theorem wI(w:World)(d:Nat)(a b:Int):(Op.equalIn (d+1) 2 (.int .i64 a) (.int .i64 b)).run Tryz.prog w= .ok (a==b) w:=Tk w d a b
abbrev bh(x:Int):Value:= .int .i64 x
theorem L8(p q:aT)(w:World):(binOp .neq 279 (.agg #[bh p.client,bh p.seq,bh p.index]) (.agg #[bh q.client,bh q.seq,bh q.index])).run Tryz.prog w= .ok (.bool (!(p==q))) w:=by
 obtain⟨a0,a1,a2⟩:=p;obtain⟨b0,b1,b2⟩:=q;have h:=run_underlying (w:=w) underlying279;have hs:Tryz.prog.stoodInHeld 279=false:=ae;show(do let x<-Op.equalIn (9999+1) _ _ _;pure (Value.bool !x):Sem Value).run _ _=_;rw[Op.equalIn];have key:∀x y:Int,(Op.equalIn 9999 2 (.int .i64 x) (.int .i64 y)).run Tryz.prog w= .ok (x==y) w:=wI w 9998;simp[h,hs,jR,key];repeat' split
 all_goals simp_all
theorem rP(p q:aT):A7 .neq 279 p.ds q.ds (!(p==q)):=by
 refine⟨λx y w=>?_,λw=>L8 p q w⟩;have h:Tryz.prog.eqGuardType Tryz.prog.depth 279=false:=ae;simp[eqGuard,h]
theorem Oj(p q:fE)(w:World):(binOp .neq 249 (.agg #[bh p.client,bh p.seq,bh p.index,bh p.last]) (.agg #[bh q.client,bh q.seq,bh q.index,bh q.last])).run Tryz.prog w= .ok (.bool (!(p==q))) w:=by
 obtain⟨a0,a1,a2,a3⟩:=p;obtain⟨b0,b1,b2,b3⟩:=q;have h:=run_underlying (w:=w) underlying249;have hs:Tryz.prog.stoodInHeld 249=false:=ae;show(do let x<-Op.equalIn (9999+1) _ _ _;pure (Value.bool !x):Sem Value).run _ _=_;rw[Op.equalIn];have key:∀x y:Int,(Op.equalIn 9999 2 (.int .i64 x) (.int .i64 y)).run Tryz.prog w= .ok (x==y) w:=wI w 9998;simp[h,hs,jR,key];repeat' split
 all_goals simp_all
theorem Bv(p q:fE):A7 .neq 249 p.ds q.ds (!(p==q)):=by
 refine⟨λx y w=>?_,λw=>Oj p q w⟩;have h:Tryz.prog.eqGuardType Tryz.prog.depth 249=false:=ae;simp[eqGuard,h]
theorem L9(p q:br)(w:World):(binOp .neq 329 (.agg #[bh p.key,bh p.value]) (.agg #[bh q.key,bh q.value])).run Tryz.prog w= .ok (.bool (!(p==q))) w:=by
 obtain⟨a0,a1⟩:=p;obtain⟨b0,b1⟩:=q;have h:=run_underlying (w:=w) underlying329;have hs:Tryz.prog.stoodInHeld 329=false:=ae;show(do let x<-Op.equalIn (9999+1) _ _ _;pure (Value.bool !x):Sem Value).run _ _=_;rw[Op.equalIn];have key:∀x y:Int,(Op.equalIn 9999 2 (.int .i64 x) (.int .i64 y)).run Tryz.prog w= .ok (x==y) w:=wI w 9998;simp[h,hs,jR,key];repeat' split
 all_goals simp_all
theorem rR(p q:br):A7 .neq 329 p.ds q.ds (!(p==q)):=by
 refine⟨λx y w=>?_,λw=>L9 p q w⟩;have h:Tryz.prog.eqGuardType Tryz.prog.depth 329=false:=ae;simp[eqGuard,h]
theorem Om(p q:bo)(w:World):(binOp .neq 122 (.agg #[bh p.id,bh p.due,bh p.key,bh p.value,bh p.fired]) (.agg #[bh q.id,bh q.due,bh q.key,bh q.value,bh q.fired])).run Tryz.prog w= .ok (.bool (!(p==q))) w:=by
 obtain⟨a0,a1,a2,a3,a4⟩:=p;obtain⟨b0,b1,b2,b3,b4⟩:=q;have h:=run_underlying (w:=w) underlying122;have hs:Tryz.prog.stoodInHeld 122=false:=ae;show(do let x<-Op.equalIn (9999+1) _ _ _;pure (Value.bool !x):Sem Value).run _ _=_;rw[Op.equalIn];have key:∀x y:Int,(Op.equalIn 9999 2 (.int .i64 x) (.int .i64 y)).run Tryz.prog w= .ok (x==y) w:=wI w 9998;simp[h,hs,jR,key];repeat' split
 all_goals simp_all
theorem w8(p q:bo):A7 .neq 122 p.ds q.ds (!(p==q)):=by
 refine⟨λx y w=>?_,λw=>Om p q w⟩;have h:Tryz.prog.eqGuardType Tryz.prog.depth 122=false:=ae;simp[eqGuard,h]
theorem Ol(p q:eG)(w:World):(binOp .neq 212 (.agg #[bh p.id,bh p.due]) (.agg #[bh q.id,bh q.due])).run Tryz.prog w= .ok (.bool (!(p==q))) w:=by
 obtain⟨a0,a1⟩:=p;obtain⟨b0,b1⟩:=q;have h:=run_underlying (w:=w) underlying212;have hs:Tryz.prog.stoodInHeld 212=false:=ae;show(do let x<-Op.equalIn (9999+1) _ _ _;pure (Value.bool !x):Sem Value).run _ _=_;rw[Op.equalIn];have key:∀x y:Int,(Op.equalIn 9999 2 (.int .i64 x) (.int .i64 y)).run Tryz.prog w= .ok (x==y) w:=wI w 9998;simp[h,hs,jR,key];repeat' split
 all_goals simp_all
theorem Ih(p q:eG):A7 .neq 212 p.ds q.ds (!(p==q)):=by
 refine⟨λx y w=>?_,λw=>Ol p q w⟩;have h:Tryz.prog.eqGuardType Tryz.prog.depth 212=false:=ae;simp[eqGuard,h]
theorem JQ(p q:ge)(w:World):(binOp .eql 45 (.agg #[bh p.holder,bh p.epoch,bh p.til]) (.agg #[bh q.holder,bh q.epoch,bh q.til])).run Tryz.prog w= .ok (.bool (p==q)) w:=by
 obtain⟨a0,a1,a2⟩:=p;obtain⟨b0,b1,b2⟩:=q;have h:=run_underlying (w:=w) underlying45;have hs:Tryz.prog.stoodInHeld 45=false:=ae;show(do let x<-Op.equalIn (9999+1) _ _ _;pure (Value.bool x):Sem Value).run _ _=_;rw[Op.equalIn];have key:∀x y:Int,(Op.equalIn 9999 2 (.int .i64 x) (.int .i64 y)).run Tryz.prog w= .ok (x==y) w:=wI w 9998;simp[h,hs,jR,key];repeat' split
 all_goals simp_all
theorem oB(p q:ge):A7 .eql 45 p.ds q.ds (p==q):=by
 refine⟨λx y w=>?_,λw=>JQ p q w⟩;have h:Tryz.prog.eqGuardType Tryz.prog.depth 45=false:=ae;simp[eqGuard,h]
theorem Zl(d:Nat)(p q:DOp)(w:World):(Op.equalIn (d+2) 56 (.agg #[bh p.kind,bh p.a,bh p.b,bh p.c,bh p.d]) (.agg #[bh q.kind,bh q.a,bh q.b,bh q.c,bh q.d])).run Tryz.prog w= .ok (p==q) w:=by
 obtain⟨a0,a1,a2,a3,a4⟩:=p;obtain⟨b0,b1,b2,b3,b4⟩:=q;have h:=run_underlying (w:=w) underlying56;have hs:Tryz.prog.stoodInHeld 56=false:=ae;rw[Op.equalIn];have key:∀x y:Int,(Op.equalIn (d+1) 2 (.int .i64 x) (.int .i64 y)).run Tryz.prog w= .ok (x==y) w:=wI w d;simp[h,hs,jR,key];repeat' split
 all_goals simp_all
theorem Rh(p q:DOp)(w:World):(binOp .eql 56 (.agg #[bh p.kind,bh p.a,bh p.b,bh p.c,bh p.d]) (.agg #[bh q.kind,bh q.a,bh q.b,bh q.c,bh q.d])).run Tryz.prog w= .ok (.bool (p==q)) w:=by
 obtain⟨a0,a1,a2,a3,a4⟩:=p;obtain⟨b0,b1,b2,b3,b4⟩:=q;have h:=run_underlying (w:=w) underlying56;have hs:Tryz.prog.stoodInHeld 56=false:=ae;show(do let x<-Op.equalIn (9999+1) _ _ _;pure (Value.bool x):Sem Value).run _ _=_;rw[Op.equalIn];have key:∀x y:Int,(Op.equalIn 9999 2 (.int .i64 x) (.int .i64 y)).run Tryz.prog w= .ok (x==y) w:=wI w 9998;simp[h,hs,jR,key];repeat' split
 all_goals simp_all
theorem p5(p q:DOp):A7 .eql 56 p.ds q.ds (p==q):=by
 refine⟨λx y w=>?_,λw=>Rh p q w⟩;have h:Tryz.prog.eqGuardType Tryz.prog.depth 56=false:=ae;simp[eqGuard,h]
theorem J2(p q:aO)(w:World):(binOp .neq 275 (.agg #[bh p.index,bh p.time,bh p.client,bh p.seq,bh p.op.kind,bh p.op.a,bh p.op.b,bh p.op.c,bh p.op.d]) (.agg #[bh q.index,bh q.time,bh q.client,bh q.seq,bh q.op.kind,bh q.op.a,bh q.op.b,bh q.op.c,bh q.op.d])).run Tryz.prog w= .ok (.bool (!(p==q))) w:=by
 obtain⟨a0,a1,a2,a3,a4⟩:=p;obtain⟨b0,b1,b2,b3,b4⟩:=q;have h:=run_underlying (w:=w) underlying275;have hs:Tryz.prog.stoodInHeld 275=false:=ae;have kop:∀o o':DOp,(Op.equalIn 9999 56 (.agg #[bh o.kind,bh o.a,bh o.b,bh o.c,bh o.d]) (.agg #[bh o'.kind,bh o'.a,bh o'.b,bh o'.c,bh o'.d])).run Tryz.prog w= .ok (o==o') w:=λo o'=>Zl 9997 o o' w;have po:∀(xs:Array Value) (o:DOp),xs.extract 4 9= #[bh o.kind,bh o.a,bh o.b,bh o.c,bh o.d]->(part 56 xs 4).run Tryz.prog w= .ok (.agg #[bh o.kind,bh o.a,bh o.b,bh o.c,bh o.d]) w:=λxs o h=>by
  simp[part,isAgg56,sizeOf56,h]
 show(do let x<-Op.equalIn (9999+1) _ _ _;pure (Value.bool !x):Sem Value).run _ _=_;rw[Op.equalIn];have key:∀x y:Int,(Op.equalIn 9999 2 (.int .i64 x) (.int .i64 y)).run Tryz.prog w= .ok (x==y) w:=wI w 9998;have p1:=po #[bh a0,bh a1,bh a2,bh a3,bh a4.kind,bh a4.a,bh a4.b,bh a4.c,bh a4.d] a4 rfl;have p2:=po #[bh b0,bh b1,bh b2,bh b3,bh b4.kind,bh b4.a,bh b4.b,bh b4.c,bh b4.d] b4 rfl;simp[h,hs,jR,key,kop,p1,p2];repeat' split
 all_goals simp_all
theorem Ct(p q:aO):A7 .neq 275 p.ds q.ds (!(p==q)):=by
 refine⟨λx y w=>?_,λw=>J2 p q w⟩;have h:Tryz.prog.eqGuardType Tryz.prog.depth 275=false:=ae;simp[eqGuard,h]
end
section
open Go.ChangeShapes Go.WideShapes Go.RowKit
variable {a:Int}{l m r:List Int}{n:Nat}{d:bD}{t:di}
def xn(s x:Int):Int:=(131*s+x+1).tmod 999999937
def kM(l:List Int):Int:=l.foldl xn 7
theorem Nl{s x:Int}(hs:0<=s/\s<=999999936)(hx:0<=x/\x<=1000000000):0<=xn s x/\xn s x<=999999936:=by
 unfold xn;rw[Int.tmod_eq_emod_of_nonneg ac];omega
theorem hH(h:bQ l=true):l.length<=48/\∀x∈l,0<=x/\x<=1000000000:=by
 simp only[bQ,aJ,and_eq_true,decide_eq_true_eq,List.all_eq_true]at h;exact h
theorem qw(h:l.length<=48/\∀x∈l,0<=x/\x<=1000000000):bQ l=true:=by
 simp only[bQ,aJ,and_eq_true,decide_eq_true_eq,List.all_eq_true];exact h
theorem ID(h:bQ l=true)(hl:m.length<=l.length)(hs:∀x∈m,x∈l):bQ m=true:=by
 obtain⟨h1,h2⟩:=hH h;exact qw ⟨ac,λx hx=>h2 x (hs x hx)⟩
theorem AT(h:∀x∈l,0<=x/\x<=1000000000):∀k,k<=l.length->0<=kM (l.take k)/\kM (l.take k)<=999999936
 |0,_=>by simp[kM]
 |k+1,hk=>by
  have ih:=AT h k ac;have hlt:k<l.length:=ac;have e:l.take (k+1)=l.take k++[l[k]]:=by rw[List.take_add_one,List.getElem?_eq_getElem hlt];rfl
  rw[e,kM,List.foldl_append];exact Nl ih (h _ (List.getElem_mem hlt))
theorem SA{k:Nat}(hlt:k<l.length):kM (l.take (k+1))=xn (kM (l.take k)) l[k]:=by
 have e:l.take (k+1)=l.take k++[l[k]]:=by rw[List.take_add_one,List.getElem?_eq_getElem hlt];rfl
 rw[e,kM,List.foldl_append];rfl
theorem Uu(h:bQ l=true):0<=kM l/\kM l<=999999936:=by
 have:=AT (hH h).2 l.length (Nat.le_refl _);rwa[List.take_length]at this
def f0(l:List Int):List Int:=l++[kM l]
theorem gR(h:bQ l=true)(hl:l.length<48):bQ (l++[kM l])=true:=by
 obtain⟨_,h2⟩:=hH h;have h3:=Uu h;refine qw ⟨by simp;omega,λx hx=>?_⟩;rcases List.mem_append.1 hx with hx|hx
 ·exact h2 x hx
 ·rw[List.mem_singleton.1 hx];omega
def lL(l:List Int):Option (List Int):=if bQ l&& !l.isEmpty&&kM l.dropLast==l.getLastD 0 then some l.dropLast else none
theorem Hf(h:bQ l=true)(hl:l.length<48):lL (f0 l)=some l:=by
 have h1:=gR h hl;unfold lL f0;simp[h1]
theorem fC(h:lL l=some m):bQ m=true/\m.length<48/\l=f0 m:=by
 unfold lL at h;split at h
 ·rename_i hc;simp only[and_eq_true,beq_iff_eq]at hc;obtain⟨⟨h1,h2⟩,h3⟩:=hc;injection h with h
  subst h;have hne:l≠ []:=by intro e;simp[e]at h2
  obtain⟨h4,h5⟩:=hH h1;have hpos:0<l.length:=List.length_pos_iff.2 hne;refine⟨ID h1 ah (λx hx=>List.dropLast_subset _ hx),by simp;omega,?_⟩;unfold f0;rw[h3,List.getLastD_eq_getLast?,List.getLast?_eq_some_getLast hne];exact(List.dropLast_concat_getLast hne).symm
 ·cases h
theorem dq(h:cG d=true):1<=d.kept.length/\d.kept.length<=40/\d.wait.length<=60/\(∀y∈d.kept,bQ y=true)/\∀y∈d.wait,gq d.kept.length y=true:=by
 simp only[cG,and_eq_true,decide_eq_true_eq,List.all_eq_true]at h;exact⟨h.1.1.1.1,h.1.1.1.2,h.1.1.2,h.1.2,h.2⟩
theorem kx(h:1<=d.kept.length/\d.kept.length<=40/\d.wait.length<=60/\(∀y∈d.kept,bQ y=true)/\∀y∈d.wait,gq d.kept.length y=true):cG d=true:=by
 simp only[cG,and_eq_true,decide_eq_true_eq,List.all_eq_true];exact⟨⟨⟨⟨h.1,h.2.1⟩,h.2.2.1⟩,h.2.2.2.1⟩,h.2.2.2.2⟩
theorem iF{y:cz}(h:gq n y=true):(0<=y.at_/\y.at_<=(n:Int)-1)/\bQ y.row=true:=by
 simp only[gq,aJ,and_eq_true,decide_eq_true_eq]at h;exact h
theorem eM(h:bQ l=true):l.length<=48:=(hH h).1
theorem eF(h:cG d=true):aaY 1048576 d:=by
 obtain⟨h1,h2,h3,h4,h5⟩:=dq h;exact⟨ac,λy hy=>by have:=eM (h4 y hy);omega,ac,λy hy=>by
  have:=eM (iF (h5 y hy)).2;show y.row.length<=1048576;omega⟩
def lx(d:bD)(a:Int)(r:List Int):bD:=⟨d.kept,d.wait++[⟨a,r⟩]⟩
theorem kS(h:cG d=true)(hw:d.wait.length<60)(ha:aJ a 0 ((d.kept.length:Int)-1)=true)(hr:bQ r=true):cG (lx d a r)=true:=by
 obtain⟨h1,h2,h3,h4,h5⟩:=dq h;refine kx ⟨h1,h2,by simp[lx];omega,h4,λy hy=>?_⟩;simp only[lx,List.mem_append,List.mem_singleton]at hy;rcases hy with hy|rfl
 ·exact h5 y hy
 ·simp[gq,lx,ha,hr]
def Um(k:List (List Int))(x:cz):List (List Int):=k.set x.at_.toNat x.row
def va(k:List (List Int))(l:List cz):List (List Int):=l.foldl Um k
def gZ(d:bD):bD:=⟨va d.kept d.wait,[]⟩
theorem iA(l:List cz):∀k:List (List Int),(va k l).length=k.length:=by
 induction l with
 |nil=>intro k;rfl
 |cons x r ih=>intro k;show(va (Um k x) r).length=_;rw[ih];simp[Um]
theorem EJ{k:List (List Int)}{l:List cz}{j:Nat}(h:j<l.length):va k (l.take (j+1))=(va k (l.take j)).set l[j].at_.toNat l[j].row:=by
 have e:l.take (j+1)=l.take j++[l[j]]:=by rw[List.take_add_one,List.getElem?_eq_getElem h];rfl
 rw[e,va,List.foldl_append];rfl
theorem N1{l:List cz}:∀{k:List (List Int)},(∀y∈k,bQ y=true)->(∀y∈l,bQ y.row=true)->∀y∈va k l,bQ y=true:=by
 induction l with
 |nil=>intro k h _;exact h
 |cons x r ih=>
  intro k h hl;refine ih (k:=Um k x) (λy hy=>?_) (λy hy=>hl y (List.mem_cons_of_mem _ hy));rcases List.mem_or_eq_of_mem_set hy with hy|rfl
  ·exact h y hy
  ·exact hl x (List.mem_cons_self ..)
theorem kw(h:cG d=true):cG (gZ d)=true:=by
 obtain⟨h1,h2,h3,h4,h5⟩:=dq h;exact kx ⟨by rw[gZ,iA];exact h1,by rw[gZ,iA];exact h2,by simp[gZ],N1 h4 λy hy=>(iF (h5 y hy)).2,by simp[gZ]⟩
theorem eW(h:fW t=true):cG t.a=true/\cG t.b=true/\t.a.kept.length=t.b.kept.length:=by
 simp only[fW,and_eq_true,decide_eq_true_eq]at h;exact⟨h.1.1,h.1.2,h.2⟩
theorem qI(h:cG t.a=true/\cG t.b=true/\t.a.kept.length=t.b.kept.length):fW t=true:=by
 simp only[fW,and_eq_true,decide_eq_true_eq];exact⟨⟨h.1,h.2.1⟩,h.2.2⟩
def sM(t:di)(a:Int)(r:List Int):di:=⟨lx t.a a (r++[kM r]),lx t.b a (r++[kM r])⟩
def kW(t:di):di:=⟨gZ t.a,gZ t.b⟩
theorem Je(h:fW t=true)(h1:t.a.wait.length<60)(h2:t.b.wait.length<60)(ha:aJ a 0 ((t.a.kept.length:Int)-1)=true)(hr:bQ r=true)(hl:r.length<48):fW (sM t a r)=true:=by
 obtain⟨f1,f2,f3⟩:=eW h;exact qI ⟨kS f1 h1 ha (gR hr hl),kS f2 h2 (by rw[<-f3];exact ha) (gR hr hl),f3⟩
theorem Lj(h:fW t=true):fW (kW t)=true:=by
 obtain⟨f1,f2,f3⟩:=eW h;exact qI ⟨kw f1,kw f2,by simp[kW,gZ,iA,f3]⟩
def io(n:Nat):bD:=⟨List.replicate n [],[]⟩
theorem rS(h:1<=n/\n<=40):cG (io n)=true:=by
 refine kx ⟨by simp[io];omega,by simp[io];omega,by simp[io],λy hy=>?_,by simp[io]⟩;rw[List.eq_of_mem_replicate hy];rfl
def A4:List Int:=[0,0,0,0,0,0,0,0,0,0,0,0,0]
def U6:List Int:=A4++[kM A4]
theorem zf:bQ A4=true:=by decide
def It(k:List (List Int))(l:List cz)(a:Int):List Int:=match l.reverse.find? λw=>w.at_==a with|some w=>w.row|none=>k.getD a.toNat []
def oO(d:bD)(a:Int):List Int:=It d.kept d.wait a
def iP(t:di)(a:Int):List (List Int):=match lL (oO t.a a),lL (oO t.b a)with
 |some x,some y=>if x==y then [x]else [x,y]
 |some x,none=>[x]
 |none,some y=>[y]
 |none,none=>[]
theorem OJ:∀r∈iP t a,bQ r=true/\r.length<48:=by
 intro r hr;unfold iP at hr;split at hr
 ·rename_i x y e1 e2;split at hr
  ·simp only[List.mem_singleton]at hr;subst hr;exact⟨(fC e1).1,(fC e1).2.1⟩
  ·simp only[List.mem_cons,List.not_mem_nil,or_false]at hr;rcases hr with rfl|rfl
   ·exact⟨(fC e1).1,(fC e1).2.1⟩
   ·exact⟨(fC e2).1,(fC e2).2.1⟩
 ·rename_i e1 e2;simp only[List.mem_singleton]at hr;subst hr;exact⟨(fC e1).1,(fC e1).2.1⟩
 ·rename_i e1 e2;simp only[List.mem_singleton]at hr;subst hr;exact⟨(fC e2).1,(fC e2).2.1⟩
 ·cases hr
end
section
open Go.ChangeShapes Go.WideShapes Go.RowKit
section
variable {α:Type} {Q:α->α->Bool}
theorem qu(tr:∀x y z,Q x y=true->Q y z=true->Q x z=true):∀{l:List α},hE Q l=true->l.Pairwise λx y=>Q x y=true
 |[],_=> .nil
 |[x],_=>by simp
 |x::y::r,h=>by
  simp only[hE,and_eq_true]at h;have ih:=qu tr (l:=y::r) h.2;refine List.pairwise_cons.2 ⟨λz hz=>?_,ih⟩;rcases List.mem_cons.1 hz with rfl|hz
  ·exact h.1
  ·exact tr x y z h.1 ((List.pairwise_cons.1 ih).1 z hz)
theorem pJ:∀{l:List α},(l.Pairwise λx y=>Q x y=true)->hE Q l=true
 |[],_=>rfl
 |[x],_=>rfl
 |x::y::r,h=>by
  have h':=List.pairwise_cons.1 h;simp only[hE,and_eq_true];exact⟨h'.1 y (List.mem_cons_self ..),pJ h'.2⟩
theorem UN(tr:∀x y z,Q x y=true->Q y z=true->Q x z=true){l m:List α}(h:hE Q l=true)(hs:m.Sublist l):hE Q m=true:=
 pJ ((qu tr h).sublist hs)
theorem P6(l:List α)(k:Nat):(l.take k++l.drop (k+1)).Sublist l:=by
 have:(l.take k++l.drop (k+1)).Sublist (l.take k++l.drop k):=by
  refine List.Sublist.append (List.Sublist.refl _) ?_;rw[<-List.drop_drop];exact List.drop_sublist 1 _
 rwa[List.take_append_drop]at this
end
theorem oJ(x y z:dJ)(h1:dn x y=true)(h2:dn y z=true):dn x z=true:=by
 simp only[dn,or_eq_true,and_eq_true,decide_eq_true_eq,beq_iff_eq]at*
 omega
theorem dQ{n:ee}(h:dT n=true):n.flight.length<=60/\n.cuts.length<=15/\(∀m∈n.flight,iO m=true)/\(∀x∈n.cuts,dH x=true)/\hE dn n.cuts=true:=by
 simp only[dT,and_eq_true,decide_eq_true_eq,List.all_eq_true]at h;exact⟨h.1.1.1.1,h.1.1.1.2,h.1.1.2,h.1.2,h.2⟩
theorem z8{n:ee}(h:n.flight.length<=60/\n.cuts.length<=15/\(∀m∈n.flight,iO m=true)/\(∀x∈n.cuts,dH x=true)/\hE dn n.cuts=true):dT n=true:=by
 simp only[dT,and_eq_true,decide_eq_true_eq,List.all_eq_true];exact⟨⟨⟨⟨h.1,h.2.1⟩,h.2.2.1⟩,h.2.2.2.1⟩,h.2.2.2.2⟩
theorem Ou{n:ee}{m:cX}(h:dT n=true)(hm:iO m=true)(hl:n.flight.length≠60):dT ⟨n.flight++[m],n.cuts⟩=true:=by
 obtain⟨h1,h2,h3,h4,h5⟩:=dQ h;refine z8 ⟨by simp;omega,h2,λx hx=>?_,h4,h5⟩;rcases mem_append.1 hx with hx|hx
 ·exact h3 x hx
 ·rw[mem_singleton.1 hx];exact hm
theorem T0{n:ee}(h:dT n=true)(k:Nat):dT ⟨n.flight.take k++n.flight.drop (k+1),n.cuts⟩=true:=by
 obtain⟨h1,h2,h3,h4,h5⟩:=dQ h;have hs:=P6 n.flight k;exact z8 ⟨Nat.le_trans hs.length_le h1,h2,λx hx=>h3 x (hs.subset hx),h4,h5⟩
theorem WL{n:ee}(h:dT n=true)(k:Nat):dT ⟨n.flight,n.cuts.take k++n.cuts.drop (k+1)⟩=true:=by
 obtain⟨h1,h2,h3,h4,h5⟩:=dQ h;have hs:=P6 n.cuts k;exact z8 ⟨h1,Nat.le_trans hs.length_le h2,h3,λx hx=>h4 x (hs.subset hx),UN oJ h5 hs⟩
def nR(x:dJ):Int:=if x.a=0 then x.b-1 else if x.a=1 then x.b+3 else if x.a=2 then x.b+6 else if x.a=3 then x.b+8 else x.b+9
theorem z7{x:dJ}(h:dH x=true):0<=nR x/\nR x<=14:=by
 simp only[dH,fR,aJ,and_eq_true,decide_eq_true_eq,bne_iff_ne,ne_eq]at h;unfold nR;repeat' split
 all_goals omega
theorem LZ{x y:dJ}(hx:dH x=true)(hy:dH y=true)(h:dn x y=true):nR x<nR y:=by
 simp only[dH,fR,aJ,and_eq_true,decide_eq_true_eq,bne_iff_ne,ne_eq]at hx hy;simp only[dn,or_eq_true,and_eq_true,decide_eq_true_eq,beq_iff_eq]at h;unfold nR;repeat' split
 all_goals omega
theorem Th{l:List dJ}(h1:∀x∈l,dH x=true)(h2:hE dn l=true):l.length<=15:=by
 have key:∀(k:Nat) (hk:k<l.length),(k:Int)<=nR l[k]:=by
  intro k;induction k with
  |zero=>intro hk;exact(z7 (h1 _ (getElem_mem hk))).1
  |succ k ih=>
   intro hk;have:=LZ (h1 _ (getElem_mem _)) (h1 _ (getElem_mem _)) (jK h2 hk);have:=ih ac;omega
 by_cases hl:l.length<=15
 ·exact hl
 ·have:=key 15 ac;have:=(z7 (h1 _ (getElem_mem (by omega:15<l.length)))).2;omega
theorem XE{n:ee}{x:dJ}{k:Nat}(h:dT n=true)(hx:dH x=true)(h1:∀(j:Nat) (hj:j<n.cuts.length),j<k->dn n.cuts[j] x=true)(h2:∀hk:k<n.cuts.length,dn n.cuts[k] x=false)(h3:∀y∈n.cuts,y≠x):dT ⟨n.flight,n.cuts.take k++[x]++n.cuts.drop k⟩=true:=by
 obtain⟨g1,g2,g3,g4,g5⟩:=dQ h;have pw:=qu oJ g5;have lo:∀y∈n.cuts.take k,dn y x=true:=by
  intro y hy;obtain⟨j,hj,rfl⟩:=List.getElem_of_mem hy;rw[List.getElem_take];exact h1 j _ (by rw[List.length_take]at hj;omega)
 have hi:∀y∈n.cuts.drop k,dn x y=true:=by
  intro y hy;obtain⟨j,hj,rfl⟩:=List.getElem_of_mem hy;rw[List.length_drop]at hj;have hk:k<n.cuts.length:=ac;have f1:=h2 hk;have f2:=h3 _ (getElem_mem hk);have f3:dn x n.cuts[k]=true:=by
   simp only[dn,Bool.or_eq_false_iff,Bool.and_eq_false_iff,decide_eq_false_iff_not,beq_eq_false_iff_ne,or_eq_true,and_eq_true,decide_eq_true_eq,beq_iff_eq]at f1⊢;by_cases e1:n.cuts[k].a=x.a
   ·by_cases e2:n.cuts[k].b=x.b
    ·exfalso;apply f2;cases hc:n.cuts[k];rw[hc]at e1 e2;cases x;simp only at e1 e2;rw[e1,e2]
    ·omega
   ·omega
  rw[List.getElem_drop];cases j with
  |zero=>exact f3
  |succ j=>exact oJ _ _ _ f3 (List.pairwise_iff_getElem.1 pw k (k+(j+1)) hk ac ac)
 have hall:∀y∈n.cuts.take k++[x]++n.cuts.drop k,dH y=true:=by
  intro y hy;simp only[mem_append,mem_singleton]at hy;rcases hy with(hy|rfl)|hy
  ·exact g4 y (List.mem_of_mem_take hy)
  ·exact hx
  ·exact g4 y (List.mem_of_mem_drop hy)
 have hadj:hE dn (n.cuts.take k++[x]++n.cuts.drop k)=true:=by
  refine pJ (List.pairwise_append.2 ⟨List.pairwise_append.2 ⟨pw.sublist (List.take_sublist _ _),by simp,λa ha b hb=>by rw[mem_singleton.1 hb];exact lo a ha⟩,pw.sublist (List.drop_sublist _ _),λa ha b hb=>?_⟩);rcases mem_append.1 ha with ha|ha
  ·exact oJ _ _ _ (lo a ha) (hi b hb)
  ·rw[mem_singleton.1 ha];exact hi b hb
 exact z8 ⟨g1,Th hall hadj,g3,hall,hadj⟩
theorem zx{l:List Int}{k:Nat}{t:Int}(h:cY l=true)(ht:tOk t=true):cY (l.set k t)=true:=by
 simp only[cY,and_eq_true,decide_eq_true_eq,List.all_eq_true]at h⊢;refine⟨by simp[h.1],λx hx=>?_⟩;rcases List.mem_or_eq_of_mem_set hx with hx|rfl
 ·exact h.2 x hx
 ·exact ht
theorem Lg{d:bD}{k:List (List Int)}(h:cG d=true)(hl:k.length=d.kept.length)(hr:∀y∈k,bQ y=true):cG ⟨k,[]⟩=true:=by
 obtain⟨h1,h2,_,_,_⟩:=dq h;exact kx ⟨by simp only[hl];exact h1,by simp only[hl];exact h2,by simp,hr,by simp⟩
def xo(r old:List Int):List Int:=r.take (r.length/2)++old.drop (r.length/2)
theorem Py{r old:List Int}(h:bQ r=true)(ho:bQ old=true):bQ (xo r old)=true:=by
 obtain⟨h1,h2⟩:=hH h;obtain⟨h3,h4⟩:=hH ho;refine qw ⟨by simp only[xo,List.length_append,List.length_take,List.length_drop];omega,λx hx=>?_⟩;rcases mem_append.1 hx with hx|hx
 ·exact h2 x (List.mem_of_mem_take hx)
 ·exact h4 x (List.mem_of_mem_drop hx)
end
end Go.Proofs.YthgkdhnlehneeaaGreatDoor
