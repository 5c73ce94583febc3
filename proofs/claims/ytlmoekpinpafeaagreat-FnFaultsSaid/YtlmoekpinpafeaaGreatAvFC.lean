/- AvFC -/
import Derived.Test.YtlmoekpinpafeaaGreatAvJ3
import Derived.Test.YtlmoekpinpafeaaGreatWB8
import Derived.OpenShut
import Derived.Lib.BufferWrite
import Derived.Test.YtlmoekpinpafeaaGreatWData
set_option maxHeartbeats 8000000
set_option linter.unusedVariables false
set_option linter.unusedSimpArgs false
set_option maxRecDepth 100000
open List (all_eq_true getElem?_append_left getElem?_append_right getElem?_eq_getElem getElem?_map length_set map_cons map_map mem_cons mem_map mem_of_getElem? nodup_cons)
open Option (map_eq_some_iff)
namespace Go.Proofs.YtlmoekpinpafeaaGreat
section
open Go.RowKit
theorem dR{α:Type}{us:List (List α)}{s:Nat}(h:∀u∈us,u.length=s):∀{k r:Nat} {u:List α},us[k]? =some u->r<s->us.flatten[k*s+r]? =u[r]? :=by
 induction us with
 |nil=>intro k r u hu;simp at hu
 |cons x l ih=>
  intro k r u hu hr;have hx:=h x ai;cases k with
  |zero=>
   simp at hu;subst hu;rw[List.flatten_cons,Nat.zero_mul,Nat.zero_add,getElem?_append_left ac]
  |succ k=>
   rw[List.flatten_cons,getElem?_append_right (by rw[hx,Nat.succ_mul];omega),hx,show(k+1)*s+r-s=k*s+r by rw[Nat.succ_mul];omega];exact ih (λu hu=>h u (by simp[hu])) (by simpa using hu) hr
theorem j9{α:Type}{us:List (List α)}{s:Nat}(h:∀u∈us,u.length=s):us.flatten.length=us.length*s:=by
 induction us with
 |nil=>simp
 |cons x l ih=>rw[List.flatten_cons,List.length_append,ih λu hu=>h u (by simp[hu]),h x ai,List.length_cons,Nat.succ_mul];omega
inductive ip (w:World):(Nat->Prop)->AD->Value->Prop
 |pv (P:Nat->Prop) (v:Value) (h1:v.oneCell'=true):ip w P (.pv v) v
 |emp (P:Nat->Prop) (A:Option Addr) (cap:Nat) (hm:cap<=maxLen):ip w P (.sl []) (.slice A 0 cap)
 |sl (P:Nat->Prop) (xs:List (List AD)) (e:TypeId) (s:Nat) (us:List (List Value)) (v:Value) (Q:Nat->Nat->Prop)
   (hs:0<s) (hl:us.length=xs.length) (hx:∀x∈xs,x.length=s) (hu:∀u∈us,u.length=s)
   (hown:w.ownsRow 0 e s v xs.length us.flatten)
   (hb:∀b,br v=some b->P b/\∀i,¬Q i b) (hQ:∀i b,Q i b->P b) (hd:∀i j b,Q i b->Q j b->i=j)
   (h:∀(i:Nat) a u,xs.flatten[i]? =some a->us.flatten[i]? =some u->ip w (Q i) a u):ip w P (.sl xs) v
section
variable {w w':World} {P P':Nat->Prop} {d:AD} {v:Value}
theorem ip.mono(hp:∀b,P b->P' b)(h:ip w P d v):ip w P' d v:=by
 cases h with
 |pv P v h1=>exact .pv _ _ h1
 |emp P A cap hm=>exact .emp _ A cap hm
 |sl P xs e s us v Q hs hl hx hu hown hb hQ hd h=>exact .sl _ xs e s us _ Q hs hl hx hu hown (λb e=>⟨hp b (hb b e).1,(hb b e).2⟩) (λi b q=>hp b (hQ i b q)) hd h
theorem ip.keep(h:ip w P d v)(hk:∀b,P b->w'.heap[b]? =w.heap[b]?):ip w' P d v:=by
 induction h with
 |pv P v h1=>exact .pv _ v h1
 |emp P A cap hm=>exact .emp _ A cap hm
 |sl P xs e s us v Q hs hl hx hu hown hb hQ hd h ih=>
  refine .sl _ xs e s us v Q hs hl hx hu ⟨hown.1,?_⟩ hb hQ hd λi a u ha hu=>ih i a u ha hu λb q=>hk b (hQ i b q);rcases hown.2 with h0|⟨g,cap,cur,hv,hbg,hg,r⟩
  ·exact .inl h0
  ·exact .inr ⟨g,cap,cur,hv,hbg,(hk g (hb g (by rw[hv];rfl)).1).trans hg,r⟩
theorem ip.one(h:ip w P d v):v.oneCell'=true:=by
 cases h with
 |pv P v h1=>exact h1
 |emp P A cap hm=>rfl
 |sl P xs e s us v Q hs hl hx hu hown hb hQ hd h=>rcases hown.2 with⟨hv,_⟩|⟨g,cap,cur,hv,_⟩<;>rw[hv]<;>rfl
theorem ip.relD{Z:Nat->Prop}(h:ip w P d v)(hz:∀b,P b->Z b):bK Z w d v:=by
 induction h with
 |pv P v h1=>exact .pv v h1
 |emp P A cap hm=>exact .sl [] A cap 1 [] (Nat.zero_le _) hm rfl ai ai (.inl rfl) ai
 |sl P xs e s us v Q hs hl hx hu hown hb hQ hd h ih=>
  have key:∀(i j:Nat) x u a b,xs[i]? =some x->us[i]? =some u->x[j]? =some a->u[j]? =some b->bK Z w a b:=λi j x u a b h1 h2 h3 h4=>by
   have hj:j<s:=by rw[<-hx x (mem_of_getElem? h1)];exact(List.getElem?_eq_some_iff.1 h3).1
   exact ih (i*s+j) a b (by rw[dR hx h1 hj];exact h3) (by rw[dR hu h2 hj];exact h4) λb q=>hz b (hQ _ b q)
  rcases hown.2 with⟨hv,hn⟩|⟨g,cap,cur,hv,_,hg,h1,h2,h3,h4⟩
  ·have:xs=[]:=List.eq_nil_of_length_eq_zero hn;subst this hv;exact .sl [] none 0 0 [] (Nat.le_refl _) (Nat.zero_le _) rfl ai ai (.inl rfl) ai
  ·subst hv;exact .sl xs _ cap s us h1 h2 hl hx hu (.inr ⟨g,0,rfl,hz g (hb g rfl).1,λi u hu=>by rw[Nat.zero_add];exact lV hown rfl hu⟩) key
end
def du(w:World)(P:Nat->Prop)(ds:List AD)(us:List Value):Prop:=
 us.length=ds.length/\∃Q:Nat->Nat->Prop,(∀i b,Q i b->P b)/\(∀i j b,Q i b->Q j b->i=j)/\∀(i:Nat) a u,ds[i]? =some a->us[i]? =some u->ip w (Q i) a u
section
variable {w w':World} {P P1 P2 P':Nat->Prop} {ds d1 d2:List AD} {us u1 u2:List Value}
theorem du.mono(hp:∀b,P b->P' b)(h:du w P ds us):du w P' ds us:=by
 obtain⟨l,Q,q,e,r⟩:=h;exact⟨l,Q,λi b h=>hp b (q i b h),e,r⟩
theorem du.keep(h:du w P ds us)(hk:∀b,P b->w'.heap[b]? =w.heap[b]?):du w' P ds us:=by
 obtain⟨l,Q,q,e,r⟩:=h;exact⟨l,Q,q,e,λi a u ha hu=>(r i a u ha hu).keep λb h=>hk b (q i b h)⟩
theorem du.nil:du w P [] []:=⟨rfl,λ_ _=>False,λ_ _ h=>h.elim,λ_ _ _ h=>h.elim,λi a u ha=>by simp at ha⟩
theorem du.append(h1:du w P1 d1 u1)(h2:du w P2 d2 u2)(hd:∀b,P1 b->P2 b->False)(a1:∀b,P1 b->P b)(a2:∀b,P2 b->P b):du w P (d1++d2) (u1++u2):=by
 obtain⟨l1,Q1,q1,e1,r1⟩:=h1;obtain⟨l2,Q2,q2,e2,r2⟩:=h2;refine⟨by simp[l1,l2],λi b=>if i<d1.length then Q1 i b else Q2 (i-d1.length) b,?_,?_,?_⟩
 ·intro i b h;split at h
  ·exact a1 b (q1 _ _ h)
  ·exact a2 b (q2 _ _ h)
 ·intro i j b h h';split at h<;>split at h'
  ·exact e1 i j b h h'
  ·exact(hd b (q1 _ _ h) (q2 _ _ h')).elim
  ·exact(hd b (q1 _ _ h') (q2 _ _ h)).elim
  ·have:=e2 _ _ b h h';omega
 ·intro i a u ha hu;by_cases hi:i<d1.length
  ·rw[getElem?_append_left hi]at ha;rw[getElem?_append_left ac]at hu;simp only[if_pos hi];exact r1 i a u ha hu
  ·rw[getElem?_append_right ac]at ha;rw[getElem?_append_right ac,l1]at hu;simp only[if_neg hi];exact r2 _ a u ha hu
theorem du.split(h:du w P (d1++d2) us):∃(u1 u2:List Value) (P1 P2:Nat->Prop),us=u1++u2/\(∀b,P1 b->P2 b->False)/\(∀b,P1 b->P b)/\(∀b,P2 b->P b)/\du w P1 d1 u1/\du w P2 d2 u2:=by
 obtain⟨l,Q,q,e,r⟩:=h;have hl:us.length=d1.length+d2.length:=by simpa using l
 refine⟨us.take d1.length,us.drop d1.length,λb=>∃i,i<d1.length/\Q i b,λb=>∃i,Q (d1.length+i) b,(List.take_append_drop _ _).symm,?_,?_,?_,⟨by simp;omega,λi b=>i<d1.length/\Q i b,?_,?_,?_⟩,⟨by simp;omega,λi b=>Q (d1.length+i) b,?_,?_,?_⟩⟩
 ·rintro b ⟨i,hi,h1⟩ ⟨j,h2⟩;have:=e _ _ _ h1 h2;omega
 ·rintro b ⟨i,_,h⟩;exact q _ _ h
 ·rintro b ⟨i,h⟩;exact q _ _ h
 ·rintro i b ⟨hi,h⟩;exact⟨i,hi,h⟩
 ·rintro i j b ⟨_,h⟩ ⟨_,h'⟩;exact e _ _ _ h h'
 ·intro i a u ha hu;have hi:i<d1.length:=(List.getElem?_eq_some_iff.1 ha).1;refine(r i a u (by rw[getElem?_append_left hi];exact ha) ?_).mono λb h=>⟨hi,h⟩;rw[List.getElem?_take,if_pos hi]at hu;exact hu
 ·intro i b h;exact⟨i,h⟩
 ·intro i j b h h';have:=e _ _ _ h h';omega
 ·intro i a u ha hu;refine r _ a u (by rw[getElem?_append_right ac];simpa using ha) ?_;rw[List.getElem?_drop]at hu;exact hu
theorem du.one{d:AD}{v:Value}(h:ip w P d v):du w P [d] [v]:=by
 refine⟨rfl,λi b=>i=0/\P b,λi b h=>h.2,λi j b h h'=>by omega,λi a u ha hu=>?_⟩;cases i with
 |zero=>simp at ha hu;subst ha hu;exact h.mono λb hb=>⟨rfl,hb⟩
 |succ i=>simp at ha
theorem du.get{i:Nat}{a:AD}{u:Value}(h:du w P ds us)(ha:ds[i]? =some a)(hu:us[i]? =some u):ip w P a u:=by
 obtain⟨l,Q,q,e,r⟩:=h;exact(r i a u ha hu).mono λb h=>q i b h
theorem du.relD{Z:Nat->Prop}(h:du w P ds us)(hz:∀b,P b->Z b):us.length=ds.length/\∀(i:Nat) a u,ds[i]? =some a->us[i]? =some u->bK Z w a u:=⟨h.1,λi a u ha hu=>(h.get ha hu).relD hz⟩
end
def Fam(lo hi:Nat)(cs ds:List AD):Prop:=
 cs.length=ds.length/\∀(Z:Nat->Prop) (w:World) (us:List Value),us.length=cs.length->(∀(i:Nat) c u,cs[i]? =some c->us[i]? =some u->bK Z w c u)->du w (λb=>lo<=b/\b<hi/\Z b) ds us
def AD.isBl:AD->Bool
 | .pv _=>true
 | .sl []=>true
 |_=>false
theorem KP{Z P:Nat->Prop}{w:World}{d:AD}{u:Value}(hb:d.isBl=true)(h:bK Z w d u):ip w P d u:=by
 cases h with
 |pv _ h1=>exact .pv _ _ h1
 |sl xs A cap s us hc hm hl hx hu hr h=>
  cases xs with
  |nil=>exact .emp _ _ _ hm
  |cons x r=>cases hb
 |x R _ h1 h=>cases hb
theorem TX{lo hi:Nat}{ds:List AD}(h:ds.all AD.isBl=true):Fam lo hi ds ds:=by
 refine⟨rfl,λZ w us hl hr=>⟨hl,λ_ _=>False,λ_ _ h=>h.elim,λ_ _ _ h=>h.elim,λi a u ha hu=>?_⟩⟩;exact KP (List.all_eq_true.1 h a (mem_of_getElem? ha)) (hr i a u ha hu)
theorem Fam.mono{lo hi lo' hi':Nat}{cs ds:List AD}(h:Fam lo hi cs ds)(h1:lo'<=lo)(h2:hi<=hi'):Fam lo' hi' cs ds:=
 ⟨h.1,λZ w us hl hr=>(h.2 Z w us hl hr).mono λb hb=>⟨ac,ac,hb.2.2⟩⟩
theorem Fam.app{lo m l2 h2:Nat}{c1 d1 c2 d2:List AD}(h:Fam lo m c1 d1)(h':Fam l2 h2 c2 d2)(e1:m<=l2)(e2:lo<=m)(e3:m<=h2):Fam lo h2 (c1++c2) (d1++d2):=by
 refine⟨by simp[h.1,h'.1],λZ w us hl hr=>?_⟩;have hlen:us.length=c1.length+c2.length:=by simpa using hl
 have t1:=h.2 Z w (us.take c1.length) al λi c u hc hu=>by
  have hi:i<c1.length:=(List.getElem?_eq_some_iff.1 hc).1;rw[List.getElem?_take,if_pos hi]at hu;exact hr i c u (by rw[getElem?_append_left hi];exact hc) hu
 have t2:=h'.2 Z w (us.drop c1.length) al λi c u hc hu=>by
  rw[List.getElem?_drop]at hu;exact hr _ c u (by rw[getElem?_append_right ac];simpa using hc) hu
 have:=t1.append (P:=λb=>lo<=b/\b<h2/\Z b) t2 (λb p q=>by omega) (λb p=>⟨p.1,ac,p.2.2⟩) λb p=>⟨ac,p.2.1,p.2.2⟩;rwa[List.take_append_drop]at this
theorem Fam.flat_set{lo m l2 h2:Nat}{cs ds:List (List AD)}{c d:List AD}(h:Fam lo m cs.flatten ds.flatten)(h':Fam l2 h2 c d)(e1:m<=l2)(e2:lo<=m)(e3:m<=h2):Fam lo h2 (cs++[c]).flatten (ds++[d]).flatten:=by
 rw[List.flatten_append,List.flatten_append];simpa using h.app h' e1 e2 e3
def DD(lo hi:Nat)(w:World):AP1->Value->Prop
 | .one d,v=>du w (λb=>lo<=b/\b<hi) [d] [v]
 | .agg ds,v=>∃us:List Value,v= .agg us.toArray/\du w (λb=>lo<=b/\b<hi) ds us
structure mh (E:a6) (f:FuncId) (args:List AP1) (res:AP1):Prop where
 enter:∀(us:Array Value) w,(callFunc f us).run E.P w= .ok (.enter f us) w
 run:∀(Z:Nat->Prop) (w:World) (us:List Value),(∀b,Z b->b<w.heap.size)->GZ E.W Z w->us.length=args.length->(∀(i:Nat) p u,args[i]? =some p->us[i]? =some u->dJ Z w p u)->
  Calls E.P f us.toArray w λe w'=>∃v,e= .returned v/\Below w.heap.size w w'/\DD w.heap.size w'.heap.size w' res v
theorem DD.relP{lo hi:Nat}{w:World}{p:AP1}{v:Value}{Z:Nat->Prop}(h:DD lo hi w p v)(hz:∀b,lo<=b->b<hi->Z b):dJ Z w p v:=by
 cases p with
 |one d=>exact(du.relD h λb hb=>hz b hb.1 hb.2).2 0 d v rfl rfl
 |agg ds=>
  obtain⟨us,rfl,h⟩:=h;have:=du.relD h λb hb=>hz b hb.1 hb.2;exact⟨us,rfl,this.1,this.2⟩
theorem mh.pcall{E:a6}{f:FuncId}{args:List AP1}{res:AP1}(h:mh E f args res):aM E f args (.val res):=by
 refine⟨h.enter,λZ w us hz hg hl hr=>(h.run Z w us hz hg hl hr).mono ?_⟩;rintro e w' ⟨v,rfl,hb,hv⟩;exact⟨v,λb=>Z b\/(w.heap.size<=b/\b<w'.heap.size),rfl,hb,λb hb=> .inl hb,λb hb=>hb,hv.relP λb h1 h2=> .inr ⟨h1,h2⟩⟩
def Rm(n m:Nat):(Nat->Prop)->World->Value->Prop:=λZ _ _=>m<=n\/∃k,m=k+1/\Z k
def sj(n m:Nat):AO:= .frame [.one (.d (.x (Rm n m)))] [.bool true]
theorem xg{Z:Nat->Prop}{w:World}{ρ:Nat->Value}{id n m:Nat}(hρ:ρ id=undef)(h:m<=n\/∃k,m=k+1/\Z k):cu Z w ρ id (sj n m):=by
 refine⟨hρ,rfl,λi x u hx hu=>?_⟩;cases i with
 |zero=>
  simp at hx hu;subst hx hu;refine .one _ _ (show bK Z w (.x (Rm n m)) (.bool true)from .x _ _ rfl λZ' w' hz hb=>?_);rcases h with h|⟨k,e,h⟩
  ·exact .inl h
  ·exact .inr ⟨k,e,hz k h⟩
 |succ i=>simp at hx
theorem Nz{Z:Nat->Prop}{w:World}{ρ:Nat->Value}{id n m:Nat}(h:cu Z w ρ id (sj n m)):m<=n\/∃k,m=k+1/\Z k:=by
 have:=h.2.2 0 _ _ rfl rfl;cases this with
 |one _ _ h=>
  have h:bK Z w (.x (Rm n m)) (.bool true):=h;cases h with
  |x R v h1 h=>exact h Z w (λ_ h=>h) λ_ _=>rfl
theorem WS.reframe{T:World->Prop}{S:bj}{Z:Nat->Prop}{w:World}{ρ:Nat->Value}{ob:List (Nat×AO)}(h:WS T S Z w ρ ob){id:Nat}{vs:List AV}{us:List Value}(hrel:cu Z w ρ id (.frame vs us)):WS T S Z w ρ (fg ob id (.frame vs us)):=by
 have nob:br (ρ id)=none:=by rw[hrel.1];rfl
 refine⟨h.os,h.tape,h.output,h.size,h.old,h.zlt,λj o b ho hb=>?_,λi j oi oj b hi hj hij hbi hbj=>?_,λj o ho=>?_,⟨λj P Q ho=>?_,λi j P Q P' Q' hi hj=>?_⟩,h.g,h.z0,h.znew⟩
 ·rw[bH]at ho;split at ho
  ·rename_i e;subst e;rw[nob]at hb;cases hb
  ·exact h.mine j o b ho hb
 ·rw[bH]at hi hj;split at hi
  ·rename_i e;subst e;rw[nob]at hbi;cases hbi
  ·split at hj
   ·rename_i e;subst e;rw[nob]at hbj;cases hbj
   ·exact h.sep i j oi oj b hi hj hij hbi hbj
 ·rw[bH]at ho;split at ho
  ·rename_i e;subst e;injection ho with ho;subst ho;exact hrel.up
  ·exact h.obj j o ho
 ·rw[bH]at ho;split at ho
  ·cases ho
  ·obtain⟨h1,h2⟩:=h.many.ok j P Q ho;refine⟨λb hb=>⟨(h1 b hb).1,(h1 b hb).2.1,(h1 b hb).2.2.1,λi o hi hbi=>?_⟩,h2⟩;rw[bH]at hi;split at hi
   ·rename_i e;subst e;rw[nob]at hbi;cases hbi
   ·exact(h1 b hb).2.2.2 i o hi hbi
 ·rw[bH]at hi hj;split at hi
  ·cases hi
  ·split at hj
   ·cases hj
   ·exact h.many.sep i j P Q P' Q' hi hj
def qN(R:Nat->(Nat->Prop)->World->Value->Prop):Nat->List AD->List AD
 |_,[]=>[]
 |i,.pv v::r=> .pv v::qN R (i+1) r
 |i,_::r=> .x (R i)::qN R (i+1) r
def OX(R:Nat->(Nat->Prop)->World->Value->Prop):AP1->AV
 | .one (.pv v)=> .one (.d (.pv v))
 | .one _=> .one (.d (.x (R 0)))
 | .agg ds=> .agg ((qN R 0 ds).map .d)
def f7:AP1->List AD
 | .one d=>[d]
 | .agg ds=>ds
theorem lU(R:Nat->(Nat->Prop)->World->Value->Prop):∀(ds:List AD) (i:Nat),(qN R i ds).length=ds.length
 |[],_=>rfl
 | .pv _::r,i=>by simp[qN,lU R r]
 | .sl _::r,i=>by simp[qN,lU R r]
 | .x _::r,i=>by simp[qN,lU R r]
theorem Au(R:Nat->(Nat->Prop)->World->Value->Prop):∀{ds:List AD} {k i:Nat} {c:AD},(qN R k ds)[i]? =some c->∃d,ds[i]? =some d/\((∃v,d= .pv v/\c= .pv v)\/c= .x (R (k+i)))
 |[],_,_,_,h=>by simp[qN]at h
 |d::r,k,0,c,h=>by
  refine⟨d,rfl,?_⟩;cases d with
  |pv v=>simp[qN]at h;exact .inl ⟨v,rfl,h.symm⟩
  |sl xs=>simp[qN]at h;exact .inr h.symm
  |x R'=>simp[qN]at h;exact .inr h.symm
 |d::r,k,i+1,c,h=>by
  have h':(qN R (k+1) r)[i]? =some c:=by cases d<;>simpa[qN]using h
  obtain⟨d',h1,h2⟩:=Au R h';refine⟨d',by simpa using h1,?_⟩;rcases h2 with h2|h2
  ·exact .inl h2
  ·exact .inr (by rw[h2];congr 2;omega)
section
variable {E:a6} {S:bj}
theorem TY{f:FuncId}{args:List AV}{tm:List AV}{ob:List (Nat×AO)}{K:AV->ASt->Prop}{ps:List AP1}{res:AP1}{m:Nat}(hc:mh E f ps res)(hps:aRs ob args (· =ps))(hm:aOb ob 9997 λo=>o=sj S.w0.heap.size m)
  (hk:∀R lo hi,m<=lo->lo<=hi->Fam lo hi (qN R 0 (f7 res)) (f7 res)->gI 9997 (sj S.w0.heap.size hi) ob λob=>K (OX R res) ⟨tm,ob⟩):aG E S f args ⟨tm,ob⟩ K:=by
 refine⟨hc.enter,λZ ρ a w us hs hl hr=>?_⟩;obtain⟨ps',h1,h2,rfl⟩:=g8 hs.ws hl hr hps;obtain⟨o,ho,rfl⟩:=bY hm;have hmark:=Nz (hs.ws.obj 9997 _ ho);have hρ:ρ 9997=undef:=(hs.ws.obj 9997 _ ho).1;have hmle:m<=w.heap.size:=by
  rcases hmark with h|⟨k,e,h⟩
  ·exact Nat.le_trans h hs.ws.size
  ·have:=hs.ws.zlt k h;omega
 refine(hc.run (g6 Z ρ ob) w us (g6.lt hs.ws) ?_ h1 h2).mono ?_
 ·obtain⟨w1,g1,g2,g3⟩:=hs.ws.g;exact⟨w1,g1,g2,λb hb=> .inl (g3 b hb)⟩
 ·rintro e w' ⟨v,rfl,hb,hv⟩;have hsz:=hb.size;obtain⟨us',hf,hvu⟩:∃us',du w' (λb=>w.heap.size<=b/\b<w'.heap.size) (f7 res) us'/\(match res with| .one _=>us'=[v]| .agg _=>v= .agg us'.toArray):=by
   cases res with
   |one d=>exact⟨[v],hv,rfl⟩
   |agg ds=>obtain⟨us',e,h⟩:=hv;exact⟨us',h,e⟩
  obtain⟨lF,Q,q,eQ,rQ⟩:=hf;let R:Nat->(Nat->Prop)->World->Value->Prop:=λi Zx wx u=>(∀b,Q i b->Zx b)/\∃a,(f7 res)[i]? =some a/\ip wx (Q i) a u
  let Z':Nat->Prop:=λb=>Z b\/(w.heap.size<=b/\b<w'.heap.size)
  have hg:=hs.grow (Z':=Z') (eJ hb) (λb h=> .inl h) λb h=>h;have hcell:∀(i:Nat) c u,(qN R 0 (f7 res))[i]? =some c->us'[i]? =some u->bK Z' w' c u:=by
   intro i c u hc hu;obtain⟨d,hd,h⟩:=Au R hc;have ht:=rQ i d u hd hu;rcases h with⟨x,rfl,rfl⟩|h
   ·cases ht with|pv _ _ h1=>exact .pv _ h1
   ·rw[Nat.zero_add]at h;subst h;refine .x _ _ ht.one λZx wx hzx hbx=>⟨λb hb=>hzx b (.inr (q i b hb)),d,hd,ht.keep λb hb=>hbx b (.inr (q i b hb))⟩
  have hfam:∀lo hi:Nat,(∀b,w.heap.size<=b->b<w'.heap.size->lo<=b/\b<hi)->Fam lo hi (qN R 0 (f7 res)) (f7 res):=by
   intro lo hi hlh;refine⟨lU R _ _,λZx wx ux hl hr=>⟨by rw[hl,lU],λi b=>Q i b/\Zx b,λi b h=>?_,λi j b h h'=>eQ i j b h.1 h'.1,λi a u ha hu=>?_⟩⟩
   ·have:=hlh b (q i b h.1).1 (q i b h.1).2;exact⟨this.1,this.2,h.2⟩
   ·have hi:i<(qN R 0 (f7 res)).length:=by rw[lU];exact(List.getElem?_eq_some_iff.1 ha).1
    obtain⟨d,hd,h⟩:=Au R (getElem?_eq_getElem hi);have hrel:=hr i _ u (getElem?_eq_getElem hi) hu;rw[ha]at hd;injection hd with hd
    subst hd;rcases h with⟨x,e1,e2⟩|h
    ·rw[e2]at hrel;rw[e1];cases hrel with|pv _ h1=>exact .pv _ _ h1
    ·rw[h,Nat.zero_add]at hrel;cases hrel with
     |x _ _ h1 hR=>
      obtain⟨hz,a',ha',ht⟩:=hR Zx wx (λ_ h=>h) λ_ _=>rfl;rw[ha]at ha';injection ha' with ha'
      subst ha';exact ht.mono λb hb=>⟨hb,hz b hb⟩
  have hval:bv Z' w' ρ (OX R res) v:=by
   cases res with
   |one d=>
    simp only at hvu;subst hvu;cases d with
    |pv x=>exact .one _ _ (hcell 0 (.pv x) v rfl rfl)
    |sl xs=>exact .one _ _ (hcell 0 (.x (R 0)) v rfl rfl)
    |x R'=>exact .one _ _ (hcell 0 (.x (R 0)) v rfl rfl)
   |agg ds=>
    simp only at hvu;subst hvu;refine .agg _ us' (by rw[List.length_map,lU];exact lF) λi c u hc hu=>?_;rw[List.getElem?_map]at hc;obtain⟨d,hd,rfl⟩:=Option.map_eq_some_iff.1 hc;exact hcell i d u hd hu
  have fin:∀hi:Nat,(hi<=S.w0.heap.size\/∃k,hi=k+1/\Z' k)->Sim E.W S Z' ρ ⟨tm,fg ob 9997 (sj S.w0.heap.size hi)⟩ a w':=λhi h=>
   ⟨hg.ws.reframe (xg hρ h),hg.len,hg.tm,hg.df⟩
  by_cases hlt:w.heap.size<w'.heap.size
  ·refine⟨v,_,_,Z',ρ,rfl,fin w'.heap.size (.inr ⟨w'.heap.size-1,ac,.inr ac⟩),hval,ed (K:=λob=>K (OX R res) ⟨tm,ob⟩) (hk R w.heap.size w'.heap.size hmle hsz (hfam _ _ λb h1 h2=>⟨h1,h2⟩))⟩
  ·refine⟨v,_,_,Z',ρ,rfl,fin m ?_,hval,ed (K:=λob=>K (OX R res) ⟨tm,ob⟩) (hk R m m (Nat.le_refl _) (Nat.le_refl _) (hfam _ _ λb h1 h2=>by omega))⟩;rcases hmark with h|⟨k,e,h⟩
   ·exact .inl h
   ·exact .inr ⟨k,e,.inl h⟩
def Ka(ob:List (Nat×AO))(n:Nat)(x:AV)(res:AP1):Prop:=
 match x with
 | .one .nil=>res= .one (.sl [])
 | .one (.own id)=>aOb ob id λo=>match o with
  | .row _ s xs=>∃(lo hi:Nat) (ys:List (List AD)),n<=lo/\Fam lo hi xs.flatten ys.flatten/\ys.length=xs.length/\(∀y∈ys,y.length=s)/\res= .one (.sl ys)
  |_=>False
 | .one (.d c)=>∃(lo hi:Nat) (d:AD),n<=lo/\Fam lo hi [c] [d]/\res= .one d
 | .agg cs=>Fs cs λcs'=>∃(lo hi:Nat) (ds:List AD),n<=lo/\Fam lo hi cs' ds/\res= .agg ds
 |_=>False
def Fl(E:a6)(st:ASt)(n:Nat)(rs:List ResultVar)(res:AP1):Prop:=
 match rs with
 |[.tmp t]=>aTm st.tm t λv=>Ka st.ob n v res
 |[.cell t ty]=>aTm st.tm t λx=>tZ E st ty x λv=>Ka st.ob n v res
 |_=>False
def Sr(E:a6)(rs:List ResultVar)(n:Nat)(res:AP1):Exit->ASt->Prop
 | .ret,st=>Fl E st n rs res
 | .normal,st=>Fl E st n rs res
 |_,_=>False
theorem Cp{st:ASt}{Z:Nat->Prop}{ρ:Nat->Value}{w:World}(h:WS E.W S Z w ρ st.ob)(hO:∀b,¬S.O b){x:AV}{v:Value}{res:AP1}(hv:bv Z w ρ x v)(hk:Ka st.ob S.w0.heap.size x res):DD S.w0.heap.size w.heap.size w res v:=by
 have up:∀{lo hi:Nat} {ds us},S.w0.heap.size<=lo->du w (λb=>lo<=b/\b<hi/\Z b) ds us->du w (λb=>S.w0.heap.size<=b/\b<w.heap.size) ds us:=λhn hf=>hf.mono λb hb=>⟨ac,h.zlt b hb.2.2⟩;unfold Ka at hk;split at hk
 ·subst hk;cases hv with
  |one _ _ hv=>
   have hv:v= .slice none 0 0:=hv;subst hv;exact .one (.emp _ _ _ (Nat.zero_le _))
 ·rename_i id;obtain⟨o,ho,hk⟩:=bY hk;split at hk
  ·rename_i e s xs;obtain⟨lo,hi,ys,hn,hf,hyl,hys,rfl⟩:=hk;obtain⟨us,h0,hl,hxs,hus,hown,hd⟩:=h.obj id _ ho;cases hv with
   |one _ _ hv=>
    have hv:v=ρ id:=hv.1;subst hv;have hlx:xs.flatten.length=xs.length*s:=j9 hxs;obtain⟨lF,Q,q,eQ,rQ⟩:=hf.2 Z w us.flatten (by rw[j9 hus,hlx,hl]) λi c u hc hu=>by
     have hi:i<xs.length*s:=by rw[<-hlx];exact(List.getElem?_eq_some_iff.1 hc).1
     have hs:0<s:=h0;have hdm:i=i/s*s+i % s:=(Nat.div_add_mod' i s).symm;have hr:i % s<s:=Nat.mod_lt _ hs;have hk:i/s<xs.length:=Nat.div_lt_of_lt_mul (by rw[Nat.mul_comm];exact hi);rw[hdm,dR hxs (getElem?_eq_getElem hk) hr]at hc;rw[hdm,dR hus (getElem?_eq_getElem ac) hr]at hu;exact hd _ _ _ _ c u (getElem?_eq_getElem hk) (getElem?_eq_getElem ac) hc hu
    refine .one (.sl _ ys e s us _ Q h0 (by rw[hl,hyl]) hys hus (by rw[hyl];exact hown) (λb hb=>?_) (λi b hb=>⟨by have:=(q i b hb).1;omega,h.zlt b (q i b hb).2.2⟩) eQ rQ);have hm:=h.mine id _ b ho hb;exact⟨⟨hm.2.resolve_right (hO b),h.lt ho hb⟩,λi hq=>hm.1 (q i b hq).2.2⟩
  ·exact hk.elim
 ·obtain⟨lo,hi,d,hn,hf,rfl⟩:=hk;cases hv with
  |one _ _ hv=>
   refine up hn (hf.2 Z w [v] rfl λi c' u hc hu=>?_);cases i with
   |zero=>simp at hc hu;subst hc hu;exact hv
   |succ i=>simp at hc
 ·rename_i cs;obtain⟨cs',hk,hl',hr'⟩:=lG hk;obtain⟨lo,hi,ds,hn,hf,rfl⟩:=hk;cases hv with
  |agg _ us hl hr=>
   refine⟨us,rfl,up hn (hf.2 Z w us (by rw[hl,hl']) λi c u hc hu=>?_)⟩;have hi:i<cs.length:=by rw[<-hl'];exact(List.getElem?_eq_some_iff.1 hc).1
   exact hr' i c cs[i] u hc (getElem?_eq_getElem hi) (hr i _ u (getElem?_eq_getElem hi) hu)
 ·exact hk.elim
theorem Lm{st:ASt}(he:E.Ok){Z:Nat->Prop}{ρ:Nat->Value}{a:Act}{w:World}(h:Sim E.W S Z ρ st a w)(hO:∀b,¬S.O b){fn:Func}{res:AP1}(hk:Fl E st S.w0.heap.size fn.results.toList res):
  ∃v,(results fn a.tmps).run E.P w= .ok v w/\DD S.w0.heap.size w.heap.size w res v:=by
 have hres:∀vs:List Value,(fn.results.toList.mapM (eE a.tmps)).run E.P w= .ok vs w->(results fn a.tmps).run E.P w= .ok (if h:vs.toArray.size=1 then vs.toArray[0]else .tuple vs.toArray) w:=by
  intro vs hvs;have e:results fn a.tmps=(do let vs<-fn.results.mapM (eE a.tmps);pure (if h:vs.size=1 then vs[0]else .tuple vs)):=rfl;rw[e,Sem.run_bind,Array.mapM_eq_mapM_toList,Sem.run_map,hvs];rfl
 unfold Fl at hk;split at hk
 ·rename_i t hr;obtain⟨x,hx,hk⟩:=jk hk;have hlt:t<a.tmps.size:=by rw[h.len];exact(List.getElem?_eq_some_iff.1 hx).1
  have hp:=Cp h.ws hO (h.tm t x _ hx (Array.getElem?_eq_getElem hlt)) hk;have h1:(eE a.tmps (.tmp t)).run E.P w= .ok a.tmps[t] w:=by simp[eE,hlt]
  have:=hres [a.tmps[t]] (by rw[hr,List.mapM_cons,Sem.run_bind,h1];rfl);exact⟨a.tmps[t],this,hp⟩
 ·rename_i t ty hr;obtain⟨x,hx,hk⟩:=jk hk;have hlt:t<a.tmps.size:=by rw[h.len];exact(List.getElem?_eq_some_iff.1 hx).1
  obtain⟨b,off,v,y,e,hrl,hy,hk⟩:=sg he h (h.tm t x _ hx (Array.getElem?_eq_getElem hlt)) hk;have hp:=Cp h.ws hO hy hk;have h1:(eE a.tmps (.cell t ty)).run E.P w= .ok v w:=by simp[eE,hlt,e,asAddr,hrl]
  have:=hres [v] (by rw[hr,List.mapM_cons,Sem.run_bind,h1];rfl);exact⟨v,this,hp⟩
 ·exact hk.elim
theorem Nm(he:E.Ok){f:FuncId}{fn:Func}{c:Code}{n:Nat}{rs:List ResultVar}{args:List AP1}{res:AP1}(hf:E.P.funcs[f]? =some fn)(hb:fn.body=some c)
  (enter:∀(us:Array Value) w,(callFunc f us).run E.P w= .ok (.enter f us) w) (hn:fn.ntmps=n) (hrs:fn.results.toList=rs)
  (h:∀S:bj,zk args n λtm=>AWP E S c (Sr E rs S.w0.heap.size res) ⟨tm,[(9997,sj S.w0.heap.size S.w0.heap.size)]⟩):mh E f args res:=by
 refine⟨enter,λZ w us hz hg hl hr=>?_⟩;subst hn hrs;obtain⟨hle,hk⟩:=np (h ⟨w,λ_=>False,Z⟩);have hs:Sim E.W ⟨w,λ_=>False,Z⟩ Z (λ_=>undef) ⟨args.map AP1.v++List.replicate (fn.ntmps-args.length) (.one .und),[(9997,sj w.heap.size w.heap.size)]⟩ {tmps:=us.toArray++Array.replicate (fn.ntmps-us.toArray.size) undef,defers:=[]} w:=by
  have hw0:WS E.W ⟨w,λ_=>False,Z⟩ Z w (λ_=>undef) []:=⟨rfl,rfl,rfl,Nat.le_refl _,λ_ _ _=>rfl,hz,λid o b ho _=>(by cases ho),λi j oi oj b hi _ _ _ _=>(by cases hi),λid o ho=>(by cases ho),ji.nil,hg,λb hb=>hb,λb hb=> .inl hb⟩;refine⟨hw0.reframe (id:=9997) (xg rfl (.inl (Nat.le_refl _))),by simp[hl],λi x v hx hv=>?_,rfl⟩;simp only at hx hv;have hv':(us++List.replicate (fn.ntmps-us.length) undef)[i]? =some v:=by
   have:=hv;rw[<-Array.getElem?_toList]at this;simpa using this
  by_cases hi:i<us.length
  ·rw[getElem?_append_left (by simpa[hl]using hi),List.getElem?_map]at hx;obtain⟨p,hp,rfl⟩:=Option.map_eq_some_iff.1 hx;rw[getElem?_append_left hi]at hv';exact(hr i p v hp hv').v
  ·rw[getElem?_append_right al]at hx;rw[getElem?_append_right ac]at hv';have e1:=List.eq_of_mem_replicate (mem_of_getElem? hx);have e2:=List.eq_of_mem_replicate (mem_of_getElem? hv');subst e1 e2;exact .one _ _ (show dZ Z w (λ_=>undef) .und undef from rfl)
 refine calls_of_wp hf hb (wp_mono (hk.run _ w ⟨Z,_,hs⟩) λe a' w' h'=>?_);obtain⟨st',⟨Z',ρ',hs'⟩,hk'⟩:=h';have fin:Fl E st' w.heap.size fn.results.toList res->a'.defers=[]/\∃v,(results fn a'.tmps).run E.P w'= .ok v w'/\∃v0,Ending.returned v= .returned v0/\Below w.heap.size w w'/\DD w.heap.size w'.heap.size w' res v0:=by
  intro hr;obtain⟨v,h1,h2⟩:=Lm he hs' (λb h=>h) hr;exact⟨hs'.df,v,h1,v,rfl,⟨hs'.ws.os,hs'.ws.tape,hs'.ws.output,hs'.ws.size,λb hb=>hs'.ws.old b hb (λh=>h)⟩,h2⟩
 cases e with
 |normal=>exact fin hk'
 |ret=>exact fin hk'
 |_=>exact hk'.elim
end
end
section
open Go.RowKit
theorem bls{xs:List (List AD)}(h:∀x∈xs,x.all AD.isBl=true:=by(intro y hy;obtain⟨a,_,rfl⟩:=List.mem_map.1 hy;rfl)):∀x∈xs,x.all AD.isBl=true:=h
structure wJ (s:Nat) (xs:List (List AD)) (K:List (List AD)->List (Nat×Nat)->Prop):Prop where
 h:((∀x∈xs,x.all AD.isBl=true)/\K xs [])\/∃(lo hi:Nat) (ys:List (List AD)),Fam lo hi xs.flatten ys.flatten/\ys.length=xs.length/\(∀y∈ys,y.length=s)/\K ys [(lo,hi)]
theorem Uk{s:Nat}{xs:List (List AD)}{K:List (List AD)->List (Nat×Nat)->Prop}(hb:∀x∈xs,x.all AD.isBl=true)(hk:K xs []):wJ s xs K:=⟨.inl ⟨hb,hk⟩⟩
theorem wJ.fam{s:Nat}{xs ys:List (List AD)}{K:List (List AD)->List (Nat×Nat)->Prop}{lo hi:Nat}(F:Fam lo hi xs.flatten ys.flatten)(hl:ys.length=xs.length)(hs:∀y∈ys,y.length=s)(hk:K ys [(lo,hi)]):wJ s xs K:=⟨.inr ⟨lo,hi,ys,F,hl,hs,hk⟩⟩
def zg(ob:List (Nat×AO)):List AC->List Nat->(List AD->List (Option (List (List AD)))->List (Nat×Nat)->Prop)->Prop
 |[],_,K=>K [] [] []
 | .own id::r,L,K=>match inL L id with
  |true=>False
  |false=>aOb ob id λo=>match o with
   | .row _ s xs=>wJ s xs λys iv=>zg ob r (id::L) λcs p IV=>K cs (some ys::p) (iv++IV)
   |_=>False
 | .d x::r,L,K=>zg ob r L λcs p IV=>K (x::cs) (none::p) IV
 | .nil::r,L,K=>zg ob r L λcs p IV=>K (.sl []::cs) (none::p) IV
 |_::_,_,_=>False
def ivD(a:Nat×Nat):List (Nat×Nat)->Prop
 |[]=>True
 |b::r=>(a.2<=b.1\/b.2<=a.1)/\ivD a r
def ivs(n:Nat):List (Nat×Nat)->Prop
 |[]=>True
 |a::r=>n<=a.1/\ivD a r/\ivs n r
def yY(Z:Nat->Prop)(IV:List (Nat×Nat))(b:Nat):Prop:=∃a∈IV,a.1<=b/\b<a.2/\Z b
theorem Ek{a:Nat×Nat}{Z:Nat->Prop}{b:Nat}(h1:a.1<=b)(h2:b<a.2):∀{IV:List (Nat×Nat)},ivD a IV->¬yY Z IV b
 |[],_,⟨x,hx,_⟩=>by cases hx
 |c::r,hd,⟨x,hx,e1,e2,hz⟩=>by
  rcases List.mem_cons.1 hx with rfl|hx
  ·rcases hd.1 with h|h<;>omega
  ·exact Ek h1 h2 hd.2 ⟨x,hx,e1,e2,hz⟩
def FY:List (Option (List (List AD)))->List AD->List AD
 |[],_=>[]
 |some xs::p,ds=> .sl xs::FY p ds
 |none::p,d::ds=>d::FY p ds
 |none::_,[]=>[]
section
variable {E:a6} {S:bj} {Z:Nat->Prop} {ρ:Nat->Value} {w:World} {ob:List (Nat×AO)}
theorem C5(h:WS E.W S Z w ρ ob){id s lo hi:Nat}{e:TypeId}{xs ys:List (List AD)}(ho:a5 ob id=some (.row e s xs))(hf:Fam lo hi xs.flatten ys.flatten)(hyl:ys.length=xs.length)(hys:∀y∈ys,y.length=s):ip w (λb=>br (ρ id)=some b\/(lo<=b/\b<hi/\Z b)) (.sl ys) (ρ id):=by
 obtain⟨us,h0,hl,hxs,hus,hown,hd⟩:=h.obj id _ ho;have hlx:xs.flatten.length=xs.length*s:=j9 hxs;obtain⟨lF,Q,q,eQ,rQ⟩:=hf.2 Z w us.flatten (by rw[j9 hus,hlx,hl]) λi c u hc hu=>by
  have hi:i<xs.length*s:=by rw[<-hlx];exact(List.getElem?_eq_some_iff.1 hc).1
  have hs:0<s:=h0;have hdm:i=i/s*s+i % s:=(Nat.div_add_mod' i s).symm;have hr:i % s<s:=Nat.mod_lt _ hs;have hk:i/s<xs.length:=Nat.div_lt_of_lt_mul (by rw[Nat.mul_comm];exact hi);rw[hdm,dR hxs (List.getElem?_eq_getElem hk) hr]at hc;rw[hdm,dR hus (List.getElem?_eq_getElem ac) hr]at hu;exact hd _ _ _ _ c u (List.getElem?_eq_getElem hk) (List.getElem?_eq_getElem ac) hc hu
 refine .sl _ ys e s us _ Q h0 (by rw[hl,hyl]) hys hus (by rw[hyl];exact hown) (λb hb=>?_) (λi b hb=> .inr (q i b hb)) eQ rQ;exact⟨.inl hb,λi hq=>(h.mine id _ b ho hb).1 (q i b hq).2.2⟩
theorem Kr{xs:List (List AD)}(h:∀x∈xs,x.all AD.isBl=true):xs.flatten.all AD.isBl=true:=by
 rw[List.all_eq_true];intro a ha;obtain⟨x,hx,hax⟩:=List.mem_flatten.1 ha;exact List.all_eq_true.1 (h x hx) a hax
def MT(ρ:Nat->Value)(ob:List (Nat×AO))(L:List Nat)(b:Nat):Prop:=∃id o,inL L id=false/\a5 ob id=some o/\br (ρ id)=some b
theorem vN{L:List Nat}{i j:Nat}(h:inL (i::L) j=false):inL L j=false/\j≠i:=by
 simp only[inL,List.contains_cons,Bool.or_eq_false_iff,beq_eq_false_iff_ne]at h;exact⟨h.2,h.1⟩
theorem vK(h:WS E.W S Z w ρ ob):∀{cs:List AC} {us:List Value} {L:List Nat} {K:List AD->List (Option (List (List AD)))->List (Nat×Nat)->Prop},us.length=cs.length->(∀(i:Nat) c u,cs[i]? =some c->us[i]? =some u->dZ Z w ρ c u)->zg ob cs L K->
  ∃cs' pat us' IV,K cs' pat IV/\us'.length=cs'.length/\(∀(i:Nat) c u,cs'[i]? =some c->us'[i]? =some u->bK Z w c u)/\∀(n:Nat) (P:Nat->Prop) ds,ivs n IV->du w P ds us'->(∀b,P b->Z b/\¬yY Z IV b)->du w (λb=>P b\/MT ρ ob L b\/yY Z IV b) (FY pat ds) us
 |[],[],L,K,_,_,hk=>⟨[],[],[],[],hk,rfl,by simp,λn P ds _ hf _=>by
   have:ds=[]:=List.eq_nil_of_length_eq_zero (by simpa using hf.1.symm);subst this;exact du.nil⟩
 |[],_::_,_,_,hl,_,_=>by simp at hl
 |_::_,[],_,_,hl,_,_=>by simp at hl
 |c::r,u::us,L,K,hl,hr,hk=>by
  have hl':us.length=r.length:=by simpa using hl
  have hr':∀(i:Nat) c u,r[i]? =some c->us[i]? =some u->dZ Z w ρ c u:=λi x y h1 h2=>hr (i+1) x y (by simpa using h1) (by simpa using h2);have h0:dZ Z w ρ c u:=hr 0 c u rfl rfl;have data:∀x:AD,bK Z w x u->(zg ob r L λcs p IV=>K (x::cs) (none::p) IV)->∃cs' pat us' IV,K cs' pat IV/\us'.length=cs'.length/\(∀(i:Nat) c u,cs'[i]? =some c->us'[i]? =some u->bK Z w c u)/\∀(n:Nat) (P:Nat->Prop) ds,ivs n IV->du w P ds us'->(∀b,P b->Z b/\¬yY Z IV b)->du w (λb=>P b\/MT ρ ob L b\/yY Z IV b) (FY pat ds) (u::us):=λx hx hk=>by
   obtain⟨cs',pat,us',IV,hK,h1,h2,h3⟩:=vK h hl' hr' hk;refine⟨x::cs',none::pat,u::us',IV,hK,by simp[h1],λi y v e1 e2=>?_,λn P ds hiv hf hP=>?_⟩
   ·cases i with
    |zero=>simp at e1 e2;subst e1 e2;exact hx
    |succ i=>exact h2 i y v (by simpa using e1) (by simpa using e2)
   ·cases ds with
    |nil=>have:=hf.1;simp at this
    |cons d ds=>
     obtain⟨u1,u2,P1,P2,eu,dj,a1,a2,f1,f2⟩:=du.split (d1:=[d]) (d2:=ds) hf;have hu1:u1=[u]/\u2=us':=by
      have:=f1.1;match u1,this with
      |[y],_=>injection eu with e1 e2;exact⟨by rw[e1],e2.symm⟩
     obtain⟨rfl,rfl⟩:=hu1;have:=du.append (P:=λb=>P b\/MT ρ ob L b\/yY Z IV b) f1 (h3 n P2 ds hiv f2 λb hb=>hP b (a2 b hb)) (λb q1 q2=>by
      rcases q2 with q2|⟨id,o,_,ho,hb⟩|q2
      ·exact dj b q1 q2
      ·exact(h.mine id o b ho hb).1 (hP b (a1 b q1)).1
      ·exact(hP b (a1 b q1)).2 q2) (λb q=> .inl (a1 b q)) (λb q=>q.imp (a2 b) id)
     simpa[FY]using this
  cases c with
  |own id=>
   simp only[zg]at hk;split at hk
   ·exact hk.elim
   ·rename_i hin;obtain⟨o,ho,hk⟩:=bY hk;split at hk
    ·rename_i e s xs;have hu:u=ρ id:=h0.1;subst hu;rcases hk.h with⟨hb,hk⟩|⟨lo,hi,ys,hF,hyl,hys,hk⟩
     ·obtain⟨cs',pat,us',IV,hK,h1,h2,h3⟩:=vK h hl' hr' hk;refine⟨cs',some xs::pat,us',IV,hK,h1,h2,λn P ds hiv hf hP=>?_⟩;have hxs:=(h.obj id _ ho).choose_spec.2.2.1;have hrel:=C5 (lo:=0) (hi:=0) h ho (TX (Kr hb)) rfl hxs;have:=du.append (P:=λb=>P b\/MT ρ ob L b\/yY Z IV b) (du.one hrel) (h3 n P ds hiv hf hP) (λb q1 q2=>by
       rcases q1 with q1|q1
       ·rcases q2 with q2|⟨id2,o2,hin2,ho2,hb2⟩|⟨_,_,_,_,q2⟩
        ·exact(h.mine id _ b ho q1).1 (hP b q2).1
        ·exact h.sep id2 id o2 _ b ho2 ho (vN hin2).2 hb2 q1
        ·exact(h.mine id _ b ho q1).1 q2
       ·omega) (λb q=>by
       rcases q with q|q
       ·exact .inr (.inl ⟨id,_,hin,ho,q⟩)
       ·omega) (λb q=>q.imp (λh=>h) λq=>q.imp (fun⟨id2,o2,a,b,c⟩=>⟨id2,o2,(vN a).1,b,c⟩) λh=>h)
      simpa[FY]using this
     ·obtain⟨cs',pat,us',IV,hK,h1,h2,h3⟩:=vK h hl' hr' hk;refine⟨cs',some ys::pat,us',(lo,hi)::IV,hK,h1,h2,λn P ds hiv hf hP=>?_⟩;have inr:∀b,yY Z IV b->yY Z ((lo,hi)::IV) b:=λb ⟨a,ha,q⟩=>⟨a,by simp[ha],q⟩;have hrel:=C5 h ho hF hyl hys;have:=du.append (P:=λb=>P b\/MT ρ ob L b\/yY Z ((lo,hi)::IV) b) (du.one hrel) (h3 n P ds hiv.2.2 hf λb hb=>⟨(hP b hb).1,λq=>(hP b hb).2 (inr b q)⟩) (λb q1 q2=>by
       rcases q1 with q1|⟨q1,q1',q1z⟩
       ·rcases q2 with q2|⟨id2,o2,hin2,ho2,hb2⟩|⟨_,_,_,_,q2⟩
        ·exact(h.mine id _ b ho q1).1 (hP b q2).1
        ·exact h.sep id2 id o2 _ b ho2 ho (vN hin2).2 hb2 q1
        ·exact(h.mine id _ b ho q1).1 q2
       ·rcases q2 with q2|⟨id2,o2,hin2,ho2,hb2⟩|q2
        ·exact(hP b q2).2 ⟨(lo,hi),by simp,q1,q1',q1z⟩
        ·exact(h.mine id2 _ b ho2 hb2).1 q1z
        ·exact Ek q1 q1' hiv.2.1 q2) (λb q=>by
       rcases q with q|q
       ·exact .inr (.inl ⟨id,_,hin,ho,q⟩)
       ·exact .inr (.inr ⟨(lo,hi),by simp,q⟩)) (λb q=>q.imp (λh=>h) λq=>q.imp (fun⟨id2,o2,a,b,c⟩=>⟨id2,o2,(vN a).1,b,c⟩) (inr b))
      simpa[FY]using this
    ·exact hk.elim
  |d x=>exact data x h0 hk
  |nil=>
   have hu:u= .slice none 0 0:=h0;exact data (.sl []) (by rw[hu];exact .sl [] none 0 0 [] (Nat.le_refl _) (Nat.zero_le _) rfl ai ai (.inl rfl) ai) hk
  |_=>exact hk.elim
theorem Kw{n:Nat}{Z:Nat->Prop}{b:Nat}:∀{IV:List (Nat×Nat)},ivs n IV->yY Z IV b->n<=b/\Z b
 |[],_,⟨_,h,_⟩=>by cases h
 |a::r,hi,⟨x,hx,e1,e2,hz⟩=>by
  rcases List.mem_cons.1 hx with rfl|hx
  ·exact⟨Nat.le_trans hi.1 e1,hz⟩
  ·exact Kw hi.2.2 ⟨x,hx,e1,e2,hz⟩
end
def Kb(ob:List (Nat×AO))(n:Nat)(x:AV)(res:AP1):Prop:=
 match x with
 | .agg cs=>zg ob cs [] λcs' pat IV=>∃(lo hi:Nat) (ds:List AD),ivs n ((lo,hi)::IV)/\Fam lo hi cs' ds/\res= .agg (FY pat ds)
 |_=>False
def Fm(E:a6)(st:ASt)(n:Nat)(rs:List ResultVar)(res:AP1):Prop:=
 match rs with
 |[.tmp t]=>aTm st.tm t λv=>Kb st.ob n v res
 |[.cell t ty]=>aTm st.tm t λx=>tZ E st ty x λv=>Kb st.ob n v res
 |_=>False
def Ss(E:a6)(rs:List ResultVar)(n:Nat)(res:AP1):Exit->ASt->Prop
 | .ret,st=>Fm E st n rs res
 | .normal,st=>Fm E st n rs res
 |_,_=>False
section
variable {E:a6} {S:bj}
theorem Cq{st:ASt}{Z:Nat->Prop}{ρ:Nat->Value}{w:World}(h:WS E.W S Z w ρ st.ob)(hO:∀b,¬S.O b){x:AV}{v:Value}{res:AP1}(hv:bv Z w ρ x v)(hk:Kb st.ob S.w0.heap.size x res):DD S.w0.heap.size w.heap.size w res v:=by
 unfold Kb at hk;split at hk
 ·cases hv with
  |agg _ us hl hr=>
   obtain⟨cs',pat,us',IV,⟨lo,hi,ds,hiv,hf,rfl⟩,h1,h2,h3⟩:=vK h hl hr hk;refine⟨us,rfl,(h3 _ _ ds hiv.2.2 (hf.2 Z w us' h1 h2) λb hb=>⟨hb.2.2,Ek hb.1 hb.2.1 hiv.2.1⟩).mono λb hb=>?_⟩;rcases hb with hb|⟨id,o,_,ho,hbk⟩|hb
   ·exact⟨Nat.le_trans hiv.1 hb.1,h.zlt b hb.2.2⟩
   ·exact⟨(h.mine id o b ho hbk).2.resolve_right (hO b),h.lt ho hbk⟩
   ·have:=Kw hiv.2.2 hb;exact⟨this.1,h.zlt b this.2⟩
 ·exact hk.elim
theorem Ln{st:ASt}(he:E.Ok){Z:Nat->Prop}{ρ:Nat->Value}{a:Act}{w:World}(h:Sim E.W S Z ρ st a w)(hO:∀b,¬S.O b){fn:Func}{res:AP1}(hk:Fm E st S.w0.heap.size fn.results.toList res):
  ∃v,(results fn a.tmps).run E.P w= .ok v w/\DD S.w0.heap.size w.heap.size w res v:=by
 have hres:∀vs:List Value,(fn.results.toList.mapM (eE a.tmps)).run E.P w= .ok vs w->(results fn a.tmps).run E.P w= .ok (if h:vs.toArray.size=1 then vs.toArray[0]else .tuple vs.toArray) w:=by
  intro vs hvs;have e:results fn a.tmps=(do let vs<-fn.results.mapM (eE a.tmps);pure (if h:vs.size=1 then vs[0]else .tuple vs)):=rfl;rw[e,Sem.run_bind,Array.mapM_eq_mapM_toList,Sem.run_map,hvs];rfl
 unfold Fm at hk;split at hk
 ·rename_i t hr;obtain⟨x,hx,hk⟩:=jk hk;have hlt:t<a.tmps.size:=by rw[h.len];exact(List.getElem?_eq_some_iff.1 hx).1
  have hp:=Cq h.ws hO (h.tm t x _ hx (Array.getElem?_eq_getElem hlt)) hk;have h1:(eE a.tmps (.tmp t)).run E.P w= .ok a.tmps[t] w:=by simp[eE,hlt]
  have:=hres [a.tmps[t]] (by rw[hr,List.mapM_cons,Sem.run_bind,h1];rfl);exact⟨a.tmps[t],this,hp⟩
 ·rename_i t ty hr;obtain⟨x,hx,hk⟩:=jk hk;have hlt:t<a.tmps.size:=by rw[h.len];exact(List.getElem?_eq_some_iff.1 hx).1
  obtain⟨b,off,v,y,e,hrl,hy,hk⟩:=sg he h (h.tm t x _ hx (Array.getElem?_eq_getElem hlt)) hk;have hp:=Cq h.ws hO hy hk;have h1:(eE a.tmps (.cell t ty)).run E.P w= .ok v w:=by simp[eE,hlt,e,asAddr,hrl]
  have:=hres [v] (by rw[hr,List.mapM_cons,Sem.run_bind,h1];rfl);exact⟨v,this,hp⟩
 ·exact hk.elim
theorem j7(he:E.Ok){f:FuncId}{fn:Func}{c:Code}{n:Nat}{rs:List ResultVar}{args:List AP1}{res:AP1}(hf:E.P.funcs[f]? =some fn)(hb:fn.body=some c)
  (enter:∀(us:Array Value) w,(callFunc f us).run E.P w= .ok (.enter f us) w) (hn:fn.ntmps=n) (hrs:fn.results.toList=rs)
  (h:∀S:bj,zk args n λtm=>AWP E S c (Ss E rs S.w0.heap.size res) ⟨tm,[(9997,sj S.w0.heap.size S.w0.heap.size)]⟩):mh E f args res:=by
 refine⟨enter,λZ w us hz hg hl hr=>?_⟩;subst hn hrs;obtain⟨hle,hk⟩:=np (h ⟨w,λ_=>False,Z⟩);have hs:Sim E.W ⟨w,λ_=>False,Z⟩ Z (λ_=>undef) ⟨args.map AP1.v++List.replicate (fn.ntmps-args.length) (.one .und),[(9997,sj w.heap.size w.heap.size)]⟩ {tmps:=us.toArray++Array.replicate (fn.ntmps-us.toArray.size) undef,defers:=[]} w:=by
  have hw0:WS E.W ⟨w,λ_=>False,Z⟩ Z w (λ_=>undef) []:=⟨rfl,rfl,rfl,Nat.le_refl _,λ_ _ _=>rfl,hz,λid o b ho _=>(by cases ho),λi j oi oj b hi _ _ _ _=>(by cases hi),λid o ho=>(by cases ho),ji.nil,hg,λb hb=>hb,λb hb=> .inl hb⟩;refine⟨hw0.reframe (id:=9997) (xg rfl (.inl (Nat.le_refl _))),by simp[hl],λi x v hx hv=>?_,rfl⟩;simp only at hx hv;have hv':(us++List.replicate (fn.ntmps-us.length) undef)[i]? =some v:=by
   have:=hv;rw[<-Array.getElem?_toList]at this;simpa using this
  by_cases hi:i<us.length
  ·rw[List.getElem?_append_left (by simpa[hl]using hi),List.getElem?_map]at hx;obtain⟨p,hp,rfl⟩:=Option.map_eq_some_iff.1 hx;rw[List.getElem?_append_left hi]at hv';exact(hr i p v hp hv').v
  ·rw[List.getElem?_append_right al]at hx;rw[List.getElem?_append_right ac]at hv';have e1:=List.eq_of_mem_replicate (List.mem_of_getElem? hx);have e2:=List.eq_of_mem_replicate (List.mem_of_getElem? hv');subst e1 e2;exact .one _ _ (show dZ Z w (λ_=>undef) .und undef from rfl)
 refine calls_of_wp hf hb (wp_mono (hk.run _ w ⟨Z,_,hs⟩) λe a' w' h'=>?_);obtain⟨st',⟨Z',ρ',hs'⟩,hk'⟩:=h';have fin:Fm E st' w.heap.size fn.results.toList res->a'.defers=[]/\∃v,(results fn a'.tmps).run E.P w'= .ok v w'/\∃v0,Ending.returned v= .returned v0/\Below w.heap.size w w'/\DD w.heap.size w'.heap.size w' res v0:=by
  intro hr;obtain⟨v,h1,h2⟩:=Ln he hs' (λb h=>h) hr;exact⟨hs'.df,v,h1,v,rfl,⟨hs'.ws.os,hs'.ws.tape,hs'.ws.output,hs'.ws.size,λb hb=>hs'.ws.old b hb (λh=>h)⟩,h2⟩
 cases e with
 |normal=>exact fin hk'
 |ret=>exact fin hk'
 |_=>exact hk'.elim
end
end
section
open Go.RowKit
structure iP (P:Nat->Prop) (w w':World):Prop where
 os:w'.os=w.os
 tape:w'.tape=w.tape
 output:w'.output=w.output
 size:w'.heap.size=w.heap.size
 block:∀b,¬P b->w'.heap[b]? =w.heap[b]?
section
variable {P P':Nat->Prop} {w w1 w':World}
theorem iP.refl(P:Nat->Prop)(w:World):iP P w w:=⟨rfl,rfl,rfl,rfl,λ_ _=>rfl⟩
theorem iP.trans(h:iP P w w1)(h':iP P w1 w'):iP P w w':=⟨h'.os.trans h.os,h'.tape.trans h.tape,h'.output.trans h.output,h'.size.trans h.size,λb hb=>(h'.block b hb).trans (h.block b hb)⟩
theorem iP.mono(h:iP P w w')(hp:∀b,P b->P' b):iP P' w w':=⟨h.os,h.tape,h.output,h.size,λb hb=>h.block b λhq=>hb (hp b hq)⟩
theorem iP.setCell{a:Addr}(ha:P a.block)(u:Value):iP P w (w.setCell a u):=⟨rfl,rfl,rfl,by simp[World.setCell],λb hb=>Below.heap_setCell _ _ _ _ (λe=>hb (e▸ha))⟩
theorem iP.below{B:Nat}(h:iP P w w')(hp:∀b,P b->B<=b):Below B w w':=⟨h.os,h.tape,h.output,by rw[h.size];exact Nat.le_refl _,λk hk=>h.block k λhq=>by have:=hp k hq;omega⟩
end
theorem du.set{w:World}{P:Nat->Prop}{x:List AD}{us:List Value}(h:du w P x us){c:Nat}{u:Value}(h1:u.oneCell'=true):du w P (x.set c (.pv u)) (us.set c u):=by
 obtain⟨l,Q,q,e,r⟩:=h;refine⟨by simp[l],Q,q,e,λi a y ha hy=>?_⟩;rw[List.getElem?_set]at ha hy;by_cases hi:c=i
 ·subst hi;simp only[if_true]at ha hy;split at ha
  ·split at hy
   ·injection ha with ha;injection hy with hy;subst ha hy;exact .pv _ _ h1
   ·cases hy
  ·cases ha
 ·rw[if_neg hi]at ha hy;exact r i a y ha hy
structure El (w0:World) (b o s:Nat) (Q:Nat->Prop) (w:World) (x:List AD) (us:List Value):Prop where
 len:us.length=s
 fam:du w Q x us
 cell:∀(c:Nat) u,us[c]? =some u->w.cell? ⟨b,o+c,none⟩=some u
 oth:∀o',(o'<o\/o+s<=o')->w.cell? ⟨b,o',none⟩=w0.cell? ⟨b,o',none⟩
 row:∃cur cur' t,w0.heap[b]? =some (.cells cur t (0,0))/\w.heap[b]? =some (.cells cur' t (0,0))/\cur'.size=cur.size
 turn:iP (λg=>g=b\/Q g) w0 w
 nb:¬Q b
section
variable {w0 w:World} {b o s:Nat} {Q:Nat->Prop} {x:List AD} {us:List Value}
theorem El.frozen(h:El w0 b o s Q w x us)(o':Nat):w.frozen? ⟨b,o',none⟩=false:=by
 obtain⟨cur,cur',t,_,h2,_⟩:=h.row;simp[World.frozen?,h2]
theorem El.set(h:El w0 b o s Q w x us){c:Nat}(hc:c<s)(u:Value)(h1:u.oneCell'=true):El w0 b o s Q (w.setCell ⟨b,o+c,none⟩ u) (x.set c (.pv u)) (us.set c u):=by
 have hlt:c<us.length:=by rw[h.len];exact hc
 obtain⟨cur,cur',t,r1,r2,r3⟩:=h.row;refine⟨by simp[h.len],?_,λc' y hy=>?_,λo' ho=>?_,⟨cur,cur'.setIfInBounds (o+c) u,t,r1,by simp[World.setCell,Array.getElem?_modify,r2],by simp[r3]⟩,h.turn.trans (iP.setCell (.inl rfl) u),h.nb⟩
 ·exact du.set (h.fam.keep λg hg=>Below.heap_setCell w ⟨b,o+c,none⟩ u g (λe=>h.nb (by have e2:g=b:=e;subst e2;exact hg))) h1
 ·rw[List.getElem?_set]at hy;by_cases hcc:c=c'
  ·subst hcc;rw[if_pos rfl,if_pos hlt]at hy;injection hy with hy
   subst hy;exact World.cell?_setCell_same _ _ _ (h.cell c _ (getElem?_eq_getElem hlt))
  ·rw[if_neg hcc]at hy;exact(World.cell?_setCell_other _ _ _ _ (by intro e;injection e;omega)).trans (h.cell c' y hy)
 ·exact(World.cell?_setCell_other _ _ _ _ (by intro e;injection e;omega)).trans (h.oth o' ho)
theorem El.sub(h:El w0 b o s Q w x us){c:Nat}{a:AD}{u:Value}(ha:x[c]? =some a)(hu:us[c]? =some u):
  ∃Qc,(∀g,Qc g->Q g)/\ip w Qc a u/\∀w' a',iP Qc w w'->ip w' Qc a' u->El w0 b o s Q w' (x.set c a') us:=by
 obtain⟨l,R,q,e,r⟩:=h.fam;refine⟨R c,q c,r c a u ha hu,λw' a' ht hr=>?_⟩;have hb:w'.heap[b]? =w.heap[b]? :=ht.block b λhq=>h.nb (q c b hq);have hcell:∀o',w'.cell? ⟨b,o',none⟩=w.cell? ⟨b,o',none⟩:=λo'=>World.cell?_of_block (a:=⟨b,o',none⟩) hb;obtain⟨cur,cur',t,r1,r2,r3⟩:=h.row;refine⟨h.len,⟨by simp[l],R,q,e,λi a2 y h1 h2=>?_⟩,λc' y hy=>(hcell _).trans (h.cell c' y hy),λo' ho=>(hcell _).trans (h.oth o' ho),⟨cur,cur',t,r1,hb.trans r2,r3⟩,h.turn.trans (ht.mono λg hg=> .inr (q c g hg)),h.nb⟩;rw[List.getElem?_set]at h1;by_cases hi:c=i
 ·subst hi;rw[hu]at h2;injection h2 with h2
  subst h2;rw[if_pos rfl]at h1;split at h1
  ·injection h1 with h1;subst h1;exact hr
  ·cases h1
 ·rw[if_neg hi]at h1;exact(r i a2 y h1 h2).keep λg hg=>ht.block g λhq=>hi (e _ _ g hq hg)
end
theorem ip.lens{w:World}{P:Nat->Prop}{xs:List (List AD)}{v:Value}(h:ip w P (.sl xs) v){j:Nat}{x:List AD}(hj:xs[j]? =some x):
  ∃(b off cap:Nat) (us:List Value) (Q:Nat->Prop),v= .slice (some ⟨b,off,none⟩) xs.length cap/\P b/\(∀g,Q g->P g)/\El w b (off+j*x.length) x.length Q w x us/\
   ∀w' x' us',El w b (off+j*x.length) x.length Q w' x' us'->ip w' P (.sl (xs.set j x')) v:=by
 have hjl:j<xs.length:=(List.getElem?_eq_some_iff.1 hj).1;cases h with
 |emp P A cap hm=>simp at hj
 |sl P xs e s us v R hs hl hx hu hown hb hQ hd hh=>
  have hxs:x.length=s:=hx x (List.mem_of_getElem? hj);have hju:j<us.length:=ac;have hus:us[j].length=s:=hu _ (List.getElem_mem hju);rcases hown.2 with⟨_,hn⟩|⟨g,cap,cur,rfl,_,hg,h1,h2,h3,h4⟩
  ·omega
  have hfl:us.flatten.length=us.length*s:=j9 hu;have hcell:∀(i:Nat) y,us.flatten[i]? =some y->w.cell? ⟨g,i,none⟩=some y:=λi y hy=>lV hown rfl hy;rw[hxs];refine⟨g,0,cap,us[j],λb=>∃r,r<s/\R (j*s+r) b,rfl,(hb g rfl).1,λb ⟨r,_,hr⟩=>hQ _ b hr,⟨hus,⟨by rw[hus,hxs],λr b=>r<s/\R (j*s+r) b,λr b hr=>⟨r,hr⟩,λi i' b p q=>by have:=hd _ _ b p.2 q.2;omega,λr a y ha hy=>?_⟩,λc y hy=>?_,λ_ _=>rfl,⟨cur,cur,e,hg,hg,rfl⟩,iP.refl _ _,fun⟨r,_,hr⟩=>(hb g rfl).2 _ hr⟩,λw' x' us' hel=>?_⟩
  ·have hr:r<s:=by rw[<-hxs];exact(List.getElem?_eq_some_iff.1 ha).1
   exact(hh (j*s+r) a y (by rw[dR hx hj hr];exact ha) (by rw[dR hu (getElem?_eq_getElem hju) hr];exact hy)).mono λb hb=>⟨hr,hb⟩
  ·have hr:c<s:=by rw[<-hus];exact(List.getElem?_eq_some_iff.1 hy).1
   rw[Nat.zero_add];exact hcell _ _ (by rw[dR hu (getElem?_eq_getElem hju) hr];exact hy)
  ·obtain⟨c1,c2,t,r1,r2,r3⟩:=hel.row;rw[hg]at r1;injection r1 with r1
   injection r1 with e1 e2 e3
   subst e1 e2;obtain⟨lF,R',q',d',f'⟩:=hel.fam;have hx':x'.length=s:=by rw[<-lF,hel.len]
   have hx2:∀y∈xs.set j x',y.length=s:=λy hy=>by rcases List.mem_or_eq_of_mem_set hy with hy|rfl;exact hx y hy;exact hx'
   have hu2:∀y∈us.set j us',y.length=s:=λy hy=>by rcases List.mem_or_eq_of_mem_set hy with hy|rfl;exact hu y hy;exact hel.len
   have hl2:(us.set j us').flatten.length=us.length*s:=by rw[j9 hu2,length_set]
   have hc2:∀i:Nat,i<us.length*s->w'.cell? ⟨g,i,none⟩=(us.set j us').flatten[i]? :=by
    intro i hi;have hdm:i=i/s*s+i % s:=(Nat.div_add_mod' i s).symm;have hr:i % s<s:=Nat.mod_lt _ hs;have hk:i/s<us.length:=Nat.div_lt_of_lt_mul (by rw[Nat.mul_comm];exact hi);by_cases hij:i/s=j
    ·have e1:(us.set j us')[i/s]? =some us':=by rw[hij];simp[hju]
     obtain⟨y,hy⟩:∃y,us'[i % s]? =some y:=⟨_,getElem?_eq_getElem (by rw[hel.len];exact hr)⟩;have h5:=hel.cell (i % s) y hy;rw[Nat.zero_add,<-hij,<-hdm]at h5;rw[h5];conv=>rhs;rw[hdm]
     rw[dR hu2 e1 hr,hy]
    ·have e1:(us.set j us')[i/s]? =some us[i/s]:=by rw[List.getElem?_set_ne (λe=>hij e.symm)];exact getElem?_eq_getElem hk
     have hne:i<0+j*s\/0+j*s+s<=i:=by
      rcases Nat.lt_or_gt_of_ne hij with h|h
      ·left;have:(i/s+1)*s<=j*s:=Nat.mul_le_mul_right s h;rw[Nat.add_mul]at this;omega
      ·right;have:(j+1)*s<=i/s*s:=Nat.mul_le_mul_right s h;rw[Nat.add_mul]at this;omega
     rw[hel.oth i hne];have h5:=hcell i us.flatten[i] (getElem?_eq_getElem (by rw[hfl];exact hi));rw[h5,<-getElem?_eq_getElem (by rw[hfl];exact hi)];conv=>lhs;rw[hdm]
     conv=>rhs;rw[hdm]
     rw[dR hu2 e1 hr,dR hu (getElem?_eq_getElem hk) hr]
   have hown':w'.ownsRow 0 e s (.slice (some ⟨g,0,none⟩) xs.length cap) (xs.set j x').length (us.set j us').flatten:=by
    refine⟨by rw[hl2,hl,length_set],.inr ⟨g,cap,c2,by rw[length_set],Nat.zero_le _,r2,by rw[length_set];exact h1,h2,by rw[r3];exact h3,?_⟩⟩;apply List.ext_getElem?;intro i;rw[List.getElem?_take,length_set];by_cases hi:i<xs.length*s
    ·rw[if_pos hi,<-hc2 i (by rw[hl];exact hi),cell_of_row w' g i c2 e (0,0) r2,Array.getElem?_toList]
    ·rw[if_neg hi,List.getElem?_eq_none (by rw[hl2,hl];omega)]
   have:=ip.sl (w:=w') P (xs.set j x') e s (us.set j us') (.slice (some ⟨g,0,none⟩) xs.length cap) (λi b=>if j*s<=i/\i<j*s+s then R' (i-j*s) b else R i b) hs (by simp[hl]) hx2 hu2 hown' ?_ ?_ ?_ ?_
   ·exact this
   ·intro b hbb;refine⟨(hb b hbb).1,λi hi=>?_⟩;split at hi
    ·obtain⟨r,_,hr⟩:=q' _ b hi;exact(hb b hbb).2 _ hr
    ·exact(hb b hbb).2 _ hi
   ·intro i b hi;split at hi
    ·obtain⟨r,_,hr⟩:=q' _ b hi;exact hQ _ b hr
    ·exact hQ _ b hi
   ·intro i i' b hi hi';split at hi<;>split at hi'
    ·have:=d' _ _ b hi hi';omega
    ·obtain⟨r,hr0,hr⟩:=q' _ b hi;have:=hd _ _ b hr hi';omega
    ·obtain⟨r,hr0,hr⟩:=q' _ b hi';have:=hd _ _ b hr hi;omega
    ·exact hd _ _ b hi hi'
   ·intro i a y ha hy;have hi:i<xs.length*s:=by
     have:=(List.getElem?_eq_some_iff.1 ha).1;rwa[j9 hx2,length_set]at this
    have hdm:i=i/s*s+i % s:=(Nat.div_add_mod' i s).symm;have hr:i % s<s:=Nat.mod_lt _ hs;have hk:i/s<xs.length:=Nat.div_lt_of_lt_mul (by rw[Nat.mul_comm];exact hi);by_cases hij:i/s=j
    ·have e1:(us.set j us')[i/s]? =some us':=by rw[hij];simp[hju]
     have e2:(xs.set j x')[i/s]? =some x':=by rw[hij];simp[hjl]
     rw[hdm,dR hx2 e2 hr]at ha;rw[hdm,dR hu2 e1 hr]at hy;have hin:j*s<=i/\i<j*s+s:=by rw[<-hij];omega
     simp only[if_pos hin];rw[show i-j*s=i % s by rw[<-hij];omega];exact f' _ a y ha hy
    ·have hne:¬(j*s<=i/\i<j*s+s):=by
      rcases Nat.lt_or_gt_of_ne hij with h|h
      ·have:(i/s+1)*s<=j*s:=Nat.mul_le_mul_right s h;rw[Nat.add_mul]at this;omega
      ·have:(j+1)*s<=i/s*s:=Nat.mul_le_mul_right s h;rw[Nat.add_mul]at this;omega
     have e1:(us.set j us')[i/s]? =some us[i/s]:=by rw[List.getElem?_set_ne (λe=>hij e.symm)];exact getElem?_eq_getElem ac
     have e2:(xs.set j x')[i/s]? =some xs[i/s]:=by rw[List.getElem?_set_ne (λe=>hij e.symm)];exact getElem?_eq_getElem hk
     rw[hdm,dR hx2 e2 hr,<-dR hx (getElem?_eq_getElem hk) hr,<-hdm]at ha;rw[hdm,dR hu2 e1 hr,<-dR hu (getElem?_eq_getElem ac) hr,<-hdm]at hy;simp only[if_neg hne];refine(hh i a y ha hy).keep λb hRb=>hel.turn.block b ?_;rintro(rfl|⟨r,hr0,hr'⟩)
     ·exact(hb _ rfl).2 _ hRb
     ·have:=hd _ _ b hRb hr';omega
theorem ip.form{w:World}{P:Nat->Prop}{xs:List (List AD)}{v:Value}(h:ip w P (.sl xs) v):∃A cap,v= .slice A xs.length cap/\xs.length<=cap/\cap<=maxLen:=by
 cases h with
 |emp P A cap hm=>exact⟨A,cap,rfl,Nat.zero_le _,hm⟩
 |sl P xs e s us v Q hs hl hx hu hown hb hQ hd h=>
  rcases hown.2 with⟨hv,hn⟩|⟨g,cap,cur,hv,_,hg,h1,h2,h3,h4⟩
  ·exact⟨none,0,by rw[hv,hn],ac,Nat.zero_le _⟩
  ·exact⟨_,cap,hv,h1,h2⟩
def R6(k:Int)(P:Nat->Prop)(w:World)(G:World->Prop)(e:Ending)(w':World):Prop:=e= .returned (.int .i64 k)/\iP P w w'/\G w'
section
variable {α:Type} {mk:Int->α->α} {cnt:α->Int}
theorem JX{l:List α}{k:Nat}(hk:k<l.length):l.take (k+1)=l.take k++[l[k]]:=by rw[List.take_add_one,getElem?_eq_getElem hk];rfl
end
end
section
open Go.RowKit
structure tY (P:Nat->Prop) (w w':World):Prop where
 os:w'.os=w.os
 tape:w'.tape=w.tape
 output:w'.output=w.output
 size:w.heap.size<=w'.heap.size
 block:∀b,b<w.heap.size->¬P b->w'.heap[b]? =w.heap[b]?
theorem iP.a{P:Nat->Prop}{w w':World}(h:iP P w w'):tY P w w':=⟨h.os,h.tape,h.output,by rw[h.size];exact Nat.le_refl _,λb _ hb=>h.block b hb⟩
theorem tY.mono{P P':Nat->Prop}{w w':World}(h:tY P w w')(hp:∀b,P b->P' b):tY P' w w':=⟨h.os,h.tape,h.output,h.size,λb hl hb=>h.block b hl λhq=>hb (hp b hq)⟩
theorem du.focusA{w:World}{P:Nat->Prop}{d1 d2 d3:List AD}{u1 u2 u3:List Value}(h:du w P (d1++d2++d3) (u1++u2++u3))(e1:u1.length=d1.length)(e2:u2.length=d2.length)(hlt:∀b,P b->b<w.heap.size):
  ∃Q,(∀b,Q b->P b)/\du w Q d2 u2/\∀w' d2',tY Q w w'->du w' Q d2' u2->du w' P (d1++d2'++d3) (u1++u2++u3):=by
 obtain⟨v12,v3,P12,P3,ev,dj,a12,a3,f12,f3⟩:=h.split;obtain⟨e12,e3⟩:=List.append_inj ev (by rw[f12.1];simp[e1,e2]);subst e12 e3;obtain⟨v1,v2,P1,P2,ev,dk,b1,b2,f1,f2⟩:=f12.split;obtain⟨e5,e6⟩:=List.append_inj ev (by rw[f1.1];exact e1);subst e5 e6;refine⟨P2,λb hb=>a12 b (b2 b hb),f2,λw' d2' ht hf=>?_⟩;exact du.append (P1:=P12) (P2:=P3) (du.append (P1:=P1) (P2:=P2) (f1.keep λb hb=>ht.block b (hlt b (a12 b (b1 b hb))) λhq=>dk b hb hq) hf dk b1 b2) (f3.keep λb hb=>ht.block b (hlt b (a3 b hb)) λhq=>dj b (b2 b hq) hb) dj a12 a3
def gU(u:Nat->Value):Nat->List AD->List Value
 |_,[]=>[]
 |i,.pv v::r=>v::gU u (i+1) r
 |i,_::r=>u i::gU u (i+1) r
def xf(u:Nat->Value):Nat->List AD->List AD
 |_,[]=>[]
 |i,.pv v::r=> .pv v::xf u (i+1) r
 |i,_::r=> .pv (u i)::xf u (i+1) r
def NS(u:Nat->Value)(i:Nat):AP1->AV
 | .one (.pv v)=> .one (.d (.pv v))
 | .one _=> .one (.d (.pv (u i)))
 | .agg ds=> .agg ((xf u i ds).map .d)
def uOf(us:List Value):Nat->Value:=λi=>us.getD i undef
def HB(p:AP1)(us:List Value)(v:Value):Prop:=
 match p with
 | .one _=>us=[v]
 | .agg _=>v= .agg us.toArray
theorem sF(u:Nat->Value):∀(ds:List AD) (i:Nat),(gU u i ds).length=ds.length
 |[],_=>rfl
 | .pv _::r,i=>by simp[gU,sF u r]
 | .sl _::r,i=>by simp[gU,sF u r]
 | .x _::r,i=>by simp[gU,sF u r]
theorem KL{w:World}{u:Nat->Value}:∀{ds:List AD} {us:List Value} {i:Nat},us.length=ds.length->(∀(j:Nat) a x,ds[j]? =some a->us[j]? =some x->∃P,ip w P a x)->(∀(j:Nat) x,us[j]? =some x->u (i+j)=x)->gU u i ds=us
 |[],[],_,_,_,_=>rfl
 |d::r,x::us,i,hl,hr,hu=>by
  have h0:u i=x:=hu 0 x rfl;have ih:=KL (ds:=r) (us:=us) (i:=i+1) (by simpa using hl) (λj a y h1 h2=>hr (j+1) a y (by simpa using h1) (by simpa using h2)) λj y hy=>by rw[<-hu (j+1) y (by simpa using hy)];congr 1;omega
  obtain⟨P,ht⟩:=hr 0 d x rfl rfl;cases d with
  |pv v=>cases ht with|pv _ _=>simp only[gU,ih]
  |sl xs=>simp only[gU,ih,h0]
  |x R=>simp only[gU,ih,h0]
 |[],_::_,_,hl,_,_=>by simp at hl
 |_::_,[],_,hl,_,_=>by simp at hl
theorem C1{Z:Nat->Prop}{w:World}(u:Nat->Value):∀{ds:List AD} {i:Nat} {us:List Value},us.length=ds.length->(∀(j:Nat) c x,(xf u i ds)[j]? =some c->us[j]? =some x->bK Z w c x)->us=gU u i ds
 |[],_,[],_,_=>rfl
 |d::r,i,x::us,hl,hr=>by
  have ih:us=gU u (i+1) r:=C1 u (by simpa using hl) λj c y h1 h2=>hr (j+1) c y (by cases d<;>simpa[xf]using h1) (by simpa using h2);cases d with
  |pv v=>
   have:=hr 0 (.pv v) x rfl rfl;cases this with|pv _ _=>rw[gU,<-ih]
  |sl xs=>
   have:=hr 0 (.pv (u i)) x rfl rfl;cases this with|pv _ _=>show _=u i::gU u (i+1) r;rw[<-ih]
  |x R=>
   have:=hr 0 (.pv (u i)) x rfl rfl;cases this with|pv _ _=>show _=u i::gU u (i+1) r;rw[<-ih]
 |[],_,_::_,hl,_=>by simp at hl
 |_::_,_,[],hl,_=>by simp at hl
theorem nY(u:Nat->Value):∀(ds:List AD) (i:Nat),(xf u i ds).length=ds.length
 |[],_=>rfl
 | .pv _::r,i=>by simp[xf,nY u r]
 | .sl _::r,i=>by simp[xf,nY u r]
 | .x _::r,i=>by simp[xf,nY u r]
theorem KM{Z:Nat->Prop}{w:World}{ρ:Nat->Value}{u:Nat->Value}{i:Nat}{p:AP1}{v:Value}(h:bv Z w ρ (NS u i p) v):HB p (gU u i (f7 p)) v:=by
 cases p with
 |one d=>
  cases d with
  |pv x=>cases h with|one _ _ h=>cases(show bK Z w (.pv x) v from h)with|pv _ _=>rfl
  |sl xs=>cases h with|one _ _ h=>cases(show bK Z w (.pv (u i)) v from h)with|pv _ _=>rfl
  |x R=>cases h with|one _ _ h=>cases(show bK Z w (.pv (u i)) v from h)with|pv _ _=>rfl
 |agg ds=>
  cases h with
  |agg _ us hl h=>
   have:us=gU u i ds:=C1 (Z:=Z) (w:=w) u (by simpa[nY]using hl) λj c x h1 h2=>h j (.d c) x (by rw[List.getElem?_map,h1];rfl) h2;show Value.agg us.toArray= .agg (gU u i ds).toArray;rw[this]
theorem O1{Z:Nat->Prop}{w w':World}{P:Nat->Prop}{ρ:Nat->Value}{u:Nat->Value}{i:Nat}{p:AP1}{v:Value}(hf:du w' P (f7 p) (gU u i (f7 p)))(hv:HB p (gU u i (f7 p)) v):bv Z w ρ (NS u i p) v:=by
 have one:∀(j:Nat) a x,(f7 p)[j]? =some a->(gU u i (f7 p))[j]? =some x->x.oneCell'=true:=λj a x h1 h2=>(hf.get h1 h2).one;cases p with
 |one d=>
  have h1:v.oneCell'=true:=one 0 d v rfl (by rw[show gU u i (f7 (.one d))=[v]from hv];rfl);cases d with
  |pv x=>
   have e:[x]=[v]:=hv;injection e with e
   subst e;exact .one _ _ (show bK Z w (.pv x) x from .pv _ h1)
  |sl xs=>
   have e:[u i]=[v]:=hv;injection e with e
   subst e;exact .one _ _ (show bK Z w (.pv (u i)) (u i)from .pv _ h1)
  |x R=>
   have e:[u i]=[v]:=hv;injection e with e
   subst e;exact .one _ _ (show bK Z w (.pv (u i)) (u i)from .pv _ h1)
 |agg ds=>
  have hv:v= .agg (gU u i ds).toArray:=hv;subst hv;refine .agg _ _ (by simp[sF,nY]) λj c x hc hx=>?_;rw[List.getElem?_map]at hc;obtain⟨d,hd,rfl⟩:=Option.map_eq_some_iff.1 hc;have hjl:j<ds.length:=by rw[<-nY u ds i];exact(List.getElem?_eq_some_iff.1 hd).1
  have h1:=one j ds[j] x (List.getElem?_eq_getElem hjl) hx;have same:∀(ds:List AD) (i j:Nat) d x,(xf u i ds)[j]? =some d->(gU u i ds)[j]? =some x->d= .pv x:=by
   intro ds;induction ds with
   |nil=>intro i j d x h;simp[xf]at h
   |cons a r ih=>
    intro i j d x h1 h2;cases j with
    |zero=>cases a<;>(simp[xf]at h1;simp[gU]at h2;subst h1 h2;rfl)
    |succ j=>exact ih (i+1) j d x (by cases a<;>simpa[xf]using h1) (by cases a<;>simpa[gU]using h2)
  rw[same ds i j d x hd hx];exact .pv _ h1
def PA(P:Nat->Prop)(ds:List AD)(us:List Value):World->Prop:=λw=>du w P ds us
def HA(P:Nat->Prop)(ds:List AD)(us:List Value):AO:= .many P (PA P ds us)
section
variable {T:World->Prop} {S:bj} {Z:Nat->Prop} {w w':World} {ρ:Nat->Value} {ob:List (Nat×AO)}
theorem WS.renewT(h:WS T S Z w ρ ob)(id:Nat){P:Nat->Prop}{Q:World->Prop}(hP:∀b,P b->b<w.heap.size/\¬Z b/\(S.w0.heap.size<=b\/S.O b)/\∀j o,a5 ob j=some o->br (ρ j)≠some b)
  (hd:∀j P' Q',a5 ob j=some (.many P' Q')->∀b,P b->P' b->False) (hq:∀w':World,(∀b,P b->w'.heap[b]? =w.heap[b]?)->Q w'):WS T S Z w (λi=>if i=id then undef else ρ i) (fg (nW id ob) id (.many P Q)):=by
 have old:∀j o,j≠id->a5 (fg (nW id ob) id (.many P Q)) j=some o->∃o0,a5 ob j=some o0/\o=mu id o0:=by
  intro j o hj ho;rw[bH,if_neg (λe=>hj e.symm),pt]at ho;obtain⟨o0,h0,h1⟩:=Option.map_eq_some_iff.1 ho;exact⟨o0,h0,h1.symm⟩
 have blk:∀j b,br (if j=id then undef else ρ j)=some b->j≠id/\br (ρ j)=some b:=by
  intro j b hb;by_cases hj:j=id
  ·rw[if_pos hj]at hb;cases hb
  ·rw[if_neg hj]at hb;exact⟨hj,hb⟩
 have omany:∀j P' Q',a5 (fg (nW id ob) id (.many P Q)) j=some (.many P' Q')->(j=id/\P'=P/\Q'=Q)\/(j≠id/\a5 ob j=some (.many P' Q')):=by
  intro j P' Q' ho;by_cases hj:j=id
  ·subst hj;rw[bH,if_pos rfl]at ho;injection ho with ho
   injection ho with e1 e2
   exact .inl ⟨rfl,e1.symm,e2.symm⟩
  ·obtain⟨o0,h0,e⟩:=old j _ hj ho;exact .inr ⟨hj,by rw[h0,Ad e.symm]⟩
 refine⟨h.os,h.tape,h.output,h.size,h.old,h.zlt,λj o b ho hb=>?_,λi j oi oj b hi hj hij hbi hbj=>?_,λj o ho=>?_,⟨λj P' Q' ho=>?_,λi j P1 Q1 P2 Q2 hi hj hij b hb1 hb2=>?_⟩,h.g,h.z0,h.znew⟩
 ·obtain⟨hj,hb⟩:=blk j b hb;obtain⟨o0,h0,_⟩:=old j o hj ho;exact h.mine j o0 b h0 hb
 ·obtain⟨hi0,hbi⟩:=blk i b hbi;obtain⟨hj0,hbj⟩:=blk j b hbj;obtain⟨o0,h0,_⟩:=old i oi hi0 hi;obtain⟨o1,h1,_⟩:=old j oj hj0 hj;exact h.sep i j o0 o1 b h0 h1 hij hbi hbj
 ·by_cases hj:j=id
  ·subst hj;rw[bH,if_pos rfl]at ho;injection ho with ho
   subst ho;show(if j=j then undef else ρ j)=undef;rw[if_pos rfl]
  ·obtain⟨o0,h0,rfl⟩:=old j o hj ho;exact Ae hj (h.obj j o0 h0)
 ·have apart:∀b,(∀i o,a5 ob i=some o->br (ρ i)≠some b)->∀i o,a5 (fg (nW id ob) id (.many P Q)) i=some o->br (if i=id then undef else ρ i)≠some b:=by
   intro b hb i o hi hbi;obtain⟨hi0,hbi⟩:=blk i b hbi;obtain⟨o0,h0,_⟩:=old i o hi0 hi;exact hb i o0 h0 hbi
  rcases omany j P' Q' ho with⟨_,rfl,rfl⟩|⟨_,ho⟩
  ·exact⟨λb hb=>⟨(hP b hb).1,(hP b hb).2.1,(hP b hb).2.2.1,apart b (hP b hb).2.2.2⟩,hq⟩
  ·obtain⟨h1,h2⟩:=h.many.ok j P' Q' ho;exact⟨λb hb=>⟨(h1 b hb).1,(h1 b hb).2.1,(h1 b hb).2.2.1,apart b (h1 b hb).2.2.2⟩,h2⟩
 ·rcases omany i P1 Q1 hi with⟨e1,e2,e3⟩|⟨hi0,hi1⟩<;>rcases omany j P2 Q2 hj with⟨f1,f2,f3⟩|⟨hj0,hj1⟩
  ·exact hij (e1.trans f1.symm)
  ·exact hd j P2 Q2 hj1 b (e2▸hb1) hb2
  ·exact hd i P1 Q1 hi1 b (f2▸hb2) hb1
  ·exact h.many.sep i j P1 Q1 P2 Q2 hi1 hj1 hij b hb1 hb2
theorem WS.turn(h:WS T S Z w ρ ob){id:Nat}{P:Nat->Prop}{Q Q':World->Prop}(ho:a5 ob id=some (.many P Q))(ht:tY P w w')(hq:∀w2:World,(∀b,P b->w2.heap[b]? =w'.heap[b]?)->Q' w2):WS T S Z w' ρ (fg ob id (.many P Q')):=by
 obtain⟨hP,_⟩:=h.many.ok id P Q ho;have hρ:ρ id=undef:=h.obj id _ ho;have hz:∀b,Z b->w'.heap[b]? =w.heap[b]? :=λb hb=>ht.block b (h.zlt b hb) λhp=>(hP b hp).2.1 hb;have hob:∀j o b,a5 ob j=some o->br (ρ j)=some b->w'.heap[b]? =w.heap[b]? :=λj o b hj hb=>ht.block b (h.lt hj hb) λhp=>(hP b hp).2.2.2 j o hj hb;have old:∀j o1,a5 (fg ob id (.many P Q')) j=some o1->∃o0,a5 ob j=some o0/\(j≠id->o1=o0):=by
  intro j o1 h1;rw[bH]at h1;split at h1
  ·rename_i e;subst e;exact⟨_,ho,λh=>absurd rfl h⟩
  ·exact⟨o1,h1,λ_=>rfl⟩
 have omany:∀j P1 Q1,a5 (fg ob id (.many P Q')) j=some (.many P1 Q1)->(j=id/\P1=P/\Q1=Q')\/(j≠id/\a5 ob j=some (.many P1 Q1)):=by
  intro j P1 Q1 h1;by_cases hj:j=id
  ·subst hj;rw[bH,if_pos rfl]at h1;injection h1 with h1
   injection h1 with e1 e2
   exact .inl ⟨rfl,e1.symm,e2.symm⟩
  ·obtain⟨o0,h0,e⟩:=old j _ h1;exact .inr ⟨hj,by rw[h0,<-e hj]⟩
 refine⟨ht.os.trans h.os,ht.tape.trans h.tape,ht.output.trans h.output,Nat.le_trans h.size ht.size,λb hb hO=>?_,λb hb=>Nat.lt_of_lt_of_le (h.zlt b hb) ht.size,λj o b hj hb=>?_,λi j oi oj b hi hj hij hbi hbj=>?_,λj o hj=>?_,⟨λj P1 Q1 hj=>?_,λi j P1 Q1 P2 Q2 hi hj hij b hb1 hb2=>?_⟩,?_,h.z0,h.znew⟩
 ·refine(ht.block b (Nat.lt_of_lt_of_le hb h.size) λhp=>?_).trans (h.old b hb hO);rcases(hP b hp).2.2.1 with h3|h3
  ·omega
  ·exact hO h3
 ·obtain⟨o0,h0,_⟩:=old j o hj;exact h.mine j o0 b h0 hb
 ·obtain⟨o0,h0,_⟩:=old i oi hi;obtain⟨o1,h1,_⟩:=old j oj hj;exact h.sep i j o0 o1 b h0 h1 hij hbi hbj
 ·by_cases hjd:j=id
  ·subst hjd;rw[bH,if_pos rfl]at hj;injection hj with hj
   subst hj;exact hρ
  ·obtain⟨o0,h0,e⟩:=old j o hj;rw[e hjd];exact(h.obj j o0 h0).mono (λ_ h=>h) hz λb hb=>hob j o0 b h0 hb
 ·have apart:∀b,(∀i o,a5 ob i=some o->br (ρ i)≠some b)->∀i o,a5 (fg ob id (.many P Q')) i=some o->br (ρ i)≠some b:=by
   intro b hb i o hi hbi;obtain⟨o0,h0,_⟩:=old i o hi;exact hb i o0 h0 hbi
  rcases omany j P1 Q1 hj with⟨_,rfl,rfl⟩|⟨hjd,hj⟩
  ·exact⟨λb hb=>⟨Nat.lt_of_lt_of_le (hP b hb).1 ht.size,(hP b hb).2.1,(hP b hb).2.2.1,apart b (hP b hb).2.2.2⟩,hq⟩
  ·obtain⟨h1,h2⟩:=h.many.ok j P1 Q1 hj;refine⟨λb hb=>⟨Nat.lt_of_lt_of_le (h1 b hb).1 ht.size,(h1 b hb).2.1,(h1 b hb).2.2.1,apart b (h1 b hb).2.2.2⟩,λw2 hw=>h2 w2 λb hb=>(hw b hb).trans (ht.block b (h1 b hb).1 λhp=>h.many.sep j id P1 Q1 P Q hj ho hjd b hb hp)⟩
 ·rcases omany i P1 Q1 hi with⟨e1,e2,e3⟩|⟨hi0,hi1⟩<;>rcases omany j P2 Q2 hj with⟨f1,f2,f3⟩|⟨hj0,hj1⟩
  ·exact hij (e1.trans f1.symm)
  ·exact h.many.sep id j P Q P2 Q2 ho hj1 (λe=>hj0 e.symm) b (e2▸hb1) hb2
  ·exact h.many.sep i id P1 Q1 P Q hi1 ho hi0 b hb1 (f2▸hb2)
  ·exact h.many.sep i j P1 Q1 P2 Q2 hi1 hj1 hij b hb1 hb2
 ·obtain⟨w1,g1,g2,g3⟩:=h.g;exact⟨w1,g1,⟨ht.os.trans g2.os,ht.tape.trans g2.tape,ht.output.trans g2.output,Nat.le_trans g2.size ht.size,λk hk=>(hz k (g3 k hk)).trans (g2.block k hk)⟩,g3⟩
end
section
variable {E:a6} {S:bj}
theorem Wx{T:World->Prop}{ob:List (Nat×AO)}{args:List AV}{ps:List AP1}(h:aRs ob args (· =ps)):K9 T ob args ps:=by
 refine⟨λS Z ρ w us hs hl hr=>?_⟩;obtain⟨ps',h1,h2,rfl⟩:=g8 (E:=⟨default,.leaf,T⟩) (st:=⟨[],ob⟩) hs hl hr h;exact⟨g6 Z ρ ob,λb hb=> .inl hb,g6.lt hs,h1,h2⟩
theorem dJ.up{Z Z':Nat->Prop}{w:World}(hz:∀b,Z b->Z' b){p:AP1}{v:Value}(h:dJ Z w p v):dJ Z' w p v:=by
 cases p with
 |one d=>exact bK.mono hz (λ_ _=>rfl) h
 |agg ds=>obtain⟨us,e,hl,hr⟩:=h;exact⟨us,e,hl,λi d u h5 h6=>(hr i d u h5 h6).mono hz λ_ _=>rfl⟩
theorem Oi{P:Nat->Prop}{w:World}{p:AP1}{us:List Value}{v:Value}(h:du w P (f7 p) us)(hv:HB p us v):dJ P w p v:=by
 cases p with
 |one d=>have hv:us=[v]:=hv;subst hv;exact(h.relD λ_ h=>h).2 0 d v rfl rfl
 |agg ds=>exact⟨us,hv,(h.relD λ_ h=>h).1,(h.relD λ_ h=>h).2⟩
theorem Wn{T:World->Prop}{ob:List (Nat×AO)}{x:AV}{rest:List AV}{p0:AP1}{psr:List AP1}(id:Nat){P:Nat->Prop}{u:Nat->Value}(hx:x=NS u 0 p0)(hob:aOb ob id λo=>o=HA P (f7 p0) (gU u 0 (f7 p0)))(hrest:aRs ob rest (· =psr)):K9 T ob (x::rest) (p0::psr):=by
 refine⟨λS Z ρ w us hs hl hr=>?_⟩;subst hx;obtain⟨o,ho,rfl⟩:=bY hob;obtain⟨hP,hQ⟩:=hs.many.ok id P _ ho;have hF:du w P (f7 p0) (gU u 0 (f7 p0)):=hQ w λ_ _=>rfl;cases us with
 |nil=>simp at hl
 |cons v us=>
  obtain⟨ps',h1,h2,rfl⟩:=g8 (E:=⟨default,.leaf,T⟩) (st:=⟨[],ob⟩) hs (xs:=rest) (us:=us) (by simpa using hl) (λi y z h1 h2=>hr (i+1) y z (by simpa using h1) (by simpa using h2)) hrest;have hv:=KM (hr 0 _ v rfl rfl);refine⟨λb=>g6 Z ρ ob b\/P b,λb hb=> .inl (.inl hb),λb hb=>?_,by simp[h1],λi p y h3 h4=>?_⟩
  ·rcases hb with hb|hb
   ·exact g6.lt hs b hb
   ·exact(hP b hb).1
  ·cases i with
   |zero=>simp at h3 h4;subst h3 h4;exact(Oi hF hv).up λb hb=> .inr hb
   |succ i=>exact(h2 i p y (by simpa using h3) (by simpa using h4)).up λb hb=> .inl hb
theorem Wj{f:FuncId}{args:List AV}{st:ASt}{K:AV->ASt->Prop}{ps:List AP1}{res:AP1}(id:Nat)(hc:mh E f ps res)(hx:K9 E.W st.ob args ps)(hk:∀(P:Nat->Prop) (u:Nat->Value),DN st id (HA P (f7 res) (gU u 0 (f7 res))) (K (NS u 0 res))):aG E S f args st K:=by
 refine⟨hc.enter,λZ ρ a w us hs hl hr=>?_⟩;obtain⟨Z2,z1,z2,h1,h2⟩:=hx.h S Z ρ w us hs.ws hl hr;refine(hc.run Z2 w us z2 ?_ h1 h2).mono ?_
 ·obtain⟨w1,g1,g2,g3⟩:=hs.ws.g;exact⟨w1,g1,g2,λb hb=>z1 b (g3 b hb)⟩
 ·rintro e w' ⟨v,rfl,hb,hv⟩;obtain⟨us',hf,hvu⟩:∃us',du w' (λb=>w.heap.size<=b/\b<w'.heap.size) (f7 res) us'/\HB res us' v:=by
   cases res with
   |one d=>exact⟨[v],hv,rfl⟩
   |agg ds=>obtain⟨us',e,h⟩:=hv;exact⟨us',h,e⟩
  have hU:gU (uOf us') 0 (f7 res)=us':=KL (w:=w') hf.1 (λj a x h1 h2=>⟨_,hf.get h1 h2⟩) λj x hj=>by simp[uOf,List.getD_eq_getElem?_getD,hj]
  have hg:=hs.grow (Z':=Z) (eJ hb) (λ_ h=>h) (λ_ h=> .inl h);have hsz:=hs.ws.size;have hws:=hg.ws.renewT id (P:=λb=>w.heap.size<=b/\b<w'.heap.size) (Q:=PA (λb=>w.heap.size<=b/\b<w'.heap.size) (f7 res) us') (λb hb=>⟨hb.2,λhz=>by have:=hs.ws.zlt b hz;omega,.inl ac,λj o ho hbj=>by have:=hs.ws.lt ho hbj;omega⟩)
   (λj P' Q' ho b hb hb'=>by have:=((hs.ws.many.ok j P' Q' ho).1 b hb').1;omega) λw2 hw=>hf.keep hw
  have h3:=ky (hk (λb=>w.heap.size<=b/\b<w'.heap.size) (uOf us'));rw[hU]at h3;refine⟨v,_,_,Z,_,rfl,⟨hws,by simp[iH,hg.len],λi x y hx hy=>?_,hg.df⟩,O1 (w':=w') (by rw[hU];exact hf) (by rw[hU];exact hvu),h3⟩;simp only[iH,List.getElem?_map]at hx;obtain⟨x0,h0,rfl⟩:=Option.map_eq_some_iff.1 hx;exact lx (hg.tm i x0 y h0 hy)
structure MV (E:a6) (f:FuncId) (p:AP1) (k:Int) (p':AP1) (k':Int):Prop where
 enter:∀(us:Array Value) w,(callFunc f us).run E.P w= .ok (.enter f us) w
 run:∀(P Z:Nat->Prop) (w:World) (us:List Value) (v:Value),(∀b,Z b->b<w.heap.size)->GZ E.W Z w->(∀b,P b->b<w.heap.size/\¬Z b)->du w P (f7 p) us->HB p us v->
  Calls E.P f #[v,.int .i64 k] w λe w'=>e= .returned (.int .i64 k')/\tY P w w'/\du w' P (f7 p') us
theorem Wu{f:FuncId}{d d':AD}{k k':Int}(enter:∀(us:Array Value) w,(callFunc f us).run E.P w= .ok (.enter f us) w)
  (h:∀P w v,ip w P d v->Calls E.P f #[v,.int .i64 k] w (R6 k' P w λw'=>ip w' P d' v)):MV E f (.one d) k (.one d') k':=by
 refine⟨enter,λP Z w us v hz hg hP hf hv=>?_⟩;have hv:us=[v]:=hv;subst hv;refine(h P w v (hf.get (i:=0) rfl rfl)).mono ?_;rintro e w' ⟨rfl,ht,hr⟩;exact⟨rfl,ht.a,.one hr⟩
theorem Wk{f:FuncId}{x:AV}{tm:List AV}{ob:List (Nat×AO)}{K:AV->ASt->Prop}{p p':AP1}{k k':Int}(id:Nat)(j:Nat)(d1 d3:List AD)(u1 u3:List Value){P:Nat->Prop}{u:Nat->Value}{D:List AD}{U:List Value}(hc:MV E f p k p' k')(hx:x=NS u j p)
  (hob:aOb ob id λo=>o=HA P D U) (hD:D=d1++f7 p++d3) (hU:U=u1++gU u j (f7 p)++u3) (hl:u1.length=d1.length)
  (hk:gI id (HA P (d1++f7 p'++d3) (u1++gU u j (f7 p)++u3)) ob λob=>K (vI .i64 k') ⟨tm,ob⟩):aG E S f [x,vI .i64 k] ⟨tm,ob⟩ K:=by
 refine⟨hc.enter,λZ ρ a w us hs hln hr=>?_⟩;subst hx hD hU;obtain⟨o,ho,rfl⟩:=bY hob;obtain⟨hP,hQ⟩:=hs.ws.many.ok id P _ ho;have hF:du w P (d1++f7 p++d3) (u1++gU u j (f7 p)++u3):=hQ w λ_ _=>rfl;obtain⟨Q,hQP,hfq,hcl⟩:=hF.focusA hl (sF _ _ _) λb hb=>(hP b hb).1;match us,hln with
 |[v,y],_=>
  have hv:=KM (hr 0 _ v rfl rfl);have hy:y= .int .i64 k:=by
   have:=hr 1 _ y rfl rfl;cases this with|one _ _ h=>cases(show bK Z w (.pv (.int .i64 k)) y from h)with|pv _ _=>rfl
  subst hy;refine(hc.run Q Z w _ v hs.ws.zlt hs.ws.g (λb hb=>⟨(hP b (hQP b hb)).1,(hP b (hQP b hb)).2.1⟩) hfq hv).mono ?_;rintro e w' ⟨rfl,ht,hf'⟩;have hF':=hcl w' (f7 p') ht hf';have hws:=hs.ws.turn (Q':=PA P (d1++f7 p'++d3) (u1++gU u j (f7 p)++u3)) ho (ht.mono hQP) λw2 hw=>hF'.keep hw;refine⟨_,_,⟨tm,fg ob id (HA P (d1++f7 p'++d3) (u1++gU u j (f7 p)++u3))⟩,Z,ρ,rfl,⟨hws,hs.len,λi z q hz hq=>(hs.tm i z q hz hq).mono (λ_ h=>h) λb hb=>ht.block b (hs.ws.zlt b hb) λhq=>(hP b (hQP b hq)).2.1 hb,hs.df⟩,.one (.d (.pv (.int .i64 k'))) _ (show bK Z w' (.pv (.int .i64 k')) (.int .i64 k')from .pv _ rfl),ed hk⟩
end
end
section
open Go.RowKit
structure Qm (E:a6) (f:FuncId) (e:TypeId) (s:Nat) (xs xs':List (List AD)) (ps:List AP1):Prop where
 enter:∀(us:Array Value) w,(callFunc f us).run E.P w= .ok (.enter f us) w
 run:∀(Z:Nat->Prop) (w:World) (v:Value) (us:List Value),(∀b,Z b->b<w.heap.size)->GZ E.W Z w->cu Z w (λ_=>v) 0 (.row e s xs)->(∀b,br v=some b->¬Z b)->us.length=ps.length->(∀(i:Nat) p u,ps[i]? =some p->us[i]? =some u->dJ Z w p u)->
  Calls E.P f (v::us).toArray w λen w'=>en= .returned (.tuple #[])/\tY (λb=>br v=some b) w w'/\cu Z w' (λ_=>v) 0 (.row e s xs')
theorem WS.turnRow{T:World->Prop}{S:bj}{Z:Nat->Prop}{w w':World}{ρ:Nat->Value}{ob:List (Nat×AO)}(h:WS T S Z w ρ ob){id s:Nat}{e:TypeId}{xs xs':List (List AD)}(ho:a5 ob id=some (.row e s xs))(ht:tY (λb=>br (ρ id)=some b) w w')
  (hr:cu Z w' (λ_=>ρ id) 0 (.row e s xs')):WS T S Z w' ρ (fg ob id (.row e s xs')):=by
 have hz:∀b,Z b->w'.heap[b]? =w.heap[b]? :=λb hb=>ht.block b (h.zlt b hb) λhp=>(h.mine id _ b ho hp).1 hb;have far:∀j o b,j≠id->a5 ob j=some o->br (ρ j)=some b->w'.heap[b]? =w.heap[b]? :=λj o b hj hjo hb=>ht.block b (h.lt hjo hb) λhp=>h.sep j id o _ b hjo ho hj hb hp;have old:∀j o1,a5 (fg ob id (.row e s xs')) j=some o1->∃o0,a5 ob j=some o0/\(j≠id->o1=o0):=by
  intro j o1 h1;rw[bH]at h1;split at h1
  ·rename_i e;subst e;exact⟨_,ho,λh=>absurd rfl h⟩
  ·exact⟨o1,h1,λ_=>rfl⟩
 refine⟨ht.os.trans h.os,ht.tape.trans h.tape,ht.output.trans h.output,Nat.le_trans h.size ht.size,λb hb hO=>?_,λb hb=>Nat.lt_of_lt_of_le (h.zlt b hb) ht.size,λj o b hj hb=>?_,λi j oi oj b hi hj hij hbi hbj=>?_,λj o hj=>?_,⟨λj P Q hj=>?_,λi j P Q P' Q' hi hj hij=>?_⟩,?_,h.z0,h.znew⟩
 ·refine(ht.block b (Nat.lt_of_lt_of_le hb h.size) λhp=>?_).trans (h.old b hb hO);rcases(h.mine id _ b ho hp).2 with h3|h3
  ·omega
  ·exact hO h3
 ·obtain⟨o0,h0,_⟩:=old j o hj;exact h.mine j o0 b h0 hb
 ·obtain⟨o0,h0,_⟩:=old i oi hi;obtain⟨o1,h1,_⟩:=old j oj hj;exact h.sep i j o0 o1 b h0 h1 hij hbi hbj
 ·by_cases hjd:j=id
  ·subst hjd;rw[bH,if_pos rfl]at hj;injection hj with hj
   subst hj;exact hr
  ·obtain⟨o0,h0,e⟩:=old j o hj;rw[e hjd];exact(h.obj j o0 h0).mono (λ_ h=>h) hz λb hb=>far j o0 b hjd h0 hb
 ·have hjd:j≠id:=by
   rintro rfl;rw[bH,if_pos rfl]at hj;cases hj
  obtain⟨o0,h0,e⟩:=old j _ hj;have:=e hjd;subst this;obtain⟨h1,h2⟩:=h.many.ok j P Q h0;refine⟨λb hb=>⟨Nat.lt_of_lt_of_le (h1 b hb).1 ht.size,(h1 b hb).2.1,(h1 b hb).2.2.1,λi o hi hbi=>?_⟩,λw2 hw=>h2 w2 λb hb=>(hw b hb).trans (ht.block b (h1 b hb).1 λhp=>(h1 b hb).2.2.2 id _ ho hp)⟩;obtain⟨o1,h3,_⟩:=old i o hi;exact(h1 b hb).2.2.2 i o1 h3 hbi
 ·have hid:∀k P Q,a5 (fg ob id (.row e s xs')) k=some (.many P Q)->a5 ob k=some (.many P Q):=by
   intro k P Q hk;rw[bH]at hk;split at hk
   ·cases hk
   ·exact hk
  exact h.many.sep i j P Q P' Q' (hid i P Q hi) (hid j P' Q' hj) hij
 ·obtain⟨w1,g1,g2,g3⟩:=h.g;exact⟨w1,g1,⟨ht.os.trans g2.os,ht.tape.trans g2.tape,ht.output.trans g2.output,Nat.le_trans g2.size ht.size,λk hk=>(hz k (g3 k hk)).trans (g2.block k hk)⟩,g3⟩
section
variable {E:a6} {S:bj}
theorem aG.row{f:FuncId}{rest:List AV}{tm:List AV}{ob:List (Nat×AO)}{K:AV->ASt->Prop}{id s:Nat}{e:TypeId}{xs xs':List (List AD)}{ps:List AP1}(hc:Qm E f e s xs xs' ps)(hob:aOb ob id λo=>o= .row e s xs)(hps:aPs rest (· =ps))
  (hk:gI id (.row e s xs') ob λob=>K (.tup []) ⟨tm,ob⟩):aG E S f (.one (.own id)::rest) ⟨tm,ob⟩ K:=by
 refine⟨hc.enter,λZ ρ a w us hs hl hr=>?_⟩;obtain⟨o,ho,rfl⟩:=bY hob;cases us with
 |nil=>simp at hl
 |cons v us=>
  have hv:v=ρ id:=by
   have:=hr 0 _ v rfl rfl;cases this with|one _ _ h=>exact h.1
  subst hv;have hws0:WS E.W S Z w ρ []:=hs.ws.sub Tx;obtain⟨ps',h1,h2,rfl⟩:=g8 (st:=⟨[],[]⟩) hws0 (xs:=rest) (us:=us) (by simpa using hl) (λi y z h1 h2=>hr (i+1) y z (by simpa using h1) (by simpa using h2)) (DR hps);have hz0:∀b,g6 Z ρ [] b->Z b:=by rintro b (hb|⟨id,o,ho,_⟩);exact hb;cases ho
  refine(hc.run Z w (ρ id) us hs.ws.zlt hs.ws.g (hs.ws.obj id _ ho) (λb hb=>(hs.ws.mine id _ b ho hb).1) h1 λi p u h3 h4=>(h2 i p u h3 h4).up hz0).mono ?_;rintro en w' ⟨rfl,ht,hr'⟩;have hz:∀b,Z b->w'.heap[b]? =w.heap[b]? :=λb hb=>ht.block b (hs.ws.zlt b hb) λhp=>(hs.ws.mine id _ b ho hp).1 hb;refine⟨_,.tup [],⟨tm,fg ob id (.row e s xs')⟩,Z,ρ,rfl,⟨hs.ws.turnRow ho ht hr',hs.len,λi z q hz' hq=>(hs.tm i z q hz' hq).mono (λ_ h=>h) hz,hs.df⟩,.tup [] [] rfl ai,ed hk⟩
end
end
section
open Go.RowKit
structure Ts (E:a6) (f:FuncId) (n j:Nat) (e:TypeId) (s:Nat) (xs xs':List (List AD)):Prop where
 enter:∀(us:Array Value) w,(callFunc f us).run E.P w= .ok (.enter f us) w
 run:∀(Z:Nat->Prop) (w:World) (v:Value) (us:List Value),(∀b,Z b->b<w.heap.size)->GZ E.W Z w->us.length=n->(∀u∈us,u.oneCell'=true)->us[j]? =some v->cu Z w (λ_=>v) 0 (.row e s xs)->(∀b,br v=some b->¬Z b)->
  Calls E.P f #[.agg us.toArray] w λen w'=>en= .returned (.agg us.toArray)/\tY (λb=>br v=some b) w w'/\cu Z w' (λ_=>v) 0 (.row e s xs')
section
variable {E:a6} {S:bj}
theorem TZ{c:Code}{K:Exit->ASt->Prop}{tm:List AV}{ob:List (Nat×AO)}(oid j id:Nat)(e:TypeId)(s:Nat)(hs:0<s)
  (h : DN ⟨tm, ob⟩ id (.row e s []) fun st => aOb st.ob oid fun o => match o with
   | .cells t cs=>And (cs[j]? =some .nil) (gI oid (.cells t (cs.set j (.own id))) st.ob λob=>AWP E S c K ⟨st.tm,ob⟩)
   |_=>False):AWP E S c K ⟨tm,ob⟩:=by
 refine⟨λa w hw=>?_⟩;obtain⟨Z,ρ,hw⟩:=hw;have h1:=hw.renew id (.slice none 0 0) (.row e s []) (row:=none) (World.grownBy.refl w _) ai (λb hb=>by cases hb) ⟨[],hs,rfl,by simp,by simp,by simp[World.ownsRow],by simp⟩;have h:=ky h;obtain⟨o,ho,h⟩:=bY h;cases o with
 |cells t cs=>
  simp only at h;obtain⟨hj,h⟩:=h;have h:=ed h;obtain⟨b,us,hp,hg,hl,hc⟩:=(show cu Z w (λi=>if i=id then .slice none 0 0 else ρ i) oid (.cells t cs)from h1.ws.obj oid _ ho);refine h.run a w ⟨Z,_,h1.upd oid _ (.cells t (cs.set j (.own id))) (g:=b) ho (by show br ((λi=>if i=id then Value.slice none 0 0 else ρ i) oid)=some b;rw[hp];rfl) (World.grownBy.refl w _) ⟨b,us,hp,hg,by simpa using hl,λi c u hi hu=>?_⟩⟩;rw[List.getElem?_set]at hi;split at hi
  ·rename_i e;subst e;split at hi
   ·injection hi with hi
    subst hi;have:=hc j .nil u hj hu;have hu0:u= .slice none 0 0:=this;subst hu0;exact⟨by simp,rfl⟩
   ·cases hi
  ·exact hc i c u hi hu
 |_=>exact h.elim
end
end
section
section
open Go.RowKit
inductive AA where
 |one (c:AC)
 |agg (cs:List AC)
inductive AR where
 |val (a:AA)
 |tup (l:List AA)
def AA.v:AA->AV
 | .one c=> .one c
 | .agg cs=> .agg cs
def AR.v:AR->AV
 | .val a=>a.v
 | .tup l=> .tup (l.map AA.v)
def fZ(w:World)(Z:Nat->Prop)(ρ:Nat->Value)(pre:List (Nat×AO)):bj:=⟨w,λb=>∃id o,a5 pre id=some o/\br (ρ id)=some b,Z⟩
structure cV (E:a6) (f:FuncId) (args:List AA) (pre post:List (Nat×AO)) (keep:List Nat) (res:AR):Prop where
 enter:∀(us:Array Value) w,(callFunc f us).run E.P w= .ok (.enter f us) w
 run:∀(Z:Nat->Prop) (w:World) (ρ:Nat->Value) (us:List Value),WS E.W (fZ w Z ρ pre) Z w ρ pre->us.length=args.length->(∀(i:Nat) x u,args[i]? =some x->us[i]? =some u->bv Z w ρ x.v u)->
  Calls E.P f us.toArray w λe w'=>∃v Z' ρ',e= .returned v/\WS E.W (fZ w Z ρ pre) Z' w' ρ' post/\(∀id∈keep,ρ' id=ρ id)/\bv Z' w' ρ' res.v v
def dK:List (Nat×AO)->Nat->Bool
 |[],_=>false
 |(k,_)::r,i=>match Nat.beq k i with
  |true=>true
  |false=>dK r i
theorem cq:∀{l:List (Nat×AO)} {i:Nat},dK l i=true↔∃o,a5 l i=some o
 |[],i=>by simp[dK,a5]
 |(k,o)::r,i=>by
  simp only[dK,a5];cases e:Nat.beq k i with
  |true=>rw[if_pos (Nat.eq_of_beq_eq_true e)];simp
  |false=>rw[if_neg (Nat.ne_of_beq_eq_false e)];exact cq
theorem Ff{l:List (Nat×AO)}{i:Nat}(h:dK l i=false):a5 l i=none:=by
 cases e:a5 l i with
 |none=>rfl
 |some o=>rw[cq.2 ⟨o,e⟩]at h;cases h
def zx(post ob:List (Nat×AO))(c:AC)(K:AC->Prop):Prop:=
 match c with
 | .own id=>match dK post id with
  |true=>K (.own id)
  |false=>aOb ob id λo=>match o with
   | .row _ _ xs=>K (.d (.sl xs))
   |_=>False
 | .ref id k s off=>match dK post id with
  |true=>K (.ref id k s off)
  |false=>False
 |c=>K c
def HP(post ob:List (Nat×AO)):List AC->(List AC->Prop)->Prop
 |[],K=>K []
 |c::r,K=>zx post ob c λc=>HP post ob r λr=>K (c::r)
def M1(post ob:List (Nat×AO))(x:AV)(K:AA->Prop):Prop:=
 match x with
 | .one c=>zx post ob c λc=>K (.one c)
 | .agg cs=>HP post ob cs λcs=>K (.agg cs)
 | .tup _=>False
def uq(Z:Nat->Prop)(ρ:Nat->Value)(ob post:List (Nat×AO))(b:Nat):Prop:=Z b\/∃id o,a5 ob id=some o/\dK post id=false/\br (ρ id)=some b
section
variable {T:World->Prop} {S:bj} {Z:Nat->Prop} {w:World} {ρ:Nat->Value} {ob post:List (Nat×AO)}
theorem Cj(h:WS T S Z w ρ ob){c:AC}{K:AC->Prop}{v:Value}(hv:dZ Z w ρ c v)(hk:zx post ob c K):∃c',dZ (uq Z ρ ob post) w ρ c' v/\K c':=by
 have upb:∀b,Z b->uq Z ρ ob post b:=λb hb=> .inl hb;have up:∀{d:AD} {v:Value},bK Z w d v->bK (uq Z ρ ob post) w d v:=λhd=>hd.mono upb λ_ _=>rfl;cases c with
 |own id=>
  cases e:dK post id with
  |true=>simp only[zx,e]at hk;exact⟨.own id,hv,hk⟩
  |false=>
   simp only[zx,e]at hk;obtain⟨o,ho,hk⟩:=bY hk;split at hk
   ·rename_i e' s xs;obtain⟨us,h0,hl,hxs,hus,hown,hd⟩:=h.obj id _ ho;refine⟨.d (.sl xs),?_,hk⟩;have hv:v=ρ id:=hv.1;subst hv;show bK (uq Z ρ ob post) w (.sl xs) (ρ id);rcases hown.2 with⟨hv,hn⟩|⟨g,cap,cur,hv,_,hg,h1,h2,h3,h4⟩
    ·have:xs=[]:=List.eq_nil_of_length_eq_zero hn;subst this;rw[hv];exact .sl [] none 0 0 [] (Nat.le_refl _) (Nat.zero_le _) rfl ai ai (.inl rfl) ai
    ·rw[hv];refine .sl xs _ cap s us h1 h2 hl hxs hus (.inr ⟨g,0,rfl,.inr ⟨id,_,ho,e,by rw[hv];rfl⟩,λi u hu=>?_⟩) λi j x u a b e1 e2 e3 e4=>up (hd i j x u a b e1 e2 e3 e4);rw[Nat.zero_add];exact lV hown (by rw[hv];rfl) hu
   ·exact hk.elim
 |ref id k s off=>
  cases e:dK post id with
  |true=>simp only[zx,e]at hk;exact⟨.ref id k s off,hv,hk⟩
  |false=>simp only[zx,e]at hk
 |_=>exact⟨_,dZ.mono upb (λ_ _=>rfl) hv,hk⟩
theorem zy(h:WS T S Z w ρ ob):∀{cs:List AC} {us:List Value} {K:List AC->Prop},yZ Z w ρ cs us->HP post ob cs K->∃ds,us.length=ds.length/\(∀(i:Nat) d u,ds[i]? =some d->us[i]? =some u->dZ (uq Z ρ ob post) w ρ d u)/\K ds
 |[],us,K,hr,hk=>⟨[],hr.1,by simp,hk⟩
 |c::r,[],K,hr,hk=>by have:=hr.1;simp at this
 |c::r,u::us,K,hr,hk=>by
  obtain⟨d,hd,hk⟩:=Cj h (hr.2 0 c u rfl rfl) hk;obtain⟨ds,hl,hds,hk⟩:=zy h (cs:=r) (us:=us) ⟨by simpa using hr.1,λi c u h1 h2=>hr.2 (i+1) c u (by simpa using h1) (by simpa using h2)⟩ hk;refine⟨d::ds,by simp[hl],λi x y h1 h2=>?_,hk⟩;cases i with
  |zero=>simp at h1 h2;subst h1 h2;exact hd
  |succ i=>exact hds i x y (by simpa using h1) (by simpa using h2)
theorem Ck(h:WS T S Z w ρ ob){x:AV}{K:AA->Prop}{v:Value}(hv:bv Z w ρ x v)(hk:M1 post ob x K):∃p,bv (uq Z ρ ob post) w ρ p.v v/\K p:=by
 cases hv with
 |one c v hv=>obtain⟨d,hd,hk⟩:=Cj (K:=λc=>K (.one c)) h hv hk;exact⟨.one d,.one _ _ hd,hk⟩
 |agg cs us hl hr=>obtain⟨ds,h1,h2,hk⟩:=zy (K:=λcs=>K (.agg cs)) h ⟨hl,hr⟩ hk;exact⟨.agg ds,.agg _ _ h1 h2,hk⟩
 |tup vs us hl hr=>exact hk.elim
theorem WS.out(h:WS T S Z w ρ ob)(hs:aK ob post):WS T S (uq Z ρ ob post) w ρ post:=by
 have h':=h.sub hs;refine⟨h.os,h.tape,h.output,h.size,h.old,?_,λid o b ho hb=>⟨?_,(h'.mine id o b ho hb).2⟩,h'.sep,λid o ho=>(h'.obj id o ho).mono (λb hb=> .inl hb) (λ_ _=>rfl) λ_ _=>rfl,⟨λid P Q ho=>⟨λb hb=>?_,(h.many.ok id P Q (hs _ _ ho)).2⟩,λi j P Q P' Q' hi hj=>h.many.sep i j P Q P' Q' (hs _ _ hi) (hs _ _ hj)⟩,?_,λb hb=> .inl (h.z0 b hb),?_⟩
 ·rintro b (hb|⟨id,o,ho,_,hb⟩)
  ·exact h.zlt b hb
  ·exact h.lt ho hb
 ·rintro(hz|⟨id2,o2,ho2,hn,hb2⟩)
  ·exact(h'.mine id o b ho hb).1 hz
  ·refine h.sep id id2 o o2 b (hs id o ho) ho2 (λe=>?_) hb hb2;subst e;rw[cq.2 ⟨o,ho⟩]at hn;cases hn
 ·obtain⟨h1,h2,h3,h4⟩:=(h.many.ok id P Q (hs _ _ ho)).1 b hb;refine⟨h1,?_,h3,λj o hj=>h4 j o (hs _ _ hj)⟩;rintro(hz|⟨id2,o2,ho2,_,hb2⟩)
  ·exact h2 hz
  ·exact h4 id2 o2 ho2 hb2
 ·obtain⟨w1,g1,g2,g3⟩:=h.g;exact⟨w1,g1,g2,λb hb=> .inl (g3 b hb)⟩
 ·rintro b (hb|⟨id,o,ho,_,hb⟩)
  ·exact h.znew b hb
  ·exact .inr (h.mine id o b ho hb).2
end
section
variable {E:a6} {S:bj} {st:ASt}
def HQ(E:a6)(st:ASt)(post:List (Nat×AO))(r:ResultVar)(K:AA->Prop):Prop:=
 match r with
 | .tmp t=>aTm st.tm t λv=>M1 post st.ob v K
 | .cell t ty=>aTm st.tm t λx=>tZ E st ty x λv=>M1 post st.ob v K
def HR(E:a6)(st:ASt)(post:List (Nat×AO)):List ResultVar->(List AA->Prop)->Prop
 |[],K=>K []
 |r::rs,K=>HQ E st post r λp=>HR E st post rs λps=>K (p::ps)
def xF(E:a6)(st:ASt)(post:List (Nat×AO))(rs:List ResultVar)(K:AR->Prop):Prop:=
 match rs with
 |[r]=>HQ E st post r λp=>K (.val p)
 |rs=>HR E st post rs λps=>K (.tup ps)
def xz(ob:List (Nat×AO)):List (Nat×AO)->Prop
 |[]=>True
 |(i,o)::r=>aOb ob i λo'=>o'=o/\xz ob r
theorem nm{ob:List (Nat×AO)}:∀{l:List (Nat×AO)},xz ob l->aK ob l
 |[],_=>Tx
 |(i,o)::r,h=>by
  obtain⟨o',ho,rfl,hr⟩:=bY h;exact Tu ho (nm hr)
def cE(keep:List Nat):List AV:=keep.map λid=> .one (.ref id 0 0 0)
def St(E:a6)(rs:List ResultVar)(post:List (Nat×AO))(keep:List Nat)(pv:List Value)(res:AR):Exit->ASt->Prop
 | .ret,st=>xF E st post rs λv=>v=res/\xz st.ob ((9999,.frame (cE keep) pv)::post)
 | .normal,st=>xF E st post rs λv=>v=res/\xz st.ob ((9999,.frame (cE keep) pv)::post)
 |_,_=>False
theorem zG(he:E.Ok){post:List (Nat×AO)}{Z:Nat->Prop}{ρ:Nat->Value}{a:Act}{w:World}(h:Sim E.W S Z ρ st a w){r:ResultVar}{K:AA->Prop}(hk:HQ E st post r K):
  ∃(v:Value) (p:AA),(eE a.tmps r).run E.P w= .ok v w/\bv (uq Z ρ st.ob post) w ρ p.v v/\K p:=by
 cases r with
 |tmp t=>
  obtain⟨x,hx,hk⟩:=jk hk;have hlt:t<a.tmps.size:=by rw[h.len];exact(List.getElem?_eq_some_iff.1 hx).1
  obtain⟨p,hp,hk⟩:=Ck h.ws (h.tm t x _ hx (Array.getElem?_eq_getElem hlt)) hk;exact⟨a.tmps[t],p,by simp[eE,hlt],hp,hk⟩
 |cell t ty=>
  obtain⟨x,hx,hk⟩:=jk hk;have hlt:t<a.tmps.size:=by rw[h.len];exact(List.getElem?_eq_some_iff.1 hx).1
  obtain⟨b,off,v,y,e,hr,hy,hk⟩:=sg he h (h.tm t x _ hx (Array.getElem?_eq_getElem hlt)) hk;obtain⟨p,hp,hk⟩:=Ck h.ws hy hk;refine⟨v,p,?_,hp,hk⟩;simp[eE,hlt,e,asAddr,hr]
theorem zH(he:E.Ok){post:List (Nat×AO)}{Z:Nat->Prop}{ρ:Nat->Value}{a:Act}{w:World}(h:Sim E.W S Z ρ st a w):∀{rs:List ResultVar} {K:List AA->Prop},HR E st post rs K->
  ∃(vs:List Value) (ps:List AA),(rs.mapM (eE a.tmps)).run E.P w= .ok vs w/\vs.length=ps.length/\(∀(i:Nat) p u,ps[i]? =some p->vs[i]? =some u->bv (uq Z ρ st.ob post) w ρ p.v u)/\ps.length=rs.length/\K ps
 |[],K,hk=>⟨[],[],rfl,rfl,by simp,rfl,hk⟩
 |r::rs,K,hk=>by
  obtain⟨v,p,h1,h2,hk⟩:=zG he h hk;obtain⟨vs,ps,h3,h4,h5,h6,hk⟩:=zH he h (rs:=rs) hk;refine⟨v::vs,p::ps,?_,by simp[h4],λi q u h7 h8=>?_,by simp[h6],hk⟩
  ·rw[List.mapM_cons,Sem.run_bind,h1];simp only[Result.andThen_ok];rw[Sem.run_bind,h3];rfl
  ·cases i with
   |zero=>simp at h7 h8;subst h7 h8;exact h2
   |succ i=>exact h5 i q u (by simpa using h7) (by simpa using h8)
theorem Ct(he:E.Ok){post:List (Nat×AO)}{Z:Nat->Prop}{ρ:Nat->Value}{a:Act}{w:World}(h:Sim E.W S Z ρ st a w){fn:Func}{K:AR->Prop}(hk:xF E st post fn.results.toList K):
  ∃v p,(results fn a.tmps).run E.P w= .ok v w/\bv (uq Z ρ st.ob post) w ρ p.v v/\K p:=by
 unfold xF at hk;have hres:∀vs:List Value,(fn.results.toList.mapM (eE a.tmps)).run E.P w= .ok vs w->(results fn a.tmps).run E.P w= .ok (if h:vs.toArray.size=1 then vs.toArray[0]else .tuple vs.toArray) w:=by
  intro vs hvs;have e:results fn a.tmps=(do let vs<-fn.results.mapM (eE a.tmps);pure (if h:vs.size=1 then vs[0]else .tuple vs)):=rfl;rw[e,Sem.run_bind,Array.mapM_eq_mapM_toList,Sem.run_map,hvs];rfl
 split at hk
 ·rename_i r hr;obtain⟨v,p,h1,h2,hk⟩:=zG he h hk;refine⟨v,.val p,?_,h2,hk⟩;have:=hres [v] (by rw[hr,List.mapM_cons,Sem.run_bind,h1];rfl);rw[this];rfl
 ·rename_i hne;obtain⟨vs,ps,h1,h2,h3,h4,hk⟩:=zH he h hk;refine⟨_,.tup ps,hres vs h1,?_,hk⟩;have:¬vs.toArray.size=1:=by
   intro e;have:fn.results.toList.length=1:=by simp at e;omega
   obtain⟨r,hr⟩:=List.length_eq_one_iff.1 this;exact hne r hr
  rw[dif_neg this];refine .tup _ vs (by simp[h2]) λi x u hx hu=>?_;rw[getElem?_map]at hx;obtain⟨p,hp,rfl⟩:=map_eq_some_iff.1 hx;exact h3 i p u hp hu
end
def CA(p:AA)(K:AV->Prop):Prop:=
 match p with
 | .one c=>K (.one c)
 | .agg cs=>K (.agg cs)
theorem wX{p:AA}{K:AV->Prop}(h:CA p K):K p.v:=by cases p<;>exact h
def DM:List AA->Nat->(List AV->Prop)->Prop
 |[],n,K=>Kg n K
 |_::_,0,_=>False
 |p::r,n+1,K=>CA p λv=>DM r n λtm=>K (v::tm)
theorem uw:∀{args:List AA} {n:Nat} {K:List AV->Prop},DM args n K->args.length<=n/\K (args.map AA.v++List.replicate (n-args.length) (.one .und))
 |[],n,K,h=>⟨Nat.zero_le _,by simpa using wW h⟩
 |_::_,0,_,h=>h.elim
 |p::r,n+1,K,h=>by
  obtain⟨h1,h2⟩:=uw (args:=r) (n:=n) (K:=λtm=>K (p.v::tm)) (wX h);refine⟨by simp;omega,?_⟩;simpa[Nat.succ_sub_succ]using h2
def vO(ob:List (Nat×AO))(i:Nat):Bool:=match a5 ob i with
 |some (.cells _ _)=>true
 |_=>false
def Pv(id:Nat):AA->Bool
 | .one c=>pY id c
 | .agg cs=>cs.all (pY id)
theorem KE{id:Nat}{a:AA}(h:Pv id a=true):ud id a.v=true:=by cases a<;>exact h
def KJ(args:List AA)(pre post:List (Nat×AO))(keep:List Nat):Bool:=
 args.all (Pv 9999)&&pre.all (λp=>CV 9999 p.2)&& !dK pre 9999&&keep.all (λi=>vO pre i&&vO post i)
theorem i7{ob:List (Nat×AO)}{i:Nat}(h:vO ob i=true):∃t cs,a5 ob i=some (.cells t cs):=by
 unfold vO at h;split at h
 ·rename_i t cs e;exact⟨t,cs,e⟩
 ·cases h
theorem bL{E:a6}(he:E.Ok){f:FuncId}{fn:Func}{c:Code}{n:Nat}{rs:List ResultVar}{args:List AA}{pre post:List (Nat×AO)}{keep:List Nat}{res:AR}(hf:E.P.funcs[f]? =some fn)(hb:fn.body=some c)
  (enter:∀(us:Array Value) w,(callFunc f us).run E.P w= .ok (.enter f us) w) (hn:fn.ntmps=n) (hrs:fn.results.toList=rs)
  (hck:KJ args pre post keep=true)
  (h:∀S pv,DM args n λtm=>AWP E S c (St E rs post keep pv res) ⟨tm,(9999,.frame (cE keep) pv)::pre⟩):cV E f args pre post keep res:=by
 refine⟨enter,λZ w ρ us hws hl hr=>?_⟩;subst hn hrs;simp only[KJ,Bool.and_eq_true,all_eq_true,Bool.not_eq_true']at hck;obtain⟨⟨⟨hna,hnp⟩,hnh⟩,hkk⟩:=hck;have hp9:=Ff hnh;obtain⟨hle,hk⟩:=uw (h (fZ w Z ρ pre) (keep.map ρ));have relV:∀{x:AV} {v:Value},ud 9999 x=true->bv Z w ρ x v->bv Z w (λi=>if i=9999 then undef else ρ i) x v:=by
  intro x v hn hv;have:=lx (id:=9999) (y:=undef) hv;rwa[lR hn]at this
 have hs:Sim E.W (fZ w Z ρ pre) Z (λi=>if i=9999 then undef else ρ i) ⟨args.map AA.v++List.replicate (fn.ntmps-args.length) (.one .und),(9999,.frame (cE keep) (keep.map ρ))::pre⟩ {tmps:=us.toArray++Array.replicate (fn.ntmps-us.toArray.size) undef,defers:=[]} w:=by
  have key:∀id o,a5 ((9999,AO.frame (cE keep) (keep.map ρ))::pre) id=some o->(id=9999/\o= .frame (cE keep) (keep.map ρ))\/(id≠9999/\a5 pre id=some o):=by
   intro id o ho;unfold a5 at ho;split at ho
   ·rename_i e;subst e;injection ho with ho;exact .inl ⟨rfl,ho.symm⟩
   ·rename_i e;exact .inr ⟨λe'=>e e'.symm,ho⟩
  refine⟨⟨hws.os,hws.tape,hws.output,hws.size,hws.old,hws.zlt,λid o b ho hb=>?_,λi j oi oj b hi hj hij hbi hbj=>?_,λid o ho=>?_,⟨λid P Q ho=>?_,λi j P Q P' Q' hi hj=>?_⟩,hws.g,hws.z0,hws.znew⟩,by simp[hl],λi x v hx hv=>?_,rfl⟩
  ·rcases key id o ho with⟨rfl,rfl⟩|⟨hne,ho⟩
   ·simp only[if_true]at hb;cases hb
   ·simp only[if_neg hne]at hb;exact hws.mine id o b ho hb
  ·rcases key i oi hi with⟨rfl,rfl⟩|⟨hne,hi⟩
   ·simp only[if_true]at hbi;cases hbi
   ·rcases key j oj hj with⟨rfl,rfl⟩|⟨hne2,hj⟩
    ·simp only[if_true]at hbj;cases hbj
    ·simp only[if_neg hne]at hbi;simp only[if_neg hne2]at hbj;exact hws.sep i j oi oj b hi hj hij hbi hbj
  ·rcases key id o ho with⟨rfl,rfl⟩|⟨hne,ho⟩
   ·refine⟨by simp,by simp[cE],λi x u hx hu=>?_⟩;simp only[cE,getElem?_map]at hx hu;obtain⟨k,hk1,rfl⟩:=map_eq_some_iff.1 hx;rw[hk1]at hu;simp only[Option.map_some]at hu;injection hu with hu
    subst hu;have hkm:=hkk k (mem_of_getElem? hk1);obtain⟨t,cs,hc⟩:=i7 hkm.1;obtain⟨b,us',hp,_⟩:=hws.obj k _ hc;have hk9:k≠9999:=by rintro rfl;rw[hp9]at hc;cases hc
    refine .one _ _ ⟨b,by simp only[if_neg hk9];rw[hp];rfl,by rw[hp]⟩
   ·have hob:=hws.obj id o ho;have hnk:=pp (hnp (id,o) (bR ho));cases o with
    |many P Q=>
     show(if id=9999 then undef else ρ id)=undef;rw[if_neg hne];exact hob
    |cells t cs=>
     have:=eM (id:=9999) (y:=undef) hne (show cu Z w ρ id (.cells t cs)from hob);rw[hnk]at this;exact this
    |row e s xs=>
     have:=eM (id:=9999) (y:=undef) hne (show cu Z w ρ id (.row e s xs)from hob);rw[hnk]at this;exact this
    |frame vs us=>
     have:=eM (id:=9999) (y:=undef) hne (show cu Z w ρ id (.frame vs us)from hob);rw[hnk]at this;exact this
    |any Q=>
     have:=eM (id:=9999) (y:=undef) hne (show cu Z w ρ id (.any Q)from hob);rw[hnk]at this;exact this
  ·rcases key id _ ho with⟨_,h0⟩|⟨hne,ho⟩
   ·cases h0
   ·obtain⟨h1,h2⟩:=hws.many.ok id P Q ho;refine⟨λb hb=>⟨(h1 b hb).1,(h1 b hb).2.1,(h1 b hb).2.2.1,λj o hj=>?_⟩,h2⟩;rcases key j o hj with⟨rfl,_⟩|⟨hne,hj⟩
    ·simp only[if_true];intro h0;cases h0
    ·simp only[if_neg hne];exact(h1 b hb).2.2.2 j o hj
  ·rcases key i _ hi with⟨_,h0⟩|⟨_,hi⟩
   ·cases h0
   ·rcases key j _ hj with⟨_,h0⟩|⟨_,hj⟩
    ·cases h0
    ·exact hws.many.sep i j P Q P' Q' hi hj
  ·simp only at hx hv;have hv':(us++List.replicate (fn.ntmps-us.length) undef)[i]? =some v:=by
    have:=hv;rw[<-Array.getElem?_toList]at this;simpa using this
   by_cases hi:i<us.length
   ·rw[List.getElem?_append_left (by simpa[hl]using hi),getElem?_map]at hx;obtain⟨p,hp,rfl⟩:=map_eq_some_iff.1 hx;rw[List.getElem?_append_left hi]at hv';exact relV (KE (hna p (mem_of_getElem? hp))) (hr i p v hp hv')
   ·rw[List.getElem?_append_right al]at hx;rw[List.getElem?_append_right ac]at hv';have e1:=List.eq_of_mem_replicate (mem_of_getElem? hx);have e2:=List.eq_of_mem_replicate (mem_of_getElem? hv');subst e1 e2;exact .one _ _ (show dZ Z w _ .und undef from rfl)
 refine calls_of_wp hf hb (wp_mono (hk.run _ w ⟨Z,_,hs⟩) λe a' w' h'=>?_);obtain⟨st',⟨Z',ρ',hs'⟩,hk'⟩:=h';have fin:(xF E st' post fn.results.toList λv=>v=res/\xz st'.ob ((9999,.frame (cE keep) (keep.map ρ))::post))->a'.defers=[]/\∃v,(results fn a'.tmps).run E.P w'= .ok v w'/\∃v0 Z' ρ',Ending.returned v= .returned v0/\WS E.W (fZ w Z ρ pre) Z' w' ρ' post/\(∀id∈keep,ρ' id=ρ id)/\bv Z' w' ρ' res.v v0:=by
  intro hr;obtain⟨v,p,h1,h2,h3,h4⟩:=Ct he hs' hr;subst h3;have hsub:=nm h4;have hsubp:aK st'.ob post:=by
   obtain⟨_,_,_,h5⟩:=bY h4;exact nm h5
  refine⟨hs'.df,v,h1,v,uq Z' ρ' st'.ob post,ρ',rfl,hs'.ws.out hsubp,λid hid=>?_,h2⟩;have hkm:=hkk id hid;obtain⟨t,cs,hc⟩:=i7 hkm.1;obtain⟨t',cs',hc'⟩:=i7 hkm.2;obtain⟨b,us1,hp,_⟩:=hws.obj id _ hc;obtain⟨b',us2,hp',_⟩:=hs'.ws.obj id _ (hsubp id _ hc');obtain⟨_,hfl,hfr⟩:=hs'.ws.obj 9999 _ (hsub 9999 (.frame (cE keep) (keep.map ρ)) (by simp[a5]));obtain⟨i,hi,hid'⟩:=List.getElem_of_mem hid;have hx:(cE keep)[i]? =some (.one (.ref id 0 0 0)):=by simp[cE,hi,hid']
  have hu:(keep.map ρ)[i]? =some (ρ id):=by simp[hi,hid']
  cases hfr i _ _ hx hu with
  |one _ _ hrel=>
   obtain⟨b2,hb2,hv2⟩:=hrel;rw[hp']at hb2;injection hb2 with hb2
   rw[hp',hv2,<-hb2]
 cases e with
 |normal=>exact fin hk'
 |ret=>exact fin hk'
 |_=>exact hk'.elim
end
section
open Go.RowKit
def aX:List (Nat×Nat)->Nat->Nat
 |[],i=>i
 |(a,b)::r,i=>match Nat.beq a i with
  |true=>b
  |false=>aX r i
def zq:List (Nat×Nat)->Nat->(Nat->Prop)->Prop
 |[],i,K=>K i
 |(a,b)::r,i,K=>match Nat.beq a i with
  |true=>K b
  |false=>zq r i K
theorem tc{K:Nat->Prop}{i:Nat}:∀{m:List (Nat×Nat)},zq m i K->K (aX m i)
 |[],h=>h
 |(a,b)::r,h=>by
  unfold zq at h;unfold aX;cases e:Nat.beq a i with
  |true=>rw[e]at h;exact h
  |false=>rw[e]at h;exact tc (m:=r) h
def BL(m:Nat->Nat):AC->AC
 | .own i=> .own (m i)
 | .ref i k s off=> .ref (m i) k s off
 |c=>c
def v5(m:Nat->Nat):AA->AA
 | .one c=> .one (BL m c)
 | .agg cs=> .agg (cs.map (BL m))
def EB(m:Nat->Nat):AR->AR
 | .val a=> .val (v5 m a)
 | .tup ls=> .tup (ls.map (v5 m))
def iL(m:Nat->Nat):AO->AO
 | .cells t cs=> .cells t (cs.map (BL m))
 |o=>o
def M4(m:List (Nat×Nat))(c:AC)(K:AC->Prop):Prop:=
 match c with
 | .own i=>zq m i λi=>K (.own i)
 | .ref i k s off=>zq m i λi=>K (.ref i k s off)
 |c=>K c
theorem Cm{m:List (Nat×Nat)}{c:AC}{K:AC->Prop}(h:M4 m c K):K (BL (aX m) c):=by
 cases c with
 |own i=>exact tc (K:=λi=>K (.own i)) h
 |ref i k s off=>exact tc (K:=λi=>K (.ref i k s off)) h
 |_=>exact h
def DS(m:List (Nat×Nat)):List AC->(List AC->Prop)->Prop
 |[],K=>K []
 |c::r,K=>M4 m c λc=>DS m r λr=>K (c::r)
theorem uy{m:List (Nat×Nat)}:∀{l:List AC} {K:List AC->Prop},DS m l K->K (l.map (BL (aX m)))
 |[],_,h=>h
 |c::r,K,h=>uy (l:=r) (K:=λr=>K (BL (aX m) c::r)) (Cm h)
def M3(m:List (Nat×Nat))(a:AA)(K:AA->Prop):Prop:=
 match a with
 | .one c=>M4 m c λc=>K (.one c)
 | .agg cs=>DS m cs λcs=>K (.agg cs)
theorem Cl{m:List (Nat×Nat)}{a:AA}{K:AA->Prop}(h:M3 m a K):K (v5 (aX m) a):=by
 cases a with
 |one c=>exact Cm (K:=λc=>K (.one c)) h
 |agg cs=>exact uy (K:=λcs=>K (.agg cs)) h
def zC(m:List (Nat×Nat)):List AA->(List AV->Prop)->Prop
 |[],K=>K []
 |c::r,K=>M3 m c λc=>CA c λc=>zC m r λr=>K (c::r)
theorem zD{m:List (Nat×Nat)}:∀{l:List AA} {K:List AV->Prop},zC m l K->K (l.map λa=>(v5 (aX m) a).v)
 |[],_,h=>h
 |c::r,K,h=>zD (l:=r) (K:=λr=>K ((v5 (aX m) c).v::r)) (wX (K:=λc=>zC m r λr=>K (c::r)) (Cl (K:=λc=>CA c λc=>zC m r λr=>K (c::r)) h))
def J9(m:List (Nat×Nat))(r:AR)(K:AV->Prop):Prop:=
 match r with
 | .val a=>M3 m a λa=>CA a K
 | .tup ls=>zC m ls λl=>K (.tup l)
theorem Cn{m:List (Nat×Nat)}{r:AR}{K:AV->Prop}(h:J9 m r K):K (EB (aX m) r).v:=by
 cases r with
 |val a=>exact wX (Cl (K:=λa=>CA a K) h)
 |tup ls=>
  have:=zD (K:=λl=>K (.tup l)) h;have e:(EB (aX m) (.tup ls)).v= .tup (ls.map λa=>(v5 (aX m) a).v):=by simp[EB,AR.v,Function.comp_def]
  rw[e];exact this
def M5(m:List (Nat×Nat))(o:AO)(K:AO->Prop):Prop:=
 match o with
 | .cells t cs=>DS m cs λcs=>K (.cells t cs)
 |o=>K o
theorem Ll{m:List (Nat×Nat)}{o:AO}{K:AO->Prop}(h:M5 m o K):K (iL (aX m) o):=by
 cases o with
 |cells t cs=>exact uy (K:=λcs=>K (.cells t cs)) h
 |_=>exact h
section
variable {Z:Nat->Prop} {w:World} {ρ ρ1:Nat->Value} {m:Nat->Nat}
theorem EA{c:AC}{v:Value}(h:dZ Z w ρ (BL m c) v):dZ Z w (λi=>ρ (m i)) c v:=by cases c<;>exact h
theorem KQ{a:AA}{v:Value}(h:bv Z w ρ (v5 m a).v v):bv Z w (λi=>ρ (m i)) a.v v:=by
 cases a with
 |one c=>cases h with|one _ _ h=>exact .one _ _ (EA h)
 |agg cs=>
  cases h with
  |agg _ us hl h=>
   refine .agg _ _ (by simpa using hl) λi c u hc hu=>EA (h i _ u ?_ hu);rw[getElem?_map,hc];rfl
def lm:AO->Bool
 | .frame _ _=>false
 | .many _ _=>false
 |_=>true
theorem KR{id:Nat}{o:AO}(hf:lm o=true)(h:cu Z w ρ (m id) (iL m o)):cu Z w (λi=>ρ (m i)) id o:=by
 cases o with
 |cells t cs=>
  obtain⟨b,us,hp,hg,hl,hc⟩:=h;refine⟨b,us,hp,hg,by simpa using hl,λi c u h1 h2=>EA (hc i _ u ?_ h2)⟩;rw[getElem?_map,h1];rfl
 |row e s xs=>exact h
 |frame vs us=>cases hf
 |any Q=>exact h
 |many P Q=>cases hf
def inC(post:List (Nat×AO)):AC->Bool
 | .own i=>dK post i
 | .ref i _ _ _=>dK post i
 |_=>true
def inA(post:List (Nat×AO)):AA->Bool
 | .one c=>inC post c
 | .agg cs=>cs.all (inC post)
def inR(post:List (Nat×AO)):AR->Bool
 | .val a=>inA post a
 | .tup ls=>ls.all (inA post)
def inO(post:List (Nat×AO)):AO->Bool
 | .cells _ cs=>cs.all (inC post)
 | .row _ _ _=>true
 | .frame [] []=>true
 | .frame _ _=>false
 | .any _=>false
 | .many _ _=>false
variable {post:List (Nat×AO)}
theorem xh(hag:∀i,dK post i=true->ρ1 (m i)=ρ i){c:AC}{v:Value}(hin:inC post c=true)(h:dZ Z w ρ c v):dZ Z w ρ1 (BL m c) v:=by
 cases c with
 |own i=>simpa only[BL,dZ,hag i hin]using h
 |ref i k s off=>simpa only[BL,dZ,hag i hin]using h
 |_=>exact h
theorem C6(hag:∀i,dK post i=true->ρ1 (m i)=ρ i){a:AA}{v:Value}(hin:inA post a=true)(h:bv Z w ρ a.v v):bv Z w ρ1 (v5 m a).v v:=by
 cases a with
 |one c=>cases h with|one _ _ h=>exact .one _ _ (xh hag hin h)
 |agg cs=>
  cases h with
  |agg _ us hl h=>
   refine .agg _ _ (by simpa using hl) λi c u hc hu=>?_;rw[getElem?_map]at hc;obtain⟨c0,h0,rfl⟩:=map_eq_some_iff.1 hc;exact xh hag (all_eq_true.1 hin c0 (mem_of_getElem? h0)) (h i c0 u h0 hu)
theorem C8(hag:∀i,dK post i=true->ρ1 (m i)=ρ i){r:AR}{v:Value}(hin:inR post r=true)(h:bv Z w ρ r.v v):bv Z w ρ1 (EB m r).v v:=by
 cases r with
 |val a=>exact C6 hag hin h
 |tup ls=>
  cases h with
  |tup _ us hl h=>
   refine .tup _ _ (by simpa using hl) λi c u hc hu=>?_;rw[map_map,getElem?_map]at hc;obtain⟨c0,h0,rfl⟩:=map_eq_some_iff.1 hc;refine C6 hag (all_eq_true.1 hin c0 (mem_of_getElem? h0)) (h i _ u ?_ hu);rw[getElem?_map,h0];rfl
theorem C7(hag:∀i,dK post i=true->ρ1 (m i)=ρ i){id:Nat}(hid:dK post id=true){o:AO}(hin:inO post o=true)(h:cu Z w ρ id o):cu Z w ρ1 (m id) (iL m o):=by
 cases o with
 |cells t cs=>
  obtain⟨b,us,hp,hg,hl,hc⟩:=h;refine⟨b,us,(hag id hid).trans hp,hg,by simpa using hl,λi c u h1 h2=>?_⟩;rw[getElem?_map]at h1;obtain⟨c0,h0,rfl⟩:=map_eq_some_iff.1 h1;exact xh hag (all_eq_true.1 hin c0 (mem_of_getElem? h0)) (hc i c0 u h0 h2)
 |row e s xs=>
  obtain⟨us,hs,hl,hx,hu,hown,hd⟩:=h;refine⟨us,hs,hl,hx,hu,?_,hd⟩;rw[hag id hid];exact hown
 |frame vs us=>
  have:vs=[]/\us=[]:=by
   revert hin;unfold inO;split<;>simp_all
  obtain⟨rfl,rfl⟩:=this;exact⟨(hag id hid).trans h.1,rfl,by simp⟩
 |any Q=>cases hin
 |many P Q=>cases hin
theorem KO{id:Nat}{o:AO}(hf:lm o=true)(h:iO Z w ρ id o):cu Z w ρ id o:=by cases o<;>first|exact h|cases hf
theorem xU(f:Nat->Nat)(o:AO):lm (iL f o)=lm o:=by cases o<;>rfl
theorem GG{id:Nat}{o:AO}(hf:inO post o=true)(h:iO Z w ρ id o):cu Z w ρ id o:=by
 cases o<;>first|exact h|cases hf
theorem GF{f:Nat->Nat}{id:Nat}{o:AO}(hf:inO post o=true)(h:cu Z w ρ id (iL f o)):iO Z w ρ id (iL f o):=by
 cases o<;>first|exact h|cases hf
theorem GE{id:Nat}{o:AO}(hf:lm o=true)(h:cu Z w ρ id o):iO Z w ρ id o:=by cases o<;>first|exact h|cases hf
end
def m7(ks:List Nat)(x:AV):AV:=ks.foldl (λx k=>lO k x) x
def sa(ks:List Nat)(o:AO):AO:=ks.foldl (λo k=>mu k o) o
section
variable {Z:Nat->Prop} {w:World} {ρ1:Nat->Value}
theorem uK:∀{ks:List Nat} {ρ:Nat->Value} {x:AV} {v:Value},(∀i,i∉ks->ρ1 i=ρ i)->bv Z w ρ x v->bv Z w ρ1 (m7 ks x) v
 |[],ρ,x,v,hag,h=>by
  have:ρ1=ρ:=funext λi=>hag i ai;subst this;exact h
 |k::r,ρ,x,v,hag,h=>by
  refine uK (ks:=r) (λi hi=>?_) (lx (id:=k) (y:=ρ1 k) h);by_cases e:i=k
  ·subst e;simp
  ·simp only[if_neg e];exact hag i (by simp[e,hi])
theorem lP:∀{ks:List Nat} {ρ:Nat->Value} {j:Nat} {o:AO},j∉ks->(∀i,i∉ks->ρ1 i=ρ i)->cu Z w ρ j o->cu Z w ρ1 j (sa ks o)
 |[],ρ,j,o,_,hag,h=>by
  have:ρ1=ρ:=funext λi=>hag i ai;subst this;exact h
 |k::r,ρ,j,o,hj,hag,h=>by
  refine lP (ks:=r) (λe=>hj (by simp[e])) (λi hi=>?_) (eM (id:=k) (λe=>hj (by simp[e])) (y:=ρ1 k) h);by_cases e:i=k
  ·subst e;simp
  ·simp only[if_neg e];exact hag i (by simp[e,hi])
theorem gR:∀{ks:List Nat} {o:AO} {P:Nat->Prop} {Q:World->Prop},sa ks o= .many P Q->o= .many P Q
 |[],o,P,Q,h=>h
 |k::r,o,P,Q,h=>by
  have h2:=gR (ks:=r) (o:=mu k o) h;cases o<;>first|exact h2|(simp[mu]at h2;done)
theorem vR:∀(ks:List Nat) (P:Nat->Prop) (Q:World->Prop),sa ks (.many P Q)= .many P Q
 |[],P,Q=>rfl
 |k::r,P,Q=>vR r P Q
theorem vZ{ρ:Nat->Value}{id:Nat}{o:AO}(hn:∀P Q,o≠ .many P Q)(h:cu Z w ρ id o):iO Z w ρ id o:=by
 cases o<;>first|exact h|exact absurd rfl (hn _ _)
theorem xP{ks:List Nat}{ρ:Nat->Value}{j:Nat}{o:AO}(hj:j∉ks)(hag:∀i,i∉ks->ρ1 i=ρ i)(h:iO Z w ρ j o):iO Z w ρ1 j (sa ks o):=by
 cases o with
 |many P Q=>rw[vR];exact(hag j hj).trans h
 |cells t cs=>exact vZ (λP Q e=>by cases gR e) (lP hj hag (show cu Z w ρ j (.cells t cs)from h))
 |row e s xs=>exact vZ (λP Q e=>by cases gR e) (lP hj hag (show cu Z w ρ j (.row e s xs)from h))
 |frame vs us=>exact vZ (λP Q e=>by cases gR e) (lP hj hag (show cu Z w ρ j (.frame vs us)from h))
 |any R=>exact vZ (λP Q e=>by cases gR e) (lP hj hag (show cu Z w ρ j (.any R)from h))
end
def lS(ks:List Nat)(ob:List (Nat×AO)):List (Nat×AO):=ks.foldl (λob k=>nW k ob) ob
theorem sy:∀{ks:List Nat} {ob:List (Nat×AO)} {j:Nat},a5 (lS ks ob) j=(a5 ob j).map (sa ks)
 |[],ob,j=>by
  have:sa []=id:=rfl;simp[lS,this]
 |k::r,ob,j=>by
  have:=sy (ks:=r) (ob:=nW k ob) (j:=j);rw[pt,Option.map_map]at this;exact this
def sZ:List Nat->ASt->(ASt->Prop)->Prop
 |[],st,K=>K st
 |k::r,st,K=>zn k st.tm λtm=>kV k st.ob λob=>sZ r ⟨tm,ob⟩ K
theorem II(k:Nat)(r:List Nat)(l:List AV):(l.map (lO k)).map (m7 r)=l.map (m7 (k::r)):=by
 rw[map_map];rfl
theorem qU:∀{ks:List Nat} {st:ASt} {K:ASt->Prop},sZ ks st K->K ⟨st.tm.map (m7 ks),lS ks st.ob⟩
 |[],st,K,h=>by
  have:m7 []=id:=rfl;rw[this,List.map_id];exact h
 |k::r,st,K,h=>by
  have h1:=iF (K:=λob=>sZ r ⟨st.tm.map (lO k),ob⟩ K) (oI (K:=λtm=>kV k st.ob λob=>sZ r ⟨tm,ob⟩ K) h);have h2:=qU (ks:=r) h1;simp only[II]at h2;exact h2
def sB(ob l:List (Nat×AO)):List (Nat×AO):=l.foldl (λob p=>fg ob p.1 p.2) ob
def uA(m:List (Nat×Nat)):List (Nat×AO)->List (Nat×AO)->(List (Nat×AO)->Prop)->Prop
 |ob,[],K=>K ob
 |ob,(i,o)::r,K=>M5 m o λo=>zq m i λi=>gI i o ob λob=>uA m ob r K
theorem uB{m:List (Nat×Nat)}:∀{l ob:List (Nat×AO)} {K:List (Nat×AO)->Prop},uA m ob l K->K (sB ob (l.map λp=>(aX m p.1,iL (aX m) p.2)))
 |[],ob,K,h=>h
 |(i,o)::r,ob,K,h=>uB (l:=r) (ed (K:=λob=>uA m ob r K) (tc (K:=λi=>gI i (iL (aX m) o) ob λob=>uA m ob r K) (Ll (K:=λo=>zq m i λi=>gI i o ob λob=>uA m ob r K) h)))
theorem Eu{l:List (Nat×AO)}{k:Nat}(h:k∉l.map (·.1)):a5 l k=none:=by
 cases e:a5 l k with
 |none=>rfl
 |some o=>exact absurd (mem_map.2 ⟨(k,o),bR e,rfl⟩) h
theorem uO:∀{l ob:List (Nat×AO)} {i:Nat},(l.map (·.1)).Nodup->a5 (sB ob l) i=match a5 l i with|some o=>some o|none=>a5 ob i
 |[],ob,i,_=>rfl
 |(k,o)::r,ob,i,hn=>by
  obtain⟨h1,h2⟩:=nodup_cons.1 (by rw[map_cons]at hn;exact hn);have:=uO (l:=r) (ob:=fg ob k o) (i:=i) h2;rw[bH]at this;show a5 (sB (fg ob k o) r) i=_;rw[this];simp only[a5];by_cases e:k=i
  ·subst e;simp only[if_true,Eu h1]
  ·simp only[if_neg e]
theorem gT:∀{l:List (Nat×AO)} {i:Nat} {o:AO},(l.map (·.1)).Nodup->(i,o)∈l->a5 l i=some o
 |[],_,_,_,h=>by cases h
 |(k,x)::r,i,o,hn,h=>by
  obtain⟨h1,h2⟩:=nodup_cons.1 (by rw[map_cons]at hn;exact hn);unfold a5;rcases mem_cons.1 h with h|h
  ·injection h with e1 e2;subst e1 e2;simp
  ·have:k≠i:=by rintro rfl;exact h1 (mem_map.2 ⟨_,h,rfl⟩)
   rw[if_neg this];exact gT h2 h
theorem pr{α β:Type}{f:α->β}:∀{l:List α},(l.map f).Nodup->l.Nodup
 |[],_=>List.nodup_nil
 |x::r,h=>by
  obtain⟨h1,h2⟩:=nodup_cons.1 (by rw[map_cons]at h;exact h);exact nodup_cons.2 ⟨λhm=>h1 (mem_map.2 ⟨x,hm,rfl⟩),pr h2⟩
theorem lN{α β:Type}{f:α->β}:∀{l:List α},(l.map f).Nodup->∀{x y:α},x∈l->y∈l->f x=f y->x=y
 |[],_,_,_,h,_,_=>by cases h
 |a::r,h,x,y,hx,hy,e=>by
  obtain⟨h1,h2⟩:=nodup_cons.1 (by rw[map_cons]at h;exact h);rcases mem_cons.1 hx with ex|hx'
  ·rcases mem_cons.1 hy with ey|hy'
   ·rw[ex,ey]
   ·rw[ex]at e;exact absurd (mem_map.2 ⟨y,hy',e.symm⟩) h1
  ·rcases mem_cons.1 hy with ey|hy'
   ·rw[ey]at e;exact absurd (mem_map.2 ⟨x,hx',e⟩) h1
   ·exact lN h2 hx' hy' e
def kY(m:List (Nat×Nat))(pre post:List (Nat×AO))(res:AR):Bool:=
 nodupB (post.map λp=>aX m p.1)&&pre.all (λp=>dK post p.1&&lm p.2)&&post.all (λp=>inO post p.2)&&inR post res
where nodupB:List Nat->Bool
 |[]=>true
 |x::r=> !r.any (Nat.beq x)&&nodupB r
theorem pq:∀{l:List Nat},kY.nodupB l=true->l.Nodup
 |[],_=>List.nodup_nil
 |x::r,h=>by
  simp only[kY.nodupB,Bool.and_eq_true,Bool.not_eq_true',List.any_eq_false]at h;refine nodup_cons.2 ⟨λhm=>h.1 x hm (Nat.beq_refl x),pq h.2⟩
def pj(m:List (Nat×Nat))(post:List (Nat×AO))(keep:List Nat):List Nat:=(post.filter λp=> !keep.any (Nat.beq p.1)).map λp=>aX m p.1
def Oo(m:List (Nat×Nat))(ob:List (Nat×AO)):List (Nat×AO)->Prop->Prop
 |[],X=>X
 |(i,o)::r,X=>aOb ob (aX m i) λo'=>o'=iL (aX m) o/\Oo m ob r X
theorem zA{m:List (Nat×Nat)}{ob:List (Nat×AO)}{X:Prop}:∀{l:List (Nat×AO)},Oo m ob l X->(∀i o,(i,o)∈l->a5 ob (aX m i)=some (iL (aX m) o))/\X
 |[],h=>⟨by simp,h⟩
 |(i,o)::r,h=>by
  obtain⟨o',ho,rfl,hr⟩:=bY h;obtain⟨h1,h2⟩:=zA hr;refine⟨λj x hx=>?_,h2⟩;rcases mem_cons.1 hx with e|hx
  ·injection e with e1 e2;subst e1 e2;exact ho
  ·exact h1 j x hx
def L1(m:Nat->Nat)(ids:List Nat)(ρ' ρ:Nat->Value)(j:Nat):Value:=match ids.find? (λc=>Nat.beq (m c) j)with
 |some c=>ρ' c
 |none=>ρ j
theorem KS{m:Nat->Nat}{ids:List Nat}{ρ' ρ:Nat->Value}(hn:(ids.map m).Nodup){c:Nat}(hc:c∈ids):L1 m ids ρ' ρ (m c)=ρ' c:=by
 unfold L1;cases e:ids.find? (λx=>Nat.beq (m x) (m c))with
 |none=>exact absurd (Nat.beq_refl (m c)) (List.find?_eq_none.1 e c hc)
 |some d=>
  have h1:=List.mem_of_find?_eq_some e;have h2:=List.find?_some (p:=λx=>Nat.beq (m x) (m c)) e;rw[lN hn h1 hc (Nat.eq_of_beq_eq_true h2)]
theorem GI{m:Nat->Nat}{ids:List Nat}{ρ' ρ:Nat->Value}{j:Nat}(hj:j∉ids.map m):L1 m ids ρ' ρ j=ρ j:=by
 unfold L1;cases e:ids.find? (λx=>Nat.beq (m x) j)with
 |none=>rfl
 |some d=>exact absurd (mem_map.2 ⟨d,List.mem_of_find?_eq_some e,Nat.eq_of_beq_eq_true (List.find?_some (p:=λx=>Nat.beq (m x) j) e)⟩) hj
def Qq(m:List (Nat×Nat))(st:ASt)(pre post:List (Nat×AO))(keep:List Nat)(res:AR)(K:AV->ASt->Prop):Prop:=
 Oo m st.ob pre (sZ (pj m post keep) st λst=>uA m st.ob post λob=>J9 m res λr=>K r ⟨st.tm,ob⟩)
theorem UK{E:a6}{S:bj}{st:ASt}{f:FuncId}{args:List AA}{pre post:List (Nat×AO)}{keep:List Nat}{res:AR}{K:AV->ASt->Prop}{cargs:List AV}(hc:cV E f args pre post keep res)(m:List (Nat×Nat))
  (hck:kY m pre post res=true) (hargs:(args.map λa=>(v5 (aX m) a).v)=cargs) (hpre:∀i o,(i,o)∈pre->a5 st.ob (aX m i)=some (iL (aX m) o))
  (hk:K (EB (aX m) res).v ⟨st.tm.map (m7 (pj m post keep)),sB (lS (pj m post keep) st.ob) (post.map λp=>(aX m p.1,iL (aX m) p.2))⟩):aG E S f cargs st K:=by
 subst hargs;refine⟨hc.enter,λZ ρ a w us hs hl hr=>?_⟩;simp only[kY,Bool.and_eq_true,all_eq_true]at hck;obtain⟨⟨⟨hnd,hpp⟩,hpo⟩,hres⟩:=hck;have hnd:=pq hnd;have hnd1:((post.map (·.1)).map (aX m)).Nodup:=by rw[map_map];exact hnd
 have hnd2:(post.map (·.1)).Nodup:=pr hnd1;have hndm:((post.map λp=>(aX m p.1,iL (aX m) p.2)).map (·.1)).Nodup:=by rw[map_map];exact hnd
 have hinj:∀{i j},dK post i=true->dK post j=true->aX m i=aX m j->i=j:=by
  intro i j hi hj e;obtain⟨oi,hoi⟩:=cq.1 hi;obtain⟨oj,hoj⟩:=cq.1 hj;exact lN hnd1 (mem_map.2 ⟨_,bR hoi,rfl⟩) (mem_map.2 ⟨_,bR hoj,rfl⟩) e
 have hhas:∀{i},dK post i=true↔i∈post.map (·.1):=by
  intro i;rw[cq];constructor
  ·rintro⟨o,ho⟩;exact mem_map.2 ⟨_,bR ho,rfl⟩
  ·intro h;obtain⟨p,hp,rfl⟩:=mem_map.1 h;exact⟨p.2,gT hnd2 hp⟩
 have hget:∀i o,a5 pre i=some o->a5 st.ob (aX m i)=some (iL (aX m) o)/\dK post i=true/\lm o=true:=by
  intro i o ho;have:=hpp _ (bR ho);simp only[Bool.and_eq_true]at this;exact⟨hpre i o (bR ho),this.1,this.2⟩
 have hws0:WS E.W (fZ w Z (λi=>ρ (aX m i)) pre) Z w (λi=>ρ (aX m i)) pre:=by
  refine⟨rfl,rfl,rfl,Nat.le_refl _,λ_ _ _=>rfl,hs.ws.zlt,λid o b ho hb=>⟨(hs.ws.mine _ _ b (hget id o ho).1 hb).1,.inr ⟨id,o,ho,hb⟩⟩,λi j oi oj b hi hj hij hbi hbj=>?_,λid o ho=>GE (hget id o ho).2.2 (KR (hget id o ho).2.2 (KO (by rw[xU];exact(hget id o ho).2.2) (hs.ws.obj _ _ (hget id o ho).1))),Uq (λid P Q ho=>by have:=(hget id _ ho).2.2;cases this),hs.ws.g,λb hb=>hb,λb hb=> .inl hb⟩;exact hs.ws.sep _ _ _ _ b (hget i oi hi).1 (hget j oj hj).1 (λe=>hij (hinj (hget i oi hi).2.1 (hget j oj hj).2.1 e)) hbi hbj
 refine(hc.run Z w (λi=>ρ (aX m i)) us hws0 (by simpa using hl) λi p u h3 h4=>?_).mono ?_
 ·refine KQ (hr i _ u ?_ h4);rw[getElem?_map,h3];rfl
 rintro e w' ⟨v,Z',ρ',rfl,hw,hkeep,hv⟩;let ids:=post.map (·.1)
 let ρ1:=L1 (aX m) ids ρ' ρ
 let ks:=pj m post keep
 have hin:∀i,dK post i=true->ρ1 (aX m i)=ρ' i:=λi hi=>KS hnd1 (hhas.1 hi);have hout:∀j,j∉ids.map (aX m)->ρ1 j=ρ j:=λj hj=>GI hj;have hag:∀i,i∉ks->ρ1 i=ρ i:=by
  intro i hi;by_cases h:i∈ids.map (aX m)
  ·obtain⟨c,hc1,rfl⟩:=mem_map.1 h;rw[hin c (hhas.2 hc1)];refine hkeep c ?_;obtain⟨p,hp,rfl⟩:=mem_map.1 hc1;refine Classical.byContradiction λhn=>hi (mem_map.2 ⟨p,List.mem_filter.2 ⟨hp,?_⟩,rfl⟩);simp only[Bool.not_eq_true',List.any_eq_false];intro k hk2 e;rw[Nat.eq_of_beq_eq_true e]at hn;exact hn hk2
  ·exact hout i h
 have hksub:∀i,i∈ks->i∈ids.map (aX m):=by
  intro i hi;obtain⟨p,hp,rfl⟩:=mem_map.1 hi;exact mem_map.2 ⟨p.1,mem_map.2 ⟨p,(List.mem_filter.1 hp).1,rfl⟩,rfl⟩
 have hob:∀j o,a5 (sB (lS ks st.ob) (post.map λp=>(aX m p.1,iL (aX m) p.2))) j=some o->
   (∃c o',a5 post c=some o'/\j=aX m c/\o=iL (aX m) o')\/(j∉ids.map (aX m)/\∃o',a5 st.ob j=some o'/\o=sa ks o'):=by
  intro j o ho;rw[uO hndm]at ho;split at ho
  ·rename_i o1 h1;injection ho with ho
   subst ho;obtain⟨p,hp,e⟩:=mem_map.1 (bR h1);injection e with e1 e2
   exact .inl ⟨p.1,p.2,gT hnd2 hp,e1.symm,e2.symm⟩
  ·rename_i h1;rw[sy]at ho;obtain⟨o',h2,rfl⟩:=map_eq_some_iff.1 ho;refine .inr ⟨λhm=>?_,o',h2,rfl⟩;obtain⟨c,hc1,rfl⟩:=mem_map.1 hm;obtain⟨p,hp,rfl⟩:=mem_map.1 hc1;rw[gT hndm (mem_map.2 ⟨p,hp,rfl⟩)]at h1;cases h1
 have hmany:∀j P Q,a5 (sB (lS ks st.ob) (post.map λp=>(aX m p.1,iL (aX m) p.2))) j=some (.many P Q)->j∉ids.map (aX m)/\a5 st.ob j=some (.many P Q):=by
  intro j P Q ho;rcases hob j _ ho with⟨c,o',hc1,_,e⟩|⟨hj,o',ho',e⟩
  ·have:=hpo _ (bR hc1);cases o'<;>first|(cases e;done)|(cases this;done)
  ·exact⟨hj,by rw[ho',gR e.symm]⟩
 have hO:∀b,(fZ w Z (λi=>ρ (aX m i)) pre).O b->∃i o,a5 st.ob (aX m i)=some o/\dK post i=true/\br (ρ (aX m i))=some b:=by
  rintro b ⟨i,o,ho,hb⟩;exact⟨i,_,(hget i o ho).1,(hget i o ho).2.1,hb⟩
 have hfar:∀j o b,j∉ids.map (aX m)->a5 st.ob j=some o->br (ρ j)=some b->¬(fZ w Z (λi=>ρ (aX m i)) pre).O b:=by
  intro j o b hj ho hb hOb;obtain⟨i,o2,ho2,hi,hb2⟩:=hO b hOb;refine hs.ws.sep j (aX m i) o o2 b ho ho2 (λe=>hj ?_) hb hb2;rw[e];exact mem_map.2 ⟨i,hhas.1 hi,rfl⟩
 have hsame:∀b,b<w.heap.size->¬(fZ w Z (λi=>ρ (aX m i)) pre).O b->w'.heap[b]? =w.heap[b]? :=hw.old;have hzn:∀b,Z b->w'.heap[b]? =w.heap[b]? :=by
  intro b hb;refine hsame b (hs.ws.zlt b hb) λhOb=>?_;obtain⟨i,o2,ho2,_,hb2⟩:=hO b hOb;exact(hs.ws.mine _ _ b ho2 hb2).1 hb
 have hsz:w.heap.size<=w'.heap.size:=hw.size;have hobase:∀b,(fZ w Z (λi=>ρ (aX m i)) pre).O b->S.w0.heap.size<=b\/S.O b:=by
  intro b hOb;obtain⟨i,o2,ho2,_,hb2⟩:=hO b hOb;exact(hs.ws.mine _ _ b ho2 hb2).2
 refine⟨v,(EB (aX m) res).v,⟨st.tm.map (m7 ks),sB (lS ks st.ob) (post.map λp=>(aX m p.1,iL (aX m) p.2))⟩,Z',ρ1,rfl,⟨?_,by simp[hs.len],λi x u hx hu=>?_,hs.df⟩,C8 hin hres hv,hk⟩
 ·refine⟨hw.os.trans hs.ws.os,hw.tape.trans hs.ws.tape,hw.output.trans hs.ws.output,Nat.le_trans hs.ws.size hsz,λb hb hno=>?_,hw.zlt,λj o b ho hb=>?_,λi j oi oj b hi hj hij hbi hbj=>?_,λj o ho=>?_,⟨λid P Q ho=>?_,λi j P Q P' Q' hi hj=>?_⟩,hw.g,λb hb=>hw.z0 b (hs.ws.z0 b hb),λb hb=>?_⟩
  ·refine(hsame b (Nat.lt_of_lt_of_le hb hs.ws.size) λhOb=>?_).trans (hs.ws.old b hb hno);rcases hobase b hOb with h|h
   ·omega
   ·exact hno h
  ·rcases hob j o ho with⟨c,o',hc1,rfl,rfl⟩|⟨hj,o',ho',rfl⟩
   ·have hcp:=cq.2 ⟨o',hc1⟩;rw[hin c hcp]at hb;obtain⟨h1,h2⟩:=hw.mine c o' b hc1 hb;refine⟨h1,?_⟩;rcases h2 with h2|h2
    ·exact .inl (Nat.le_trans hs.ws.size h2)
    ·exact hobase b h2
   ·rw[hout j hj]at hb;obtain⟨h1,h2⟩:=hs.ws.mine j o' b ho' hb;refine⟨λhz=>?_,h2⟩;rcases hw.znew b hz with h3|h3|h3
    ·exact h1 h3
    ·have:=hs.ws.lt ho' hb;exact absurd (show w.heap.size<=b from h3) ac
    ·exact hfar j o' b hj ho' hb h3
  ·rcases hob i oi hi with⟨c,o',hc1,rfl,rfl⟩|⟨hi',o',ho',rfl⟩
   ·have hcp:=cq.2 ⟨o',hc1⟩;rw[hin c hcp]at hbi;rcases hob j oj hj with⟨c2,o2,hc2,rfl,rfl⟩|⟨hj',o2,ho2,rfl⟩
    ·have hcp2:=cq.2 ⟨o2,hc2⟩;rw[hin c2 hcp2]at hbj;exact hw.sep c c2 o' o2 b hc1 hc2 (λe=>hij (by rw[e])) hbi hbj
    ·rw[hout j hj']at hbj;rcases(hw.mine c o' b hc1 hbi).2 with h|h
     ·have:=hs.ws.lt ho2 hbj;exact absurd (show w.heap.size<=b from h) ac
     ·exact hfar j o2 b hj' ho2 hbj h
   ·rw[hout i hi']at hbi;rcases hob j oj hj with⟨c2,o2,hc2,rfl,rfl⟩|⟨hj',o2,ho2,rfl⟩
    ·have hcp2:=cq.2 ⟨o2,hc2⟩;rw[hin c2 hcp2]at hbj;rcases(hw.mine c2 o2 b hc2 hbj).2 with h|h
     ·have:=hs.ws.lt ho' hbi;exact absurd (show w.heap.size<=b from h) ac
     ·exact hfar i o' b hi' ho' hbi h
    ·rw[hout j hj']at hbj;exact hs.ws.sep i j o' o2 b ho' ho2 hij hbi hbj
  ·rcases hob j o ho with⟨c,o',hc1,rfl,rfl⟩|⟨hj,o',ho',rfl⟩
   ·have hcp:=cq.2 ⟨o',hc1⟩;exact GF (hpo _ (bR hc1)) (C7 hin hcp (hpo _ (bR hc1)) (GG (hpo _ (bR hc1)) (hw.obj c o' hc1)))
   ·refine xP (λh=>hj (hksub j h)) hag ?_;refine(hs.ws.obj j o' ho').mono hw.z0 hzn λb hb=>hsame b (hs.ws.lt ho' hb) (hfar j o' b hj ho' hb)
  ·obtain⟨hj,ho'⟩:=hmany id P Q ho;obtain⟨h1,h2⟩:=hs.ws.many.ok id P Q ho';have hnO:∀b,P b->¬(fZ w Z (λi=>ρ (aX m i)) pre).O b:=by
    intro b hb hOb;obtain⟨i,o2,ho2,_,hb2⟩:=hO b hOb;exact(h1 b hb).2.2.2 _ _ ho2 hb2
   refine⟨λb hb=>⟨Nat.lt_of_lt_of_le (h1 b hb).1 hsz,λhz=>?_,(h1 b hb).2.2.1,λj o hjo hbj=>?_⟩,λw2 hw2=>h2 w2 λb hb=>(hw2 b hb).trans (hsame b (h1 b hb).1 (hnO b hb))⟩
   ·rcases hw.znew b hz with h3|h3|h3
    ·exact(h1 b hb).2.1 h3
    ·have:=(h1 b hb).1;exact absurd (show w.heap.size<=b from h3) ac
    ·exact hnO b hb h3
   ·rcases hob j o hjo with⟨c,o',hc1,rfl,rfl⟩|⟨hj',o',ho2,rfl⟩
    ·rw[hin c (cq.2 ⟨o',hc1⟩)]at hbj;rcases(hw.mine c o' b hc1 hbj).2 with h3|h3
     ·have:=(h1 b hb).1;exact absurd (show w.heap.size<=b from h3) ac
     ·exact hnO b hb h3
    ·rw[hout j hj']at hbj;exact(h1 b hb).2.2.2 j o' ho2 hbj
  ·exact hs.ws.many.sep i j P Q P' Q' (hmany i P Q hi).2 (hmany j P' Q' hj).2
  ·rcases hw.znew b hb with h|h|h
   ·exact hs.ws.znew b h
   ·exact .inr (.inl (Nat.le_trans hs.ws.size h))
   ·exact .inr (hobase b h)
 ·simp only[getElem?_map]at hx;obtain⟨x0,h0,rfl⟩:=map_eq_some_iff.1 hx;exact uK hag ((hs.tm i x0 u h0 hu).mono hw.z0 hzn)
theorem TA{E:a6}{S:bj}{st:ASt}{f:FuncId}{args:List AA}{pre post:List (Nat×AO)}{keep:List Nat}{res:AR}{K:AV->ASt->Prop}{cargs:List AV}(hc:cV E f args pre post keep res)(m:List (Nat×Nat))
  (hck:kY m pre post res=true) (hargs:(args.map λa=>(v5 (aX m) a).v)=cargs) (hk:Qq m st pre post keep res K):aG E S f cargs st K:=by
 obtain⟨hpre,hk⟩:=zA hk;have hk:=Cn (uB (qU hk));exact UK hc m hck hargs hpre hk
end
section
open Go.RowKit
theorem aG.upd{E:a6}{S:bj}{tm:List AV}{ob:List (Nat×AO)}{f:FuncId}{args:List AA}{o o':AO}{res:AR}{K:AV->ASt->Prop}{cargs:List AV}(hc:cV E f args [(1000,o)] [(1000,o')] [1000] res)(id:Nat)
  (hck:kY [(1000,id)] [(1000,o)] [(1000,o')] res=true) (hargs:(args.map λa=>(v5 (aX [(1000,id)]) a).v)=cargs) (hob:a5 ob id=some (iL (aX [(1000,id)]) o))
  (hk:M5 [(1000,id)] o' λo'=>gI id o' ob λob=>J9 [(1000,id)] res λr=>K r ⟨tm,ob⟩):aG E S f cargs ⟨tm,ob⟩ K:=
 TA hc [(1000,id)] hck hargs (show aOb ob id λo1=>o1=iL (aX [(1000,id)]) o/\_ from DO hob ⟨rfl,hk⟩)
end
section
open Go.RowKit
structure MP (E:a6) (f:FuncId) (args:List AV) (c:Nat) (o0 o1:AO) (r:AV):Prop where
 h:∀{S:bj} {tm:List AV} {ob:List (Nat×AO)} {K:AV->ASt->Prop},a5 ob c=some o0->K r ⟨tm,fg ob c o1⟩->aG E S f args ⟨tm,ob⟩ K
theorem Wp{E:a6}{f:FuncId}{args:List AA}{o o':AO}{res:AR}{cargs:List AV}{o0 o1:AO}{r:AV}(hc:cV E f args [(1000,o)] [(1000,o')] [1000] res)(id:Nat)
  (hck:kY [(1000,id)] [(1000,o)] [(1000,o')] res=true) (hargs:(args.map λa=>(v5 (aX [(1000,id)]) a).v)=cargs) (h0:iL (aX [(1000,id)]) o=o0) (h1:iL (aX [(1000,id)]) o'=o1) (hr:(EB (aX [(1000,id)]) res).v=r):MP E f cargs id o0 o1 r:=by
 subst h0 h1 hr;refine⟨fun{S tm ob K} hget hk=>UK hc [(1000,id)] hck hargs (λi x hx=>?_) ?_⟩
 ·rw[List.mem_singleton]at hx;injection hx with e1 e2
  subst e1 e2;exact hget
 ·have e:pj [(1000,id)] [(1000,o')] [1000]=[]:=rfl;rw[e];have e2:m7 []=_root_.id:=rfl;rw[e2,List.map_id];exact hk
section
variable {E:a6} {S:bj} {Z:Nat->Prop} {ρ:Nat->Value} {P:ASt} {tm:List AV} {ob:List (Nat×AO)} {a:Act} {w:World} {o:Oper} {c:Nat} {o0 o1:AO} {r:AV}
end
section
variable {E:a6} {S:bj} {ops:List Oper} {D:List (List Nat)} {R:List (AV×Option AO)} {n0:Nat} {st0:ASt}
end
section
variable {E:a6} {S:bj} {ops:Array Oper} {n0:Nat} {st0:ASt} {R:List (AV×Option AO)} {K:ASt->Prop} {Q:Exit->Act->World->Prop}
end
end
end
section
open Go.Proofs.Tryz
open Go.ChangeShapes Go.WideShapes Go.RowKit
def jS:List (List Nat):=a8 [0,0,66,12417,1052803,84680772,6509830341,486455906566,35601001230663,0x91c50c2044188,0x2881840420c51c9,0x2881840420c51c9,0xc24714308110620a,0xb24714308110620a34c,0x38c34a20610108314724b,0xf2c91c50c204418828d30e,0x2881840420c51c9,0x2881840420c51c9,0x4491c50c2044188292,0x1348a206101083147251,0x51124714308110620a493,0x1038c34a20610108314724b3d54d2454,0x2881840420c51c95944524d53cb34c390,0x71430811065d038c34b3d54d245458920a]
def jU:List (List Nat):=dN 21 [6,2,4,13,40,121,364,1093,3280,9841,10418753182,10417454104,10417631251,10418103643,10419697966,10424480935,301297522,129110638,215204080,602624569,1764886036]
def qr:List (List Nat):=a8 [0,0,66,12417,1052803,84680772,6509830341,486455906566,486455906566,0x81840420c51c9,0x2891c50c2044188,0xb20610108314724a,486455906566,486455906566,0xd1840420c51ce,0x3ce1c50c204418d,0x1034610108314738f,0xc2891c50c20441882d13ce350,0x1c50c204419240d38f44b20928c]
def qF:List (List Nat):=dN 17 [6,2,4,13,40,121,364,128622937,128614189,128618563,128638246,128697295,3718993,1593229,2656111,7439080,21787987]
section
variable {α:Type} {P:α->Bool} {Q R:α->α->Bool} {l:List α}
theorem Bw{k:Nat}(hlt:k<l.length)(hd:∀(i j:Nat) (hi:i<j) (hj:j<k) (hl:j<l.length),R (l[i]'(ac)) l[j]=false)(h:∀(i:Nat) (hi:i<k),R (l[i]'(ac)) l[k]=false):∀(i j:Nat) (hi:i<j) (hj:j<k+1) (hl:j<l.length),R (l[i]'(ac)) l[j]=false:=by
  intro i j hi hj hl;by_cases hjk:j=k
  · subst hjk;exact h i hi
  · exact hd i j hi ac hl
theorem CI{k:Nat}(hk:k=l.length)(hd:∀(i j:Nat) (hi:i<j) (hj:j<k) (hl:j<l.length),R (l[i]'(ac)) l[j]=false):d5 R l=true:=ll λi j hi hl=>hd i j hi ac hl
end
theorem IT{l:List DPair}{k:Nat}(hk:k<l.length)(h:bZ dV il l k hk=false):bo l=false:=by
  simp only[bo,nD hk h]
theorem Gu{l:List DPair}(hc:(l.all dV&&fI il l)=true):bo l=true:=by simp only[bo,hc]
theorem NN{l:List DPair}(h:bo l=true):l.length<=10:=by
  simp only[bo,Bool.and_eq_true]at h;obtain⟨h1,h2⟩:=h;have key:∀(j:Nat) (hj:j<l.length),(j:Int)<=l[j].key:=by
    intro j;induction j with
    |zero=>
      intro hj;have:=th h1 hj;simp only[dV,aI,Bool.and_eq_true,decide_eq_true_eq]at this;omega
    |succ j ih=>
      intro hj;have:=iq h2 hj;simp only[il,decide_eq_true_eq]at this;have:=ih ac;omega
  rcases Nat.lt_or_ge 10 l.length with hl|hl
  · have h5:=key 10 hl;have:=th h1 hl;simp only[dV,aI,Bool.and_eq_true,decide_eq_true_eq]at this;omega
  · exact hl
theorem Gt{l:List DPair}(h:¬l.length<=10):bo l=false:=by
  cases hp:bo l with
  |false=>rfl
  |true=>exact absurd (NN hp) h
theorem dX(l:List DPair):aM av 207 [.one (.sl (l.map DPair.ds))] (rB (bo l)):=by
  refine pO func207 call207 ntmps207 results207 λS=>?_;conv=>whnf
  repeat'(first|refine awz ?_|refine tB ?_ ?_|(intro h;conv=>whnf))
  · rw[Gt ari]
  · have h1:l.length<=10:=ari;clear h;refine TE (λk:Nat=>k<=l.length/\∀(j:Nat) (hj:j<k) (hl:j<l.length),bZ dV il l j hl=true) (2::3::rg 7 30) (λk=>[(3,vI .i64 (k:Int))]) (λ_=>[]) (λk=>l.length-k) 0 ⟨ac,ac⟩ ?_ Tx (λk hR=>?_)<;>(conv=>whnf)
    · exact whd
    · obtain⟨hk,hall⟩:=hR;repeat'((first|refine awz ?_|refine TB aL 6 21 jS jU ae ae ae rfl ?_|refine TO ari (λhlt=>?_)|refine T8 ari ari (λhpv=>?_)|refine Tz (n:=_-_) ari ari ?_|refine Tz ari ari ?_|refine cP (sS _) ?_|refine tB ?_ ?_|intro h)<;>conv=>whnf)
      all_goals first
        |(rw[IT hlt (by first|(refine dG _ ?_;simp_all;done)|(refine dG _ ?_;simp_all[dV];done)|(rw[bU _ ari];simp_all[il];done)|(rw[ch _ ari];simp_all;done)|(rw[bU _ ari];simp_all[dV,il];done)|(rw[ch _ ari];simp_all[dV];done)|(exfalso;assumption))];done)
        | (refine aW.mk ⟨k + 1, ⟨ari, kp hall ari (by first | (refine dG _ ?_; simp_all; done) | (refine dG _ ?_; simp_all [dV]; done) | (rw [bU _ ari]; simp_all [il]; done) | (rw [ch _ ari]; simp_all; done) | (rw [bU _ ari]; simp_all [dV, il]; done) | (rw [ch _ ari]; simp_all [dV]; done) | (exfalso; assumption))⟩, ari, ?_, Tx⟩
           exact hds)
        |(rw[Gu (nI hall ari)])
theorem IB{l:List DJob}(h:¬l.length<=8):bu l=false:=by simp[bu,h]
theorem Em{l:List DJob}{k:Nat}(hk:k<l.length)(h:bZ jV nQ l k hk=false):bu l=false:=by
  rcases Bool.and_eq_false_iff.1 (nD hk h)with h|h<;>simp only[bu,h,Bool.and_false,Bool.false_and]
theorem IA{l:List DJob}{j k:Nat}(hj:j<k)(hk:k<l.length)(h:pV (l[j]'(ac)) l[k]=true):bu l=false:=by
  have:=rv (R:=pV) hj hk h;simp only[bu,this,Bool.and_false]
theorem IC{l:List DJob}(h:l.length<=8)(hc:(l.all jV&&fI nQ l)=true)(hd:d5 pV l=true):bu l=true:=by
  rw[Bool.and_eq_true]at hc;simp only[bu,h,hc.1,hc.2,hd,decide_true,Bool.and_self]
theorem Nu{x y:DJob}(h:¬x.fired=y.fired\/y.fired=0):pV x y=false:=by
  simp only[pV,Bool.and_eq_false_iff];rcases h with h|h
  · exact .inr (by simpa using h)
  · exact .inl (by simp[h])
theorem dH(l:List DJob):aM av 208 [.one (.sl (l.map DJob.ds))] (rB (bu l)):=by
  refine pO func208 call208 ntmps208 results208 λS=>?_;conv=>whnf
  repeat'(first|refine awz ?_|refine tB ?_ ?_|(intro h;conv=>whnf))
  · rw[IB ari]
  · have h1:l.length<=8:=ari;clear h;refine TE (λk:Nat=>k<=l.length/\(∀(j:Nat) (hj:j<k) (hl:j<l.length),bZ jV nQ l j hl=true)/\∀(i j:Nat) (hi:i<j) (hj:j<k) (hl:j<l.length),pV (l[i]'(ac)) l[j]=false) (2::3::4::rg 8 54) (λk=>[(3,vI .i64 (k:Int))]) (λk=>[]) (λk=>l.length-k) 0 ⟨ac,ac,ac⟩ ?_ Tx (λk hR=>?_)<;>(conv=>whnf)
    · exact whd
    · obtain⟨hk,hall,hdup⟩:=hR;repeat'((first|refine awz ?_|refine TB aL 6 21 jS jU ae ae ae rfl ?_|refine TO ari (λhlt=>?_)|refine T8 ari ari (λhpv=>?_)|refine Tz (n:=_-_) ari ari ?_|refine cP (wg _) ?_|refine tB ?_ ?_|intro h)<;>conv=>whnf)
      all_goals first
        |(rw[Em hlt (by first|(refine dG _ ?_;simp_all;done)|(rw[bU _ ari];simp_all[nQ];done)|(rw[ch _ ari];simp_all;done)|(exfalso;assumption))];done)
        |(rw[IC h1 (nI hall ari) (CI ari hdup)];done)
        |skip
      all_goals
        have hkl:k<l.length:=ari;have hch:bZ jV nQ l k hkl=true:=(by first|(refine dG _ ?_;simp_all;done)|(rw[bU _ ari];simp_all[nQ];done)|(rw[ch _ ari];simp_all;done)|(exfalso;assumption));have hfk:0<=l[k].fired:=by
          have:=Kl hch;simp only[jV,aI,Bool.and_eq_true,decide_eq_true_eq]at this;omega
        refine TE (λq:Nat=>q<=k/\∀(i:Nat) (hi:i<q) (hik:i<k),pV (l[i]'(ac)) l[k]=false) (2::4::rg 38 24) (λq=>[(4,vI .i64 (q:Int))]) (λ_=>[]) (λq=>k-q) 0 ⟨ac,ac⟩ ?_ Tx (λq hQ=>?_)<;>(conv=>whnf)
        · exact whd
        · obtain⟨hq,hno⟩:=hQ;repeat'((first|refine awz ?_|refine TB aL 11 17 qr qF ae ae ae rfl ?_|refine TO (k:=q) ari (λhqt=>?_)|refine TO (k:=k) ari (λhlt=>?_)|refine Tz ari ari ?_|refine tB ?_ ?_|intro h)<;>conv=>whnf)
          all_goals first
            |(rw[IA (j:=q) (k:=k) ari ari (by simp_all[pV];omega)];done)
            | (have hjq : ∀ hqk : q < k, pV (l[q]'(ac)) l[k] = false := fun hqk => Nu (by first | exact .inl (by simpa using h) | (refine .inr ?_; simp only [gt_iff_lt, decide_eq_false_iff_not] at h; omega))
               refine aW.mk ⟨q+1,⟨ari,λi hi hik=>?_⟩,ari,?_,Tx⟩
               · by_cases hiq:i=q
                 · subst hiq;exact hjq hik
                 · exact hno i ac hik
               · exact hds)
            | (refine aW.mk ⟨k + 1, ⟨ari, kp hall ari hch, Bw ari hdup fun i hi => hno i ari hi⟩, ari, ?_, Tx⟩
               exact hds)
end
open Go.Proofs.Tryz
open Go.ChangeShapes Go.WideShapes Go.RowKit
theorem Be(l:List Int)(h:bm l=true):aM av 188 [.one (.sl (l.map eI))] (.val (pI (jg l))):=by
 have hn:(!bm l)=false:=by rw[h];rfl
 obtain⟨hl,hx⟩:=fK h;refine pO func188 call188 ntmps188 results188 λS=>?_;conv=>whnf
 repeat'(first|refine awz ?_|(refine cP (bM l) ?_;conv=>whnf)|fail)
 refine TE (λk:Nat=>k<=l.length) (3::4::rg 8 15) (λk=>[(3,vI .i64 (jg (l.take k))),(4,vI .i64 (k:Int))]) (λk=>[]) (λk=>l.length-k) 0 ac ?_ Tx (λk hR=>?_)<;>(conv=>whnf)
 ·exact whd
 ·by_cases hlt:k<l.length
  ·have hr:=wC hx k hR;have hr2:=wC hx (k+1) hlt;have hxk:=hx _ (List.getElem_mem hlt);have hs:=MK hlt;have hc:decide ((k:Int)<((l.map eI).length:Int))=true:=al;unfold tA at hs;repeat'((first|refine awz ?_|refine TJ hlt ?_|refine And.intro ah ?_|refine Tz ac ac ?_|fail)<;>conv=>whnf)
   refine aW.mk ⟨k+1,hlt,ac,?_,Tx⟩;rw[hs];exact hds
  ·have e:k=l.length:=ac;subst e;have hc:decide ((l.length:Int)<((l.map eI).length:Int))=false:=ai;rw[List.take_length];repeat'(first|refine awz ?_|exact rr|fail)
theorem Mz(l:List Int)(hl:l.length<=1048576):cV av 50 [.one (.d (.sl (l.map eI)))] [] [(3,.row 2 1 (l.map eI))] [] (.val (.one (.own 3))):=by
 refine bL aL func50 rfl call50 ntmps50 (WA results50) rfl λS pv=>?_;conv=>whnf
 repeat'((first|refine awz ?_|refine aP (by first|(intro y hy;obtain⟨a,_,rfl⟩:=List.mem_map.1 hy;rfl)|(simp;done)) ?_|refine aQ an ?_|exact rr|fail)<;>conv=>whnf)
theorem cH(l:List Int)(hl:l.length<=1048576):aM av 50 [.one (.sl (l.map eI))] (.val (.one (.sl (l.map eI)))):=by
 refine pO func50 call50 ntmps50 results50 λS=>?_;conv=>whnf
 repeat'((first|refine awz ?_|refine aP (by first|(intro y hy;obtain⟨a,_,rfl⟩:=List.mem_map.1 hy;rfl)|(simp;done)) ?_|refine aQ an ?_|fail)<;>conv=>whnf)
 rfl
theorem l6(l:List Int)(h:bm l=true)(h48:l.length<48):aM av 195 [.one (.sl (l.map eI))] (.val (.one (.sl ((l++[jg l]).map eI)))):=by
 have hn:(!bm l)=false:=by rw[h];rfl
 have hc:decide ((48:Int)<=((l.map eI).length:Int))=false:=al;refine pO func195 call195 ntmps195 results195 λS=>?_;conv=>whnf
 repeat'((first|refine awz ?_|refine cP (bM l) ?_|refine cP (Be l h) ?_|refine TA (Mz l ac) [(3,903)] rfl rfl ?_|refine aQ an ?_|fail)<;>conv=>whnf)
 all_goals(simp;rfl)
def q7:List (List Nat):=a8 [0,1,0,3,0,324,6,7,8,33346,0x289207185103081,0xa2481c61440c204a28b]
def q8:List (List Nat):=a8 [0,1,0,3,0,324,6,7,0,9,0,714,12,13,14,968,16,62530,0x49140f38d30b289207185103081,0x124503ce34c2ca2481c61440c2052493]
def tD:List (List Nat):=a8 [0,1,0,0,4,323,6,20930,35671935824001,0x81c61440c2048209]
def jQ:List (List Nat):=a8 [0,1,0,3,0,5,389,138580611463,35671935565890]
def gt:List (List Nat):=dN 7 [2178,2179,2114,2123,80,161,404]
theorem oy(x:DDisk)(hs:DDisk.small 1048576 x):cV av 111 [.agg (x.ds.map .d)] [] [(23,.row 30 1 (x.kept.map cW)),(49,.row 209 2 (x.wait.map DWrite.ds))] [] (.val (.agg [.own 23,.own 49])):=by
 obtain⟨h1,h2,h3,h4⟩:=(show x.kept.length<=1048576/\(∀y∈x.kept,y.length<=1048576)/\x.wait.length<=1048576/\(∀y∈x.wait,DWrite.small 1048576 y)from hs);refine bL aL func111 rfl call111 ntmps111 (WA results111) rfl λS pv=>?_;conv=>whnf
 repeat'(first|refine awz ?_|fail)
 refine TZ 3 0 23 30 1 ah ?_;conv=>whnf
 repeat'(first|refine awz ?_|fail)
 refine TE (λk:Nat=>k<=x.kept.length) (4::rg 7 18) (λk=>[(4,vI .i64 (k:Int))]) (λk=>[(9999,.frame (cE []) pv),(1,.cells 39 (x.ds.map .d)),(2,.cells 39 [.nil,.nil]),(3,.cells 39 [.own 23,.nil]),(23,.row 30 1 ((x.kept.take k).map cW))]) (λk=>x.kept.length-k) 0 (Nat.zero_le _) ?_ sbW (λk hk=>?_)<;>(conv=>whnf)
 ·exact whd
 ·repeat'(first|refine awz ?_|refine tW ?_ ?_|(intro h;conv=>whnf))
  ·have hlt:k<x.kept.length:=ari;have hy:=h2 _ (List.getElem_mem hlt);(refine TD aL 5 (tkc [0,2,3,4,5,6] (.two 1 (onc [7,8,9] (.take 10 (.one 11 .done))) 7 (.two 1 (.one 8 (.one 9 (.take 10 (.one 11 .done)))) 8 (.one 1 (.one 9 (.take 10 (.one 11 .done))))))) [(1,9980)] q7 ae ae ae ae (λRz=>?_);(conv=>whnf);intro bp0 up0;(conv=>whnf))
   repeat'((first|refine awz ?_|refine TJ hlt ?_|refine cP (cH x.kept[k] hy) ?_|refine aQ an ?_|refine Tz ari ari ?_|refine tW ?_ ?_|fail)<;>conv=>whnf)
   all_goals
    refine aW.mk ⟨k+1,hlt,ac,?_,Tu rfl (Tu rfl (Tu rfl (Tu rfl (Tu (congrArg some (congrArg (AO.row 30 1) (gY cW hlt).symm)) Tx))))⟩;exact hds
  ·have e:k=x.kept.length:=ari;subst e;rw[List.take_length];refine TZ 3 1 49 209 2 ah ?_;conv=>whnf
   repeat'(first|refine awz ?_|fail)
   refine TE (λk:Nat=>k<=x.wait.length) (5::rg 25 26) (λk=>[(5,vI .i64 (k:Int))]) (λk=>[(9999,.frame (cE []) pv),(1,.cells 39 (x.ds.map .d)),(2,.cells 39 [.nil,.nil]),(3,.cells 39 [.own 23,.own 49]),(23,.row 30 1 (x.kept.map cW)),(49,.row 209 2 ((x.wait.take k).map DWrite.ds))]) (λk=>x.wait.length-k) 0 (Nat.zero_le _) ?_ sbW (λj hj=>?_)<;>(conv=>whnf)
   ·exact whd
   ·repeat'(first|refine awz ?_|refine tW ?_ ?_|(intro h;conv=>whnf))
    ·have hlt:j<x.wait.length:=ari;have hy:x.wait[j].row.length<=1048576:=h4 _ (List.getElem_mem hlt);(refine TD aL 9 (tkc [0,2,3,4,5,6,7,8,9,10,11,12,13] (.two 1 (onc [14,15,16,17] (.take 18 (.one 19 .done))) 14 (.two 1 (onc [15,16,17] (.take 18 (.one 19 .done))) 15 (.two 1 (.one 16 (.one 17 (.take 18 (.one 19 .done)))) 16 (.one 1 (.one 17 (.take 18 (.one 19 .done)))))))) [(1,9980)] q8 ae ae ae ae (λRz=>?_);(conv=>whnf);intro bp0 up0;(conv=>whnf))
     repeat'((first|refine awz ?_|refine TJ hlt ?_|refine cP (cH x.wait[j].row hy) ?_|refine aQ an ?_|refine Tz ari ari ?_|refine tW ?_ ?_|fail)<;>conv=>whnf)
     all_goals
      refine aW.mk ⟨j+1,hlt,ac,?_,Tu rfl (Tu rfl (Tu rfl (Tu rfl (Tu rfl (Tu (congrArg some (congrArg (AO.row 209 2) (gY DWrite.ds hlt).symm)) Tx)))))⟩;exact hds
    ·have e:j=x.wait.length:=ari;subst e;rw[List.take_length];repeat'(first|refine awz ?_|exact rr|fail)
theorem wq(d:DDisk)(a:Int)(r:List Int)(h:bN d=true)(hw:d.wait.length<60)(ha:aI a 0 ((d.kept.length:Int)-1)=true)(hr:bm r=true):aM av 196 [.agg d.ds,pI a,.one (.sl (r.map eI))] (.tup [.agg (jN d a r).ds,.one (dB true)]):=by
 have hs:=dd h;have h40:=(cz h).2.1;have h48:=dl hr;have n1:(!bN d)=false:=by rw[h];rfl
 have n2:(!aI a 0 ((d.kept.length:Int)-1))=false:=by rw[ha];rfl
 have n3:(!bm r)=false:=by rw[hr];rfl
 have n4:decide ((60:Int)<=((d.wait.map DWrite.ds).length:Int))=false:=al;refine pO func196 call196 ntmps196 results196 λS=>?_;conv=>whnf
 repeat'((first|refine awz ?_|refine cP (cG d) ?_|refine cP (dn d a h40) ?_|refine cP (bM r) ?_|refine TA (oy d hs) [(23,923),(49,949)] rfl rfl ?_|fail)<;>conv=>whnf)
 (refine TD aL 6 (tkc [0,2,3] (.two 1 (onc [4,5,6,7] (.take 8 (.one 9 .done))) 4 (.two 1 (onc [5,6,7] (.take 8 (.one 9 .done))) 5 (.two 1 (.one 6 (.one 7 (.take 8 (.one 9 .done)))) 6 (.one 1 (.one 7 (.take 8 (.one 9 .done)))))))) [] tD ae ae ae ae (λRz=>?_);(conv=>whnf))
 repeat'((first|refine awz ?_|refine cP (cH r ac) ?_|refine aQ an ?_|refine tW ?_ ?_|fail)<;>conv=>whnf)
 all_goals(simp[jN,DDisk.ds,DWrite.ds];done)
theorem MB(d:DDisk)(h:bN d=true):cV av 252 [.agg (d.ds.map .d),.one (.own 1001),.one (.d (dB true))] [(1001,.row 2 1 [])] [(1001,.row 2 1 [])] [] (.val (.agg [.d (.sl ((fD d).kept.map cW)),.nil])):=by
 have hs:=dd h;obtain⟨h1,h2,h3,h4,h5⟩:=cz h;refine bL aL func252 rfl call252 ntmps252 (WA results252) rfl λS pv=>?_;conv=>whnf
 repeat'(first|refine awz ?_|(refine TA (oy d hs) [(23,923),(49,949)] rfl rfl ?_;conv=>whnf)|fail)
 refine TE (λk:Nat=>k<=d.wait.length) (8::9::10::rg 15 51) (λk=>[(8,vI .i64 (k:Int))]) (λk=>[(9999,.frame (cE []) pv),(1001,.row 2 1 []),(3,.cells 39 (d.ds.map .d)),(6,.cells 39 [.nil,.nil]),(7,.cells 39 [.own 923,.nil]),(923,.row 30 1 ((rH d.kept (d.wait.take k)).map cW))]) (λk=>d.wait.length-k) 0 (Nat.zero_le _) ?_ sbW (λk hk=>?_)<;>(conv=>whnf)
 ·exact whd
 ·by_cases hlt:k<d.wait.length
  ·have hc:decide ((k:Int)<((d.wait.map DWrite.ds).length:Int))=true:=al;have hw:=(gn (h5 _ (List.getElem_mem hlt)));have hlen:=gd (d.wait.take k) d.kept;have hsx:=z5 (k:=d.kept) hlt;have h48:=dl hw.2;have hn:decide ((k:Int)<0)=false:=ai;repeat'(first|refine awz ?_|(refine TJ hlt ?_;conv=>whnf)|fail)
   (refine TB aL 10 7 jQ gt ae ae ae rfl ?_;conv=>whnf)
   repeat'((first|refine awz ?_|refine AIx.int hw.1.1 ac ?_|refine cP (cH d.wait[k].row ac) ?_|fail)<;>conv=>whnf)
   refine TJ ac ?_;conv=>whnf
   repeat'(first|refine awz ?_|(refine Tz ari ari ?_;conv=>whnf)|fail)
   refine aW.mk ⟨k+1,hlt,ac,?_,Tu rfl (Tu rfl (Tu rfl (Tu rfl (Tu rfl (Tu (by rw[hsx,List.map_set];rfl) Tx)))))⟩;exact hds
  ·have e:k=d.wait.length:=ac;subst e;have hc:decide ((d.wait.length:Int)<((d.wait.map DWrite.ds).length:Int))=false:=ai;rw[List.take_length];repeat'(first|refine awz ?_|exact rr|fail)
   all_goals(first|rfl|exact⟨rfl,whd⟩)
end Go.Proofs.YtlmoekpinpafeaaGreat
