/- K29 -/
import Derived.Test.YtpdmakdpnejnfaaGreatK07
import Derived.Test.YtpdmakdpnejnfaaGreatK21
import Derived.Test.YtpdmakdpnejnfaaGreatAvJ3
import Derived.Test.YtpdmakdpnejnfaaGreatK10
import Derived.Test.YtpdmakdpnejnfaaGreatK04
import Derived.Test.YtpdmakdpnejnfaaGreatK09
set_option maxHeartbeats 8000000
set_option linter.unusedVariables false
set_option linter.unusedSimpArgs false
set_option maxRecDepth 100000
open List (all_eq_true append_nil getElem?_map getElem_mem length_map length_nil mem_append mem_cons mem_map mem_of_getElem? mem_singleton not_mem_nil take_length)
open Nat (le_trans lt_of_lt_of_le mul_one zero_le)
open Option (map_eq_some_iff)
open Bool (and_eq_true)
namespace Go.Proofs.YtpdmakdpnejnfaaGreat
section
section
open Go.Proofs.Tryz
open Go.RowKit
structure tF (P:Nat->Prop) (w w':World):Prop where
 os:w'.os=w.os
 tape:w'.tape=w.tape
 output:w'.output=w.output
 size:w.heap.size<=w'.heap.size
 block:∀b,b<w.heap.size->¬P b->w'.heap[b]? =w.heap[b]?
theorem dK.a{P:Nat->Prop}{w w':World}(h:dK P w w'):tF P w w':=⟨h.os,h.tape,h.output,by rw[h.size];exact Nat.le_refl _,λb _ hb=>h.block b hb⟩
theorem tF.mono{P P':Nat->Prop}{w w':World}(h:tF P w w')(hp:∀b,P b->P' b):tF P' w w':=⟨h.os,h.tape,h.output,h.size,λb hl hb=>h.block b hl λhq=>hb (hp b hq)⟩
theorem dF.focusA{w:World}{P:Nat->Prop}{d1 d2 d3:List AD}{u1 u2 u3:List Value}(h:dF w P (d1++d2++d3) (u1++u2++u3))(e1:u1.length=d1.length)(e2:u2.length=d2.length)(hlt:∀b,P b->b<w.heap.size):
  ∃Q,(∀b,Q b->P b)/\dF w Q d2 u2/\∀w' d2',tF Q w w'->dF w' Q d2' u2->dF w' P (d1++d2'++d3) (u1++u2++u3):=by
 obtain⟨v12,v3,P12,P3,ev,dj,a12,a3,f12,f3⟩:=h.split;obtain⟨e12,e3⟩:=List.append_inj ev (by rw[f12.1];simp[e1,e2]);subst e12 e3;obtain⟨v1,v2,P1,P2,ev,dk,b1,b2,f1,f2⟩:=f12.split;obtain⟨e5,e6⟩:=List.append_inj ev (by rw[f1.1];exact e1);subst e5 e6;refine⟨P2,λb hb=>a12 b (b2 b hb),f2,λw' d2' ht hf=>?_⟩;exact dF.append (P1:=P12) (P2:=P3) (dF.append (P1:=P1) (P2:=P2) (f1.keep λb hb=>ht.block b (hlt b (a12 b (b1 b hb))) λhq=>dk b hb hq) hf dk b1 b2) (f3.keep λb hb=>ht.block b (hlt b (a3 b hb)) λhq=>dj b (b2 b hq) hb) dj a12 a3
def im(u:Nat->Value):Nat->List AD->List Value
 |_,[]=>[]
 |i,.pv v::r=>v::im u (i+1) r
 |i,_::r=>u i::im u (i+1) r
def zo(u:Nat->Value):Nat->List AD->List AD
 |_,[]=>[]
 |i,.pv v::r=> .pv v::zo u (i+1) r
 |i,_::r=> .pv (u i)::zo u (i+1) r
def MQ(u:Nat->Value)(i:Nat):AP1->AV
 | .one (.pv v)=> .one (.d (.pv v))
 | .one _=> .one (.d (.pv (u i)))
 | .agg ds=> .agg ((zo u i ds).map .d)
def uOf(us:List Value):Nat->Value:=λi=>us.getD i undef
def LB(p:AP1)(us:List Value)(v:Value):Prop:=
 match p with
 | .one _=>us=[v]
 | .agg _=>v= .agg us.toArray
theorem uN(u:Nat->Value):∀(ds:List AD) (i:Nat),(im u i ds).length=ds.length
 |[],_=>rfl
 | .pv _::r,i=>by simp[im,uN u r]
 | .sl _::r,i=>by simp[im,uN u r]
 | .x _::r,i=>by simp[im,uN u r]
theorem It{w:World}{u:Nat->Value}:∀{ds:List AD} {us:List Value} {i:Nat},us.length=ds.length->(∀(j:Nat) a x,ds[j]? =some a->us[j]? =some x->∃P,cf w P a x)->(∀(j:Nat) x,us[j]? =some x->u (i+j)=x)->im u i ds=us
 |[],[],_,_,_,_=>rfl
 |d::r,x::us,i,hl,hr,hu=>by
  have h0:u i=x:=hu 0 x rfl;have ih:=It (ds:=r) (us:=us) (i:=i+1) (by simpa using hl) (λj a y h1 h2=>hr (j+1) a y (by simpa using h1) (by simpa using h2)) λj y hy=>by rw[<-hu (j+1) y (by simpa using hy)];congr 1;omega
  obtain⟨P,ht⟩:=hr 0 d x rfl rfl;cases d with
  |pv v=>cases ht with|pv _ _=>simp only[im,ih]
  |sl xs=>simp only[im,ih,h0]
  |x R=>simp only[im,ih,h0]
 |[],_::_,_,hl,_,_=>by simp at hl
 |_::_,[],_,hl,_,_=>by simp at hl
theorem GC{Z:Nat->Prop}{w:World}(u:Nat->Value):∀{ds:List AD} {i:Nat} {us:List Value},us.length=ds.length->(∀(j:Nat) c x,(zo u i ds)[j]? =some c->us[j]? =some x->ca Z w c x)->us=im u i ds
 |[],_,[],_,_=>rfl
 |d::r,i,x::us,hl,hr=>by
  have ih:us=im u (i+1) r:=GC u (by simpa using hl) λj c y h1 h2=>hr (j+1) c y (by cases d<;>simpa[zo]using h1) (by simpa using h2);cases d with
  |pv v=>
   have:=hr 0 (.pv v) x rfl rfl;cases this with|pv _ _=>rw[im,<-ih]
  |sl xs=>
   have:=hr 0 (.pv (u i)) x rfl rfl;cases this with|pv _ _=>show _=u i::im u (i+1) r;rw[<-ih]
  |x R=>
   have:=hr 0 (.pv (u i)) x rfl rfl;cases this with|pv _ _=>show _=u i::im u (i+1) r;rw[<-ih]
 |[],_,_::_,hl,_=>by simp at hl
 |_::_,_,[],hl,_=>by simp at hl
theorem qj(u:Nat->Value):∀(ds:List AD) (i:Nat),(zo u i ds).length=ds.length
 |[],_=>rfl
 | .pv _::r,i=>by simp[zo,qj u r]
 | .sl _::r,i=>by simp[zo,qj u r]
 | .x _::r,i=>by simp[zo,qj u r]
theorem NQ{Z:Nat->Prop}{w:World}{ρ:Nat->Value}{u:Nat->Value}{i:Nat}{p:AP1}{v:Value}(h:cn Z w ρ (MQ u i p) v):LB p (im u i (fe p)) v:=by
 cases p with
 |one d=>
  cases d with
  |pv x=>cases h with|one _ _ h=>cases(show ca Z w (.pv x) v from h)with|pv _ _=>rfl
  |sl xs=>cases h with|one _ _ h=>cases(show ca Z w (.pv (u i)) v from h)with|pv _ _=>rfl
  |x R=>cases h with|one _ _ h=>cases(show ca Z w (.pv (u i)) v from h)with|pv _ _=>rfl
 |agg ds=>
  cases h with
  |agg _ us hl h=>
   have:us=im u i ds:=GC (Z:=Z) (w:=w) u (by simpa[qj]using hl) λj c x h1 h2=>h j (.d c) x (by rw[List.getElem?_map,h1];rfl) h2;show Value.agg us.toArray= .agg (im u i ds).toArray;rw[this]
theorem NP{Z:Nat->Prop}{w w':World}{P:Nat->Prop}{ρ:Nat->Value}{u:Nat->Value}{i:Nat}{p:AP1}{v:Value}(hf:dF w' P (fe p) (im u i (fe p)))(hv:LB p (im u i (fe p)) v):cn Z w ρ (MQ u i p) v:=by
 have one:∀(j:Nat) a x,(fe p)[j]? =some a->(im u i (fe p))[j]? =some x->x.oneCell'=true:=λj a x h1 h2=>(hf.get h1 h2).one;cases p with
 |one d=>
  have h1:v.oneCell'=true:=one 0 d v rfl (by rw[show im u i (fe (.one d))=[v]from hv];rfl);cases d with
  |pv x=>
   have e:[x]=[v]:=hv;injection e with e
   subst e;exact .one _ _ (show ca Z w (.pv x) x from .pv _ h1)
  |sl xs=>
   have e:[u i]=[v]:=hv;injection e with e
   subst e;exact .one _ _ (show ca Z w (.pv (u i)) (u i)from .pv _ h1)
  |x R=>
   have e:[u i]=[v]:=hv;injection e with e
   subst e;exact .one _ _ (show ca Z w (.pv (u i)) (u i)from .pv _ h1)
 |agg ds=>
  have hv:v= .agg (im u i ds).toArray:=hv;subst hv;refine .agg _ _ (by simp[uN,qj]) λj c x hc hx=>?_;rw[List.getElem?_map]at hc;obtain⟨d,hd,rfl⟩:=Option.map_eq_some_iff.1 hc;have hjl:j<ds.length:=by rw[<-qj u ds i];exact(List.getElem?_eq_some_iff.1 hd).1
  have h1:=one j ds[j] x (List.getElem?_eq_getElem hjl) hx;have same:∀(ds:List AD) (i j:Nat) d x,(zo u i ds)[j]? =some d->(im u i ds)[j]? =some x->d= .pv x:=by
   intro ds;induction ds with
   |nil=>intro i j d x h;simp[zo]at h
   |cons a r ih=>
    intro i j d x h1 h2;cases j with
    |zero=>cases a<;>(simp[zo]at h1;simp[im]at h2;subst h1 h2;rfl)
    |succ j=>exact ih (i+1) j d x (by cases a<;>simpa[zo]using h1) (by cases a<;>simpa[im]using h2)
  rw[same ds i j d x hd hx];exact .pv _ h1
def TP(P:Nat->Prop)(ds:List AD)(us:List Value):World->Prop:=λw=>dF w P ds us
def qy(P:Nat->Prop)(ds:List AD)(us:List Value):AO:= .many P (TP P ds us)
section
variable {T:World->Prop} {S:bR} {Z:Nat->Prop} {w w':World} {ρ:Nat->Value} {ob:List (Nat×AO)}
theorem WS.renewT(h:WS T S Z w ρ ob)(id:Nat){P:Nat->Prop}{Q:World->Prop}(hP:∀b,P b->b<w.heap.size/\¬Z b/\(S.w0.heap.size<=b\/S.O b)/\∀j o,bo ob j=some o->bZ (ρ j)≠some b)
  (hd:∀j P' Q',bo ob j=some (.many P' Q')->∀b,P b->P' b->False) (hq:∀w':World,(∀b,P b->w'.heap[b]? =w.heap[b]?)->Q w'):WS T S Z w (λi=>if i=id then undef else ρ i) (eD (qf id ob) id (.many P Q)):=by
 have old:∀j o,j≠id->bo (eD (qf id ob) id (.many P Q)) j=some o->∃o0,bo ob j=some o0/\o=ni id o0:=by
  intro j o hj ho;rw[ci,if_neg (λe=>hj e.symm),mc]at ho;obtain⟨o0,h0,h1⟩:=Option.map_eq_some_iff.1 ho;exact⟨o0,h0,h1.symm⟩
 have blk:∀j b,bZ (if j=id then undef else ρ j)=some b->j≠id/\bZ (ρ j)=some b:=by
  intro j b hb;by_cases hj:j=id
  ·rw[if_pos hj]at hb;cases hb
  ·rw[if_neg hj]at hb;exact⟨hj,hb⟩
 have omany:∀j P' Q',bo (eD (qf id ob) id (.many P Q)) j=some (.many P' Q')->(j=id/\P'=P/\Q'=Q)\/(j≠id/\bo ob j=some (.many P' Q')):=by
  intro j P' Q' ho;by_cases hj:j=id
  ·subst hj;rw[ci,if_pos rfl]at ho;injection ho with ho
   injection ho with e1 e2
   exact .inl ⟨rfl,e1.symm,e2.symm⟩
  ·obtain⟨o0,h0,e⟩:=old j _ hj ho;exact .inr ⟨hj,by rw[h0,rp e.symm]⟩
 refine⟨h.os,h.tape,h.output,h.size,h.old,h.zlt,λj o b ho hb=>?_,λi j oi oj b hi hj hij hbi hbj=>?_,λj o ho=>?_,⟨λj P' Q' ho=>?_,λi j P1 Q1 P2 Q2 hi hj hij b hb1 hb2=>?_⟩,h.g,h.z0,h.znew⟩
 ·obtain⟨hj,hb⟩:=blk j b hb;obtain⟨o0,h0,_⟩:=old j o hj ho;exact h.mine j o0 b h0 hb
 ·obtain⟨hi0,hbi⟩:=blk i b hbi;obtain⟨hj0,hbj⟩:=blk j b hbj;obtain⟨o0,h0,_⟩:=old i oi hi0 hi;obtain⟨o1,h1,_⟩:=old j oj hj0 hj;exact h.sep i j o0 o1 b h0 h1 hij hbi hbj
 ·by_cases hj:j=id
  ·subst hj;rw[ci,if_pos rfl]at ho;injection ho with ho
   subst ho;show(if j=j then undef else ρ j)=undef;rw[if_pos rfl]
  ·obtain⟨o0,h0,rfl⟩:=old j o hj ho;exact Dh hj (h.obj j o0 h0)
 ·have apart:∀b,(∀i o,bo ob i=some o->bZ (ρ i)≠some b)->∀i o,bo (eD (qf id ob) id (.many P Q)) i=some o->bZ (if i=id then undef else ρ i)≠some b:=by
   intro b hb i o hi hbi;obtain⟨hi0,hbi⟩:=blk i b hbi;obtain⟨o0,h0,_⟩:=old i o hi0 hi;exact hb i o0 h0 hbi
  rcases omany j P' Q' ho with⟨_,rfl,rfl⟩|⟨_,ho⟩
  ·exact⟨λb hb=>⟨(hP b hb).1,(hP b hb).2.1,(hP b hb).2.2.1,apart b (hP b hb).2.2.2⟩,hq⟩
  ·obtain⟨h1,h2⟩:=h.many.ok j P' Q' ho;exact⟨λb hb=>⟨(h1 b hb).1,(h1 b hb).2.1,(h1 b hb).2.2.1,apart b (h1 b hb).2.2.2⟩,h2⟩
 ·rcases omany i P1 Q1 hi with⟨e1,e2,e3⟩|⟨hi0,hi1⟩<;>rcases omany j P2 Q2 hj with⟨f1,f2,f3⟩|⟨hj0,hj1⟩
  ·exact hij (e1.trans f1.symm)
  ·exact hd j P2 Q2 hj1 b (e2▸hb1) hb2
  ·exact hd i P1 Q1 hi1 b (f2▸hb2) hb1
  ·exact h.many.sep i j P1 Q1 P2 Q2 hi1 hj1 hij b hb1 hb2
theorem WS.turn(h:WS T S Z w ρ ob){id:Nat}{P:Nat->Prop}{Q Q':World->Prop}(ho:bo ob id=some (.many P Q))(ht:tF P w w')(hq:∀w2:World,(∀b,P b->w2.heap[b]? =w'.heap[b]?)->Q' w2):WS T S Z w' ρ (eD ob id (.many P Q')):=by
 obtain⟨hP,_⟩:=h.many.ok id P Q ho;have hρ:ρ id=undef:=h.obj id _ ho;have hz:∀b,Z b->w'.heap[b]? =w.heap[b]? :=λb hb=>ht.block b (h.zlt b hb) λhp=>(hP b hp).2.1 hb;have hob:∀j o b,bo ob j=some o->bZ (ρ j)=some b->w'.heap[b]? =w.heap[b]? :=λj o b hj hb=>ht.block b (h.lt hj hb) λhp=>(hP b hp).2.2.2 j o hj hb;have old:∀j o1,bo (eD ob id (.many P Q')) j=some o1->∃o0,bo ob j=some o0/\(j≠id->o1=o0):=by
  intro j o1 h1;rw[ci]at h1;split at h1
  ·rename_i e;subst e;exact⟨_,ho,λh=>absurd rfl h⟩
  ·exact⟨o1,h1,λ_=>rfl⟩
 have omany:∀j P1 Q1,bo (eD ob id (.many P Q')) j=some (.many P1 Q1)->(j=id/\P1=P/\Q1=Q')\/(j≠id/\bo ob j=some (.many P1 Q1)):=by
  intro j P1 Q1 h1;by_cases hj:j=id
  ·subst hj;rw[ci,if_pos rfl]at h1;injection h1 with h1
   injection h1 with e1 e2
   exact .inl ⟨rfl,e1.symm,e2.symm⟩
  ·obtain⟨o0,h0,e⟩:=old j _ h1;exact .inr ⟨hj,by rw[h0,<-e hj]⟩
 refine⟨ht.os.trans h.os,ht.tape.trans h.tape,ht.output.trans h.output,le_trans h.size ht.size,λb hb hO=>?_,λb hb=>lt_of_lt_of_le (h.zlt b hb) ht.size,λj o b hj hb=>?_,λi j oi oj b hi hj hij hbi hbj=>?_,λj o hj=>?_,⟨λj P1 Q1 hj=>?_,λi j P1 Q1 P2 Q2 hi hj hij b hb1 hb2=>?_⟩,?_,h.z0,h.znew⟩
 ·refine(ht.block b (lt_of_lt_of_le hb h.size) λhp=>?_).trans (h.old b hb hO);rcases(hP b hp).2.2.1 with h3|h3
  ·omega
  ·exact hO h3
 ·obtain⟨o0,h0,_⟩:=old j o hj;exact h.mine j o0 b h0 hb
 ·obtain⟨o0,h0,_⟩:=old i oi hi;obtain⟨o1,h1,_⟩:=old j oj hj;exact h.sep i j o0 o1 b h0 h1 hij hbi hbj
 ·by_cases hjd:j=id
  ·subst hjd;rw[ci,if_pos rfl]at hj;injection hj with hj
   subst hj;exact hρ
  ·obtain⟨o0,h0,e⟩:=old j o hj;rw[e hjd];exact(h.obj j o0 h0).mono (λ_ h=>h) hz λb hb=>hob j o0 b h0 hb
 ·have apart:∀b,(∀i o,bo ob i=some o->bZ (ρ i)≠some b)->∀i o,bo (eD ob id (.many P Q')) i=some o->bZ (ρ i)≠some b:=by
   intro b hb i o hi hbi;obtain⟨o0,h0,_⟩:=old i o hi;exact hb i o0 h0 hbi
  rcases omany j P1 Q1 hj with⟨_,rfl,rfl⟩|⟨hjd,hj⟩
  ·exact⟨λb hb=>⟨lt_of_lt_of_le (hP b hb).1 ht.size,(hP b hb).2.1,(hP b hb).2.2.1,apart b (hP b hb).2.2.2⟩,hq⟩
  ·obtain⟨h1,h2⟩:=h.many.ok j P1 Q1 hj;refine⟨λb hb=>⟨lt_of_lt_of_le (h1 b hb).1 ht.size,(h1 b hb).2.1,(h1 b hb).2.2.1,apart b (h1 b hb).2.2.2⟩,λw2 hw=>h2 w2 λb hb=>(hw b hb).trans (ht.block b (h1 b hb).1 λhp=>h.many.sep j id P1 Q1 P Q hj ho hjd b hb hp)⟩
 ·rcases omany i P1 Q1 hi with⟨e1,e2,e3⟩|⟨hi0,hi1⟩<;>rcases omany j P2 Q2 hj with⟨f1,f2,f3⟩|⟨hj0,hj1⟩
  ·exact hij (e1.trans f1.symm)
  ·exact h.many.sep id j P Q P2 Q2 ho hj1 (λe=>hj0 e.symm) b (e2▸hb1) hb2
  ·exact h.many.sep i id P1 Q1 P Q hi1 ho hi0 b hb1 (f2▸hb2)
  ·exact h.many.sep i j P1 Q1 P2 Q2 hi1 hj1 hij b hb1 hb2
 ·obtain⟨w1,g1,g2,g3⟩:=h.g;exact⟨w1,g1,⟨ht.os.trans g2.os,ht.tape.trans g2.tape,ht.output.trans g2.output,le_trans g2.size ht.size,λk hk=>(hz k (g3 k hk)).trans (g2.block k hk)⟩,g3⟩
end
section
variable {E:bz} {S:bR}
theorem aaK{T:World->Prop}{ob:List (Nat×AO)}{args:List AV}{ps:List AP1}(h:aRs ob args (· =ps)):wP T ob args ps:=by
 refine⟨λS Z ρ w us hs hl hr=>?_⟩;obtain⟨ps',h1,h2,rfl⟩:=gE (E:=⟨default,.leaf,T⟩) (st:=⟨[],ob⟩) hs hl hr h;exact⟨gU Z ρ ob,λb hb=> .inl hb,gU.lt hs,h1,h2⟩
theorem fw.up{Z Z':Nat->Prop}{w:World}(hz:∀b,Z b->Z' b){p:AP1}{v:Value}(h:fw Z w p v):fw Z' w p v:=by
 cases p with
 |one d=>exact ca.mono hz (λ_ _=>rfl) h
 |agg ds=>obtain⟨us,e,hl,hr⟩:=h;exact⟨us,e,hl,λi d u h5 h6=>(hr i d u h5 h6).mono hz λ_ _=>rfl⟩
theorem RN{P:Nat->Prop}{w:World}{p:AP1}{us:List Value}{v:Value}(h:dF w P (fe p) us)(hv:LB p us v):fw P w p v:=by
 cases p with
 |one d=>have hv:us=[v]:=hv;subst hv;exact(h.relD λ_ h=>h).2 0 d v rfl rfl
 |agg ds=>exact⟨us,hv,(h.relD λ_ h=>h).1,(h.relD λ_ h=>h).2⟩
theorem Yq{T:World->Prop}{ob:List (Nat×AO)}{x:AV}{rest:List AV}{p0:AP1}{psr:List AP1}(id:Nat){P:Nat->Prop}{u:Nat->Value}(hx:x=MQ u 0 p0)(hob:aOb ob id λo=>o=qy P (fe p0) (im u 0 (fe p0)))(hrest:aRs ob rest (· =psr)):wP T ob (x::rest) (p0::psr):=by
 refine⟨λS Z ρ w us hs hl hr=>?_⟩;subst hx;obtain⟨o,ho,rfl⟩:=cm hob;obtain⟨hP,hQ⟩:=hs.many.ok id P _ ho;have hF:dF w P (fe p0) (im u 0 (fe p0)):=hQ w λ_ _=>rfl;cases us with
 |nil=>simp at hl
 |cons v us=>
  obtain⟨ps',h1,h2,rfl⟩:=gE (E:=⟨default,.leaf,T⟩) (st:=⟨[],ob⟩) hs (xs:=rest) (us:=us) (by simpa using hl) (λi y z h1 h2=>hr (i+1) y z (by simpa using h1) (by simpa using h2)) hrest;have hv:=NQ (hr 0 _ v rfl rfl);refine⟨λb=>gU Z ρ ob b\/P b,λb hb=> .inl (.inl hb),λb hb=>?_,by simp[h1],λi p y h3 h4=>?_⟩
  ·rcases hb with hb|hb
   ·exact gU.lt hs b hb
   ·exact(hP b hb).1
  ·cases i with
   |zero=>simp at h3 h4;subst h3 h4;exact(RN hF hv).up λb hb=> .inr hb
   |succ i=>exact(h2 i p y (by simpa using h3) (by simpa using h4)).up λb hb=> .inl hb
theorem YC{f:FuncId}{args:List AV}{st:ASt}{K:AV->ASt->Prop}{ps:List AP1}{res:AP}(hc:aL E f ps res)(hx:wP E.W st.ob args ps)(hsc:res.scalar=true)(hk:K res.v st):aG E S f args st K:=by
 refine⟨hc.enter,λZ ρ a w us hs hl hr=>?_⟩;obtain⟨Z2,z1,z2,h1,h2⟩:=hx.h S Z ρ w us hs.ws hl hr;refine(hc.run Z2 w us z2 ?_ h1 h2).mono ?_
 ·obtain⟨w1,g1,g2,g3⟩:=hs.ws.g;exact⟨w1,g1,g2,λb hb=>z1 b (g3 b hb)⟩
 ·rintro e w' ⟨v,Z',rfl,hb,hz,hz2,hv⟩;exact⟨v,res.v,st,Z,ρ,rfl,hs.grow (dO hb) (λ_ h=>h) (λ_ h=> .inl h),(hv.any hsc).v,hk⟩
theorem Zq{f:FuncId}{args:List AV}{st:ASt}{K:AV->ASt->Prop}{ps:List AP1}{res:AP1}(id:Nat)(hc:cg E f ps res)(hx:wP E.W st.ob args ps)(hk:∀(P:Nat->Prop) (u:Nat->Value),v8 st id (qy P (fe res) (im u 0 (fe res))) (K (MQ u 0 res))):aG E S f args st K:=by
 refine⟨hc.enter,λZ ρ a w us hs hl hr=>?_⟩;obtain⟨Z2,z1,z2,h1,h2⟩:=hx.h S Z ρ w us hs.ws hl hr;refine(hc.run Z2 w us z2 ?_ h1 h2).mono ?_
 ·obtain⟨w1,g1,g2,g3⟩:=hs.ws.g;exact⟨w1,g1,g2,λb hb=>z1 b (g3 b hb)⟩
 ·rintro e w' ⟨v,rfl,hb,hv⟩;obtain⟨us',hf,hvu⟩:∃us',dF w' (λb=>w.heap.size<=b/\b<w'.heap.size) (fe res) us'/\LB res us' v:=by
   cases res with
   |one d=>exact⟨[v],hv,rfl⟩
   |agg ds=>obtain⟨us',e,h⟩:=hv;exact⟨us',h,e⟩
  have hU:im (uOf us') 0 (fe res)=us':=It (w:=w') hf.1 (λj a x h1 h2=>⟨_,hf.get h1 h2⟩) λj x hj=>by simp[uOf,List.getD_eq_getElem?_getD,hj]
  have hg:=hs.grow (Z':=Z) (dO hb) (λ_ h=>h) (λ_ h=> .inl h);have hsz:=hs.ws.size;have hws:=hg.ws.renewT id (P:=λb=>w.heap.size<=b/\b<w'.heap.size) (Q:=TP (λb=>w.heap.size<=b/\b<w'.heap.size) (fe res) us') (λb hb=>⟨hb.2,λhz=>by have:=hs.ws.zlt b hz;omega,.inl aa,λj o ho hbj=>by have:=hs.ws.lt ho hbj;omega⟩)
   (λj P' Q' ho b hb hb'=>by have:=((hs.ws.many.ok j P' Q' ho).1 b hb').1;omega) λw2 hw=>hf.keep hw
  have h3:=gD (hk (λb=>w.heap.size<=b/\b<w'.heap.size) (uOf us'));rw[hU]at h3;refine⟨v,_,_,Z,_,rfl,⟨hws,by simp[fh,hg.len],λi x y hx hy=>?_,hg.df⟩,NP (w':=w') (by rw[hU];exact hf) (by rw[hU];exact hvu),h3⟩;simp only[fh,List.getElem?_map]at hx;obtain⟨x0,h0,rfl⟩:=Option.map_eq_some_iff.1 hx;exact kw (hg.tm i x0 y h0 hy)
structure dV (E:bz) (f:FuncId) (p:AP1) (k:Int) (p':AP1) (k':Int):Prop where
 enter:∀(us:Array Value) w,(callFunc f us).run E.P w= .ok (.enter f us) w
 run:∀(P Z:Nat->Prop) (w:World) (us:List Value) (v:Value),(∀b,Z b->b<w.heap.size)->GZ E.W Z w->(∀b,P b->b<w.heap.size/\¬Z b)->dF w P (fe p) us->LB p us v->
  Calls E.P f #[v,.int .i64 k] w λe w'=>e= .returned (.int .i64 k')/\tF P w w'/\dF w' P (fe p') us
theorem Yg{f:FuncId}{d d':AD}{k k':Int}(enter:∀(us:Array Value) w,(callFunc f us).run E.P w= .ok (.enter f us) w)
  (h:∀P w v,cf w P d v->Calls E.P f #[v,.int .i64 k] w (kI k' P w λw'=>cf w' P d' v)):dV E f (.one d) k (.one d') k':=by
 refine⟨enter,λP Z w us v hz hg hP hf hv=>?_⟩;have hv:us=[v]:=hv;subst hv;refine(h P w v (hf.get (i:=0) rfl rfl)).mono ?_;rintro e w' ⟨rfl,ht,hr⟩;exact⟨rfl,ht.a,.one hr⟩
theorem XN{f:FuncId}{x:AV}{tm:List AV}{ob:List (Nat×AO)}{K:AV->ASt->Prop}{p p':AP1}{k k':Int}(id:Nat)(j:Nat)(d1 d3:List AD)(u1 u3:List Value){P:Nat->Prop}{u:Nat->Value}{D:List AD}{U:List Value}(hc:dV E f p k p' k')(hx:x=MQ u j p)
  (hob:aOb ob id λo=>o=qy P D U) (hD:D=d1++fe p++d3) (hU:U=u1++im u j (fe p)++u3) (hl:u1.length=d1.length)
  (hk:fW id (qy P (d1++fe p'++d3) (u1++im u j (fe p)++u3)) ob λob=>K (vI .i64 k') ⟨tm,ob⟩):aG E S f [x,vI .i64 k] ⟨tm,ob⟩ K:=by
 refine⟨hc.enter,λZ ρ a w us hs hln hr=>?_⟩;subst hx hD hU;obtain⟨o,ho,rfl⟩:=cm hob;obtain⟨hP,hQ⟩:=hs.ws.many.ok id P _ ho;have hF:dF w P (d1++fe p++d3) (u1++im u j (fe p)++u3):=hQ w λ_ _=>rfl;obtain⟨Q,hQP,hfq,hcl⟩:=hF.focusA hl (uN _ _ _) λb hb=>(hP b hb).1;match us,hln with
 |[v,y],_=>
  have hv:=NQ (hr 0 _ v rfl rfl);have hy:y= .int .i64 k:=by
   have:=hr 1 _ y rfl rfl;cases this with|one _ _ h=>cases(show ca Z w (.pv (.int .i64 k)) y from h)with|pv _ _=>rfl
  subst hy;refine(hc.run Q Z w _ v hs.ws.zlt hs.ws.g (λb hb=>⟨(hP b (hQP b hb)).1,(hP b (hQP b hb)).2.1⟩) hfq hv).mono ?_;rintro e w' ⟨rfl,ht,hf'⟩;have hF':=hcl w' (fe p') ht hf';have hws:=hs.ws.turn (Q':=TP P (d1++fe p'++d3) (u1++im u j (fe p)++u3)) ho (ht.mono hQP) λw2 hw=>hF'.keep hw;refine⟨_,_,⟨tm,eD ob id (qy P (d1++fe p'++d3) (u1++im u j (fe p)++u3))⟩,Z,ρ,rfl,⟨hws,hs.len,λi z q hz hq=>(hs.tm i z q hz hq).mono (λ_ h=>h) λb hb=>ht.block b (hs.ws.zlt b hb) λhq=>(hP b (hQP b hq)).2.1 hb,hs.df⟩,.one (.d (.pv (.int .i64 k'))) _ (show ca Z w' (.pv (.int .i64 k')) (.int .i64 k')from .pv _ rfl),dh hk⟩
def V4(E:bz)(rs:List ResultVar)(k':Int)(P:Nat->Prop)(D:List AD)(U:List Value):Exit->ASt->Prop
 | .ret,st=>Hv E st rs (· = .val (pI k'))/\aOb st.ob 9001 λo=>o=qy P D U
 | .normal,st=>Hv E st rs (· = .val (pI k'))/\aOb st.ob 9001 λo=>o=qy P D U
 |_,_=>False
theorem il(he:E.Ok){f:FuncId}{fn:Func}{c:Code}{n:Nat}{rs:List ResultVar}{p p':AP1}{k k':Int}(hf:E.P.funcs[f]? =some fn)(hb:fn.body=some c)
  (enter:∀(us:Array Value) w,(callFunc f us).run E.P w= .ok (.enter f us) w) (hn:fn.ntmps=n+2) (hrs:fn.results.toList=rs)
  (h:∀(S:bR) (P:Nat->Prop) (u:Nat->Value),AWP E S c (V4 E rs k' P (fe p') (im u 0 (fe p))) ⟨MQ u 0 p::vI .i64 k::List.replicate n (.one .und),[(9001,qy P (fe p) (im u 0 (fe p)))]⟩):dV E f p k p' k':=by
 refine⟨enter,λP Z w us v hz hg hP hF hv=>?_⟩;subst hrs;have hU:im (uOf us) 0 (fe p)=us:=It (w:=w) hF.1 (λj a x h1 h2=>⟨_,hF.get h1 h2⟩) λj x hj=>by simp[uOf,List.getD_eq_getElem?_getD,hj]
 have hk:=h ⟨w,P,Z⟩ P (uOf us);have hw0:WS E.W ⟨w,P,Z⟩ Z w (λ_=>undef) [(9001,qy P (fe p) us)]:=by
  have only:∀i o,bo [(9001,qy P (fe p) us)] i=some o->i=9001/\o=qy P (fe p) us:=by
   intro i o ho;simp only[bo]at ho;split at ho
   ·rename_i e;injection ho with ho;exact⟨e.symm,ho.symm⟩
   ·cases ho
  refine⟨rfl,rfl,rfl,Nat.le_refl _,λ_ _ _=>rfl,hz,λid o b ho hb=>(by cases hb),λi j oi oj b hi hj hij hbi _=>(by cases hbi),λid o ho=>?_,⟨λid P' Q' ho=>?_,λi j P1 Q1 P2 Q2 hi hj hij=>?_⟩,hg,λb hb=>hb,λb hb=> .inl hb⟩
  ·obtain⟨rfl,rfl⟩:=only id o ho;rfl
  ·obtain⟨rfl,e⟩:=only id _ ho;injection e with e1 e2
   subst e1 e2;exact⟨λb hb=>⟨(hP b hb).1,(hP b hb).2,.inr hb,λj o _ hbj=>by cases hbj⟩,λw' hw=>hF.keep hw⟩
  ·exact absurd ((only i _ hi).1.trans (only j _ hj).1.symm) hij
 have hs:Sim E.W ⟨w,P,Z⟩ Z (λ_=>undef) ⟨MQ (uOf us) 0 p::vI .i64 k::List.replicate n (.one .und),[(9001,qy P (fe p) (im (uOf us) 0 (fe p)))]⟩ {tmps:= #[v,.int .i64 k]++Array.replicate (fn.ntmps- #[v,.int .i64 k].size) undef,defers:=[]} w:=by
  refine⟨by rw[hU];exact hw0,by simp[hn];omega,λi x y hx hy=>?_,rfl⟩;simp only at hx hy;have hy':(v:: .int .i64 k::List.replicate n undef)[i]? =some y:=by
   rw[<-Array.getElem?_toList]at hy;simpa[hn]using hy
  match i,hx,hy' with
  |0,hx,hy'=>
   simp at hx hy';subst hx hy';exact NP (w':=w) (by rw[hU];exact hF) (by rw[hU];exact hv)
  |1,hx,hy'=>
   simp at hx hy';subst hx hy';exact .one _ _ (show ca Z w (.pv (.int .i64 k)) (.int .i64 k)from .pv _ rfl)
  |i+2,hx,hy'=>
   have e1:=List.eq_of_mem_replicate (List.mem_of_getElem? (by simpa using hx));have e2:=List.eq_of_mem_replicate (List.mem_of_getElem? (by simpa using hy'));subst e1 e2;exact .one _ _ (show dN Z w (λ_=>undef) .und undef from rfl)
 refine calls_of_wp hf hb (wp_mono (hk.run _ w ⟨Z,_,hs⟩) λe a' w' h'=>?_);obtain⟨st',⟨Z',ρ',hs'⟩,hk'⟩:=h';have fin:(Hv E st' fn.results.toList (· = .val (pI k'))/\aOb st'.ob 9001 λo=>o=qy P (fe p') (im (uOf us) 0 (fe p)))->a'.defers=[]/\∃v,(results fn a'.tmps).run E.P w'= .ok v w'/\Ending.returned v= .returned (.int .i64 k')/\tF P w w'/\dF w' P (fe p') us:=by
  rintro⟨hr,ho⟩;obtain⟨v,q,h1,h2,h3⟩:=Cl he hs' hr;subst h3;obtain⟨o,ho,rfl⟩:=cm ho;rw[hU]at ho;cases(show ca _ _ (.pv (.int .i64 k')) v from h2)with
  |pv _ _=>exact⟨hs'.df,_,h1,rfl,⟨hs'.ws.os,hs'.ws.tape,hs'.ws.output,hs'.ws.size,λb hb hp=>hs'.ws.old b hb hp⟩,(hs'.ws.many.ok 9001 P _ ho).2 w' λ_ _=>rfl⟩
 cases e with
 |normal=>exact fin hk'
 |ret=>exact fin hk'
 |_=>exact hk'.elim
end
end
section
open Go.Proofs.Tryz
open Go.RowKit
structure Ue (E:bz) (f:FuncId) (e:TypeId) (s:Nat) (xs xs':List (List AD)) (ps:List AP1):Prop where
 enter:∀(us:Array Value) w,(callFunc f us).run E.P w= .ok (.enter f us) w
 run:∀(Z:Nat->Prop) (w:World) (v:Value) (us:List Value),(∀b,Z b->b<w.heap.size)->GZ E.W Z w->cX Z w (λ_=>v) 0 (.row e s xs)->(∀b,bZ v=some b->¬Z b)->us.length=ps.length->(∀(i:Nat) p u,ps[i]? =some p->us[i]? =some u->fw Z w p u)->
  Calls E.P f (v::us).toArray w λen w'=>en= .returned (.tuple #[])/\tF (λb=>bZ v=some b) w w'/\cX Z w' (λ_=>v) 0 (.row e s xs')
theorem WS.turnRow{T:World->Prop}{S:bR}{Z:Nat->Prop}{w w':World}{ρ:Nat->Value}{ob:List (Nat×AO)}(h:WS T S Z w ρ ob){id s:Nat}{e:TypeId}{xs xs':List (List AD)}(ho:bo ob id=some (.row e s xs))(ht:tF (λb=>bZ (ρ id)=some b) w w')
  (hr:cX Z w' (λ_=>ρ id) 0 (.row e s xs')):WS T S Z w' ρ (eD ob id (.row e s xs')):=by
 have hz:∀b,Z b->w'.heap[b]? =w.heap[b]? :=λb hb=>ht.block b (h.zlt b hb) λhp=>(h.mine id _ b ho hp).1 hb;have far:∀j o b,j≠id->bo ob j=some o->bZ (ρ j)=some b->w'.heap[b]? =w.heap[b]? :=λj o b hj hjo hb=>ht.block b (h.lt hjo hb) λhp=>h.sep j id o _ b hjo ho hj hb hp;have old:∀j o1,bo (eD ob id (.row e s xs')) j=some o1->∃o0,bo ob j=some o0/\(j≠id->o1=o0):=by
  intro j o1 h1;rw[ci]at h1;split at h1
  ·rename_i e;subst e;exact⟨_,ho,λh=>absurd rfl h⟩
  ·exact⟨o1,h1,λ_=>rfl⟩
 refine⟨ht.os.trans h.os,ht.tape.trans h.tape,ht.output.trans h.output,le_trans h.size ht.size,λb hb hO=>?_,λb hb=>lt_of_lt_of_le (h.zlt b hb) ht.size,λj o b hj hb=>?_,λi j oi oj b hi hj hij hbi hbj=>?_,λj o hj=>?_,⟨λj P Q hj=>?_,λi j P Q P' Q' hi hj hij=>?_⟩,?_,h.z0,h.znew⟩
 ·refine(ht.block b (lt_of_lt_of_le hb h.size) λhp=>?_).trans (h.old b hb hO);rcases(h.mine id _ b ho hp).2 with h3|h3
  ·omega
  ·exact hO h3
 ·obtain⟨o0,h0,_⟩:=old j o hj;exact h.mine j o0 b h0 hb
 ·obtain⟨o0,h0,_⟩:=old i oi hi;obtain⟨o1,h1,_⟩:=old j oj hj;exact h.sep i j o0 o1 b h0 h1 hij hbi hbj
 ·by_cases hjd:j=id
  ·subst hjd;rw[ci,if_pos rfl]at hj;injection hj with hj
   subst hj;exact hr
  ·obtain⟨o0,h0,e⟩:=old j o hj;rw[e hjd];exact(h.obj j o0 h0).mono (λ_ h=>h) hz λb hb=>far j o0 b hjd h0 hb
 ·have hjd:j≠id:=by
   rintro rfl;rw[ci,if_pos rfl]at hj;cases hj
  obtain⟨o0,h0,e⟩:=old j _ hj;have:=e hjd;subst this;obtain⟨h1,h2⟩:=h.many.ok j P Q h0;refine⟨λb hb=>⟨lt_of_lt_of_le (h1 b hb).1 ht.size,(h1 b hb).2.1,(h1 b hb).2.2.1,λi o hi hbi=>?_⟩,λw2 hw=>h2 w2 λb hb=>(hw b hb).trans (ht.block b (h1 b hb).1 λhp=>(h1 b hb).2.2.2 id _ ho hp)⟩;obtain⟨o1,h3,_⟩:=old i o hi;exact(h1 b hb).2.2.2 i o1 h3 hbi
 ·have hid:∀k P Q,bo (eD ob id (.row e s xs')) k=some (.many P Q)->bo ob k=some (.many P Q):=by
   intro k P Q hk;rw[ci]at hk;split at hk
   ·cases hk
   ·exact hk
  exact h.many.sep i j P Q P' Q' (hid i P Q hi) (hid j P' Q' hj) hij
 ·obtain⟨w1,g1,g2,g3⟩:=h.g;exact⟨w1,g1,⟨ht.os.trans g2.os,ht.tape.trans g2.tape,ht.output.trans g2.output,le_trans g2.size ht.size,λk hk=>(hz k (g3 k hk)).trans (g2.block k hk)⟩,g3⟩
section
variable {E:bz} {S:bR}
theorem aG.row{f:FuncId}{rest:List AV}{tm:List AV}{ob:List (Nat×AO)}{K:AV->ASt->Prop}{id s:Nat}{e:TypeId}{xs xs':List (List AD)}{ps:List AP1}(hc:Ue E f e s xs xs' ps)(hob:aOb ob id λo=>o= .row e s xs)(hps:aPs rest (· =ps))
  (hk:fW id (.row e s xs') ob λob=>K (.tup []) ⟨tm,ob⟩):aG E S f (.one (.own id)::rest) ⟨tm,ob⟩ K:=by
 refine⟨hc.enter,λZ ρ a w us hs hl hr=>?_⟩;obtain⟨o,ho,rfl⟩:=cm hob;cases us with
 |nil=>simp at hl
 |cons v us=>
  have hv:v=ρ id:=by
   have:=hr 0 _ v rfl rfl;cases this with|one _ _ h=>exact h.1
  subst hv;have hws0:WS E.W S Z w ρ []:=hs.ws.sub Xv;obtain⟨ps',h1,h2,rfl⟩:=gE (st:=⟨[],[]⟩) hws0 (xs:=rest) (us:=us) (by simpa using hl) (λi y z h1 h2=>hr (i+1) y z (by simpa using h1) (by simpa using h2)) (Ht hps);have hz0:∀b,gU Z ρ [] b->Z b:=by rintro b (hb|⟨id,o,ho,_⟩);exact hb;cases ho
  refine(hc.run Z w (ρ id) us hs.ws.zlt hs.ws.g (hs.ws.obj id _ ho) (λb hb=>(hs.ws.mine id _ b ho hb).1) h1 λi p u h3 h4=>(h2 i p u h3 h4).up hz0).mono ?_;rintro en w' ⟨rfl,ht,hr'⟩;have hz:∀b,Z b->w'.heap[b]? =w.heap[b]? :=λb hb=>ht.block b (hs.ws.zlt b hb) λhp=>(hs.ws.mine id _ b ho hp).1 hb;refine⟨_,.tup [],⟨tm,eD ob id (.row e s xs')⟩,Z,ρ,rfl,⟨hs.ws.turnRow ho ht hr',hs.len,λi z q hz' hq=>(hs.tm i z q hz' hq).mono (λ_ h=>h) hz,hs.df⟩,.tup [] [] rfl ah,dh hk⟩
end
end
section
open Go.Proofs.Tryz
open Go.ChangeShapes Go.WideShapes Go.RowKit
theorem mm(l:(List Int))(P:Nat->Prop)(w:World)(k:Int)(v:Value)(h:cf w P (.sl (l.map eI)) v)(h0:0<=k)(hk:k+aQ cI l<=1000000000000):
  Calls Tryz.prog 42 #[v,.int .i64 k] w (kI (k+aQ cI l) P w λw'=>cf w' P (.sl ((mkL mI cI k l).map eI)) v):=by
 obtain⟨A,cap,rfl,hcl,hcm⟩:=h.form;rw[length_map]at hcl h⊢;unfold maxLen at hcm;have hcn:=bG (cnt:=cI) hH l;go_enter Tryz.func42,Tryz.ntmps42
 go_wp2
 go_loopw [1,5] (λc i wr=>∃(j:Nat) (q:Int),j<=l.length/\i= .int .i64 j/\c= .int .i64 q/\Hid (q=k+aQ cI (l.take j))/\cf wr P (.sl ((mkP mI cI k j l).map eI)) (.slice A l.length cap)/\dK P w wr) (λ_ i _=>l.length-(intOf i).toNat)
 case atStart=>exact⟨0,k,zero_le _,rfl,rfl,by simp[Hid,aQ],by rw[gR];exact h,dK.refl _ _⟩
 case round=>
  obtain⟨j,q,hj,rfl,rfl,hq,hres,ht⟩:=hrel;by_cases hlt:j<l.length
  ·have hc1:=hcn (j+1);rw[bj hlt]at hc1;have hc0:0<=aQ cI (l.take j):=aO hH _;have hn:=hH l[j];have hq1:0<=q:=by have:=hq.out;omega
   have hq2:q+cI l[j]<=1000000000000:=by have:=hq.out;omega
   have hq3:q+1<=1000000000000:=hq2;clear hc1 hc0 hcn hn;obtain⟨b,off,cap1,us,Q,e1,hPb,hQP,hel,hclose⟩:=hres.lens (kY eI k hlt);have e2:A=some ⟨b,off,none⟩:=by injection e1
   subst e2;clear e1;have hone:off+j*(eI l[j]).length=off+j:=by show off+j*1=_;rw[mul_one]
   rw[hone]at hel hclose;obtain⟨u0,us0,e0,hl0⟩:=bJ (n:=0) hel.len;subst e0;obtain rfl:=i7 hl0;clear hl0;have hel:El wr b (off+j) 1 Q wr (eI l[j]) [u0]:=hel;have c0:wr.cell? ⟨b,off+j,none⟩=some (u0):=hel.cell 0 _ rfl;have f0:=hel.frozen (off+j);have HC:=Lib.hid hclose;clear hclose hres h;have hfin:=HC.out _ _ _ (hel.set (c:=0) ae (.int .i64 (q)) rfl);have htt:=ht.trans (((hel.set (c:=0) ae (.int .i64 (q)) rfl)).turn.mono (P':=P) (by rintro g (rfl|hg);exact hPb;exact hQP _ hg));have e1:=hq.out;have hq':Hid (q+1=k+aQ cI (l.take (j+1))):=by
    unfold Hid;rw[bj hlt,e1];first|(unfold cI;omega)|omega
   have hm:cf _ P (.sl (((mkP mI cI k j l).map eI).set j (eI (mI q l[j])))) _:=hfin;rw[e1,gQ eI k hlt]at hm;try rw[<-e1]at hm
   clear HC hq hfin e1;have HM:=Lib.hid hm;have HT:=Lib.hid htt;clear hm htt ht hel;go_wp2
   exact⟨⟨j+1,_,aa,by go_num,rfl,hq',HM.out,HT.out⟩,by simp[intOf];omega⟩
  ·have e:j=l.length:=aa;subst e;have H:kI (k+aQ cI l) P w (λw'=>cf w' P (.sl ((mkL mI cI k l).map eI)) (.slice A l.length cap)) (.returned (.int .i64 q)) wr:=by
    rw[jc]at hres;have e1:=hq.out;rw[take_length]at e1;exact⟨by rw[e1],ht,hres⟩
   clear hres ht h hcn;go_wp2
   go_ret
   exact H
theorem EK(l:(List Int))(k:Int)(h0:0<=k)(hk:k+aQ cI l<=1000000000000):dV av 42 (.one (.sl (l.map eI))) k (.one (.sl ((mkL mI cI k l).map eI))) (k+aQ cI l):=Yg call42 λP w v h=>mm l P w k v h h0 hk
theorem Dk(l:(List (List Int)))(P:Nat->Prop)(w:World)(k:Int)(v:Value)(h:cf w P (.sl (l.map bD)) v)(h0:0<=k)(hk:k+aQ bm l<=1000000000000):
  Calls Tryz.prog 201 #[v,.int .i64 k] w (kI (k+aQ bm l) P w λw'=>cf w' P (.sl ((mkL gP bm k l).map bD)) v):=by
 obtain⟨A,cap,rfl,hcl,hcm⟩:=h.form;rw[length_map]at hcl h⊢;unfold maxLen at hcm;have hcn:=bG (cnt:=bm) fP l;go_enter Tryz.func201,Tryz.ntmps201
 go_wp2
 go_loopw [1,5] (λc i wr=>∃(j:Nat) (q:Int),j<=l.length/\i= .int .i64 j/\c= .int .i64 q/\Hid (q=k+aQ bm (l.take j))/\cf wr P (.sl ((mkP gP bm k j l).map bD)) (.slice A l.length cap)/\dK P w wr) (λ_ i _=>l.length-(intOf i).toNat)
 case atStart=>exact⟨0,k,zero_le _,rfl,rfl,by simp[Hid,aQ],by rw[gR];exact h,dK.refl _ _⟩
 case round=>
  obtain⟨j,q,hj,rfl,rfl,hq,hres,ht⟩:=hrel;by_cases hlt:j<l.length
  ·have hc1:=hcn (j+1);rw[bj hlt]at hc1;have hc0:0<=aQ bm (l.take j):=aO fP _;have hn:=fP l[j];have hq1:0<=q:=by have:=hq.out;omega
   have hq2:q+bm l[j]<=1000000000000:=by have:=hq.out;omega
   have hi0:=aO hH l[j];have hq3:q+aQ cI l[j]<=1000000000000:=by unfold bm at hq2;omega
   clear hc1 hc0 hcn hn;obtain⟨b,off,cap1,us,Q,e1,hPb,hQP,hel,hclose⟩:=hres.lens (kY bD k hlt);have e2:A=some ⟨b,off,none⟩:=by injection e1
   subst e2;clear e1;have hone:off+j*(bD l[j]).length=off+j:=by show off+j*1=_;rw[mul_one]
   rw[hone]at hel hclose;obtain⟨u0,us0,e0,hl0⟩:=bJ (n:=0) hel.len;subst e0;obtain rfl:=i7 hl0;clear hl0;have hel:El wr b (off+j) 1 Q wr (bD l[j]) [u0]:=hel;obtain⟨A0,cap0,rfl,_,_⟩:=cf.form (xs:=l[j].map eI) (hel.fam.get (i:=0) rfl rfl);rw[length_map]at hel;have c0:wr.cell? ⟨b,off+j,none⟩=some (.slice A0 l[j].length cap0):=hel.cell 0 _ rfl;have f0:=hel.frozen (off+j);have HC:=Lib.hid hclose;clear hclose hres h;have he0:=hel;obtain⟨Q0,hQ0,hr0,hcl0⟩:=he0.sub (c:=0) rfl rfl;have HL0:=Lib.hid hcl0;clear hcl0 hel;go_wp2_with fail
   refine(mm l[j] Q0 _ (q) _ hr0 aa aa).mono ?_;rintro e W0 ⟨rfl,t0,g0⟩;have hf0:=HL0.out W0 _ t0 g0;clear HL0 hr0;have hfin:=HC.out _ _ _ hf0;have htt:=ht.trans ((hf0).turn.mono (P':=P) (by rintro g (rfl|hg);exact hPb;exact hQP _ hg));have e1:=hq.out;have hq':Hid (q+aQ cI l[j]=k+aQ bm (l.take (j+1))):=by
    unfold Hid;rw[bj hlt,e1];first|(unfold bm;omega)|omega
   have hm:cf _ P (.sl (((mkP gP bm k j l).map bD).set j (bD (gP q l[j])))) _:=hfin;rw[e1,gQ bD k hlt]at hm;try rw[<-e1]at hm
   clear HC hq e1 hfin hf0 t0 g0 he0 c0 f0;have HM:=Lib.hid hm;have HT:=Lib.hid htt;clear hm htt ht;go_wp2_with fail
   exact⟨⟨j+1,_,aa,by go_num,rfl,hq',HM.out,HT.out⟩,by simp[intOf];omega⟩
  ·have e:j=l.length:=aa;subst e;have H:kI (k+aQ bm l) P w (λw'=>cf w' P (.sl ((mkL gP bm k l).map bD)) (.slice A l.length cap)) (.returned (.int .i64 q)) wr:=by
    rw[jc]at hres;have e1:=hq.out;rw[take_length]at e1;exact⟨by rw[e1],ht,hres⟩
   clear hres ht h hcn;go_wp2
   go_ret
   exact H
theorem Dl(l:(List (List Int)))(k:Int)(h0:0<=k)(hk:k+aQ bm l<=1000000000000):dV av 201 (.one (.sl (l.map bD))) k (.one (.sl ((mkL gP bm k l).map bD))) (k+aQ bm l):=Yg call201 λP w v h=>Dk l P w k v h h0 hk
theorem EL(l:(List DWrite))(P:Nat->Prop)(w:World)(k:Int)(v:Value)(h:cf w P (.sl (l.map DWrite.ds)) v)(h0:0<=k)(hk:k+aQ bu l<=1000000000000):
  Calls Tryz.prog 202 #[v,.int .i64 k] w (kI (k+aQ bu l) P w λw'=>cf w' P (.sl ((mkL ic bu k l).map DWrite.ds)) v):=by
 obtain⟨A,cap,rfl,hcl,hcm⟩:=h.form;rw[length_map]at hcl h⊢;unfold maxLen at hcm;have hcn:=bG (cnt:=bu) fO l;go_enter Tryz.func202,Tryz.ntmps202
 go_wp2
 go_loopw [1,5] (λc i wr=>∃(j:Nat) (q:Int),j<=l.length/\i= .int .i64 j/\c= .int .i64 q/\Hid (q=k+aQ bu (l.take j))/\cf wr P (.sl ((mkP ic bu k j l).map DWrite.ds)) (.slice A l.length cap)/\dK P w wr) (λ_ i _=>l.length-(intOf i).toNat)
 case atStart=>exact⟨0,k,zero_le _,rfl,rfl,by simp[Hid,aQ],by rw[gR];exact h,dK.refl _ _⟩
 case round=>
  obtain⟨j,q,hj,rfl,rfl,hq,hres,ht⟩:=hrel;by_cases hlt:j<l.length
  ·have hc1:=hcn (j+1);rw[bj hlt]at hc1;have hc0:0<=aQ bu (l.take j):=aO fO _;have hn:=fO l[j];have hq1:0<=q:=by have:=hq.out;omega
   have hq2:q+bu l[j]<=1000000000000:=by have:=hq.out;omega
   have hi0:=aO hH l[j].row;have hq3:q+1+aQ cI l[j].row<=1000000000000:=by unfold bu at hq2;omega
   clear hc1 hc0 hcn hn;obtain⟨b,off,cap1,us,Q,e1,hPb,hQP,hel,hclose⟩:=hres.lens (kY DWrite.ds k hlt);have e2:A=some ⟨b,off,none⟩:=by injection e1
   subst e2;clear e1;obtain⟨u0,us0,e0,hl0⟩:=bJ (n:=1) hel.len;subst e0;obtain⟨u1,us1,e0,hl1⟩:=bJ (n:=0) hl0;subst e0;obtain rfl:=i7 hl1;clear hl1;have hel:El wr b (off+j*2) 2 Q wr (DWrite.ds l[j]) [u0,u1]:=hel;obtain⟨A1,cap1,rfl,_,_⟩:=cf.form (xs:=l[j].row.map eI) (hel.fam.get (i:=1) rfl rfl);rw[length_map]at hel;have c0:wr.cell? ⟨b,off+j*2,none⟩=some (u0):=hel.cell 0 _ rfl;have f0:=hel.frozen (off+j*2);have c1:wr.cell? ⟨b,off+j*2+1,none⟩=some (.slice A1 l[j].row.length cap1):=hel.cell 1 _ rfl;have f1:=hel.frozen (off+j*2+1);have HC:=Lib.hid hclose;clear hclose hres h;have he1:=(hel.set (c:=0) ae (.int .i64 (q)) rfl);obtain⟨Q1,hQ1,hr1,hcl1⟩:=he1.sub (c:=1) rfl rfl;have HL1:=Lib.hid hcl1;clear hcl1 hel;go_wp2_with fail
   refine(mm l[j].row Q1 _ (q+1) _ hr1 aa aa).mono ?_;rintro e W1 ⟨rfl,t1,g1⟩;have hf1:=HL1.out W1 _ t1 g1;clear HL1 hr1;have hfin:=HC.out _ _ _ hf1;have htt:=ht.trans ((hf1).turn.mono (P':=P) (by rintro g (rfl|hg);exact hPb;exact hQP _ hg));have e1:=hq.out;have hq':Hid (q+1+aQ cI l[j].row=k+aQ bu (l.take (j+1))):=by
    unfold Hid;rw[bj hlt,e1];first|(unfold bu;omega)|omega
   have hm:cf _ P (.sl (((mkP ic bu k j l).map DWrite.ds).set j (DWrite.ds (ic q l[j])))) _:=hfin;rw[e1,gQ DWrite.ds k hlt]at hm;try rw[<-e1]at hm
   clear HC hq e1 hfin hf1 t1 g1 he1 c0 f0 c1 f1;have HM:=Lib.hid hm;have HT:=Lib.hid htt;clear hm htt ht;go_wp2_with fail
   exact⟨⟨j+1,_,aa,by go_num,rfl,hq',HM.out,HT.out⟩,by simp[intOf];omega⟩
  ·have e:j=l.length:=aa;subst e;have H:kI (k+aQ bu l) P w (λw'=>cf w' P (.sl ((mkL ic bu k l).map DWrite.ds)) (.slice A l.length cap)) (.returned (.int .i64 q)) wr:=by
    rw[jc]at hres;have e1:=hq.out;rw[take_length]at e1;exact⟨by rw[e1],ht,hres⟩
   clear hres ht h hcn;go_wp2
   go_ret
   exact H
theorem EM(l:(List DWrite))(k:Int)(h0:0<=k)(hk:k+aQ bu l<=1000000000000):dV av 202 (.one (.sl (l.map DWrite.ds))) k (.one (.sl ((mkL ic bu k l).map DWrite.ds))) (k+aQ bu l):=Yg call202 λP w v h=>EL l P w k v h h0 hk
theorem Kj(l:(List DMsg))(P:Nat->Prop)(w:World)(k:Int)(v:Value)(h:cf w P (.sl (l.map DMsg.ds)) v)(h0:0<=k)(hk:k+aQ bS l<=1000000000000):
  Calls Tryz.prog 117 #[v,.int .i64 k] w (kI (k+aQ bS l) P w λw'=>cf w' P (.sl ((mkL kW bS k l).map DMsg.ds)) v):=by
 obtain⟨A,cap,rfl,hcl,hcm⟩:=h.form;rw[length_map]at hcl h⊢;unfold maxLen at hcm;have hcn:=bG (cnt:=bS) iz l;go_enter Tryz.func117,Tryz.ntmps117
 go_wp2
 go_loopw [1,5] (λc i wr=>∃(j:Nat) (q:Int),j<=l.length/\i= .int .i64 j/\c= .int .i64 q/\Hid (q=k+aQ bS (l.take j))/\cf wr P (.sl ((mkP kW bS k j l).map DMsg.ds)) (.slice A l.length cap)/\dK P w wr) (λ_ i _=>l.length-(intOf i).toNat)
 case atStart=>exact⟨0,k,zero_le _,rfl,rfl,by simp[Hid,aQ],by rw[gR];exact h,dK.refl _ _⟩
 case round=>
  obtain⟨j,q,hj,rfl,rfl,hq,hres,ht⟩:=hrel;by_cases hlt:j<l.length
  ·have hc1:=hcn (j+1);rw[bj hlt]at hc1;have hc0:0<=aQ bS (l.take j):=aO iz _;have hn:=iz l[j];have hq1:0<=q:=by have:=hq.out;omega
   have hq2:q+bS l[j]<=1000000000000:=by have:=hq.out;omega
   have hi0:=aO hH l[j].row;have hq3:q+2+aQ cI l[j].row<=1000000000000:=by unfold bS at hq2;omega
   clear hc1 hc0 hcn hn;obtain⟨b,off,cap1,us,Q,e1,hPb,hQP,hel,hclose⟩:=hres.lens (kY DMsg.ds k hlt);have e2:A=some ⟨b,off,none⟩:=by injection e1
   subst e2;clear e1;obtain⟨u0,us0,e0,hl0⟩:=bJ (n:=2) hel.len;subst e0;obtain⟨u1,us1,e0,hl1⟩:=bJ (n:=1) hl0;subst e0;obtain⟨u2,us2,e0,hl2⟩:=bJ (n:=0) hl1;subst e0;obtain rfl:=i7 hl2;clear hl2;have hel:El wr b (off+j*3) 3 Q wr (DMsg.ds l[j]) [u0,u1,u2]:=hel;obtain⟨A2,cap2,rfl,_,_⟩:=cf.form (xs:=l[j].row.map eI) (hel.fam.get (i:=2) rfl rfl);rw[length_map]at hel;have c0:wr.cell? ⟨b,off+j*3,none⟩=some (u0):=hel.cell 0 _ rfl;have f0:=hel.frozen (off+j*3);have c1:wr.cell? ⟨b,off+j*3+1,none⟩=some (u1):=hel.cell 1 _ rfl;have f1:=hel.frozen (off+j*3+1);have c2:wr.cell? ⟨b,off+j*3+2,none⟩=some (.slice A2 l[j].row.length cap2):=hel.cell 2 _ rfl;have f2:=hel.frozen (off+j*3+2);have HC:=Lib.hid hclose;clear hclose hres h;have he2:=((hel.set (c:=0) ae (.int .i64 (q)) rfl).set (c:=1) ae (.int .i64 (q+1)) rfl);obtain⟨Q2,hQ2,hr2,hcl2⟩:=he2.sub (c:=2) rfl rfl;have HL2:=Lib.hid hcl2;clear hcl2 hel;go_wp2_with fail
   refine(mm l[j].row Q2 _ (q+1+1) _ hr2 aa aa).mono ?_;rintro e W2 ⟨rfl,t2,g2⟩;have hf2:=HL2.out W2 _ t2 g2;clear HL2 hr2;have hfin:=HC.out _ _ _ hf2;have htt:=ht.trans ((hf2).turn.mono (P':=P) (by rintro g (rfl|hg);exact hPb;exact hQP _ hg));have e1:=hq.out;have hq':Hid (q+1+1+aQ cI l[j].row=k+aQ bS (l.take (j+1))):=by
    unfold Hid;rw[bj hlt,e1];first|(unfold bS;omega)|omega
   have hm:cf _ P (.sl (((mkP kW bS k j l).map DMsg.ds).set j (DMsg.ds (kW q l[j])))) _:=hfin;rw[e1,gQ DMsg.ds k hlt]at hm;try rw[<-e1]at hm
   clear HC hq e1 hfin hf2 t2 g2 he2 c0 f0 c1 f1 c2 f2;have HM:=Lib.hid hm;have HT:=Lib.hid htt;clear hm htt ht;go_wp2_with fail
   exact⟨⟨j+1,_,aa,by go_num,rfl,hq',HM.out,HT.out⟩,by simp[intOf];omega⟩
  ·have e:j=l.length:=aa;subst e;have H:kI (k+aQ bS l) P w (λw'=>cf w' P (.sl ((mkL kW bS k l).map DMsg.ds)) (.slice A l.length cap)) (.returned (.int .i64 q)) wr:=by
    rw[jc]at hres;have e1:=hq.out;rw[take_length]at e1;exact⟨by rw[e1],ht,hres⟩
   clear hres ht h hcn;go_wp2
   go_ret
   exact H
theorem Kk(l:(List DMsg))(k:Int)(h0:0<=k)(hk:k+aQ bS l<=1000000000000):dV av 117 (.one (.sl (l.map DMsg.ds))) k (.one (.sl ((mkL kW bS k l).map DMsg.ds))) (k+aQ bS l):=Yg call117 λP w v h=>Kj l P w k v h h0 hk
theorem H7(l:(List Bool))(P:Nat->Prop)(w:World)(k:Int)(v:Value)(h:cf w P (.sl (l.map eB)) v)(h0:0<=k)(hk:k+aQ cI l<=1000000000000):
  Calls Tryz.prog 43 #[v,.int .i64 k] w (kI (k+aQ cI l) P w λw'=>cf w' P (.sl ((mkL mB cI k l).map eB)) v):=by
 obtain⟨A,cap,rfl,hcl,hcm⟩:=h.form;rw[length_map]at hcl h⊢;unfold maxLen at hcm;have hcn:=bG (cnt:=cI) hH l;go_enter Tryz.func43,Tryz.ntmps43
 go_wp2
 go_loopw [1,5] (λc i wr=>∃(j:Nat) (q:Int),j<=l.length/\i= .int .i64 j/\c= .int .i64 q/\Hid (q=k+aQ cI (l.take j))/\cf wr P (.sl ((mkP mB cI k j l).map eB)) (.slice A l.length cap)/\dK P w wr) (λ_ i _=>l.length-(intOf i).toNat)
 case atStart=>exact⟨0,k,zero_le _,rfl,rfl,by simp[Hid,aQ],by rw[gR];exact h,dK.refl _ _⟩
 case round=>
  obtain⟨j,q,hj,rfl,rfl,hq,hres,ht⟩:=hrel;by_cases hlt:j<l.length
  ·have hc1:=hcn (j+1);rw[bj hlt]at hc1;have hc0:0<=aQ cI (l.take j):=aO hH _;have hn:=hH l[j];have hq1:0<=q:=by have:=hq.out;omega
   have hq2:q+cI l[j]<=1000000000000:=by have:=hq.out;omega
   have hq3:q+1<=1000000000000:=hq2;clear hc1 hc0 hcn hn;obtain⟨b,off,cap1,us,Q,e1,hPb,hQP,hel,hclose⟩:=hres.lens (kY eB k hlt);have e2:A=some ⟨b,off,none⟩:=by injection e1
   subst e2;clear e1;have hone:off+j*(eB l[j]).length=off+j:=by show off+j*1=_;rw[mul_one]
   rw[hone]at hel hclose;obtain⟨u0,us0,e0,hl0⟩:=bJ (n:=0) hel.len;subst e0;obtain rfl:=i7 hl0;clear hl0;have hel:El wr b (off+j) 1 Q wr (eB l[j]) [u0]:=hel;have c0:wr.cell? ⟨b,off+j,none⟩=some (u0):=hel.cell 0 _ rfl;have f0:=hel.frozen (off+j);have HC:=Lib.hid hclose;clear hclose hres h;have hfin:=HC.out _ _ _ (hel.set (c:=0) ae (.bool ((q) % 3==0)) rfl);have htt:=ht.trans (((hel.set (c:=0) ae (.bool ((q) % 3==0)) rfl)).turn.mono (P':=P) (by rintro g (rfl|hg);exact hPb;exact hQP _ hg));have e1:=hq.out;have hq':Hid (q+1=k+aQ cI (l.take (j+1))):=by
    unfold Hid;rw[bj hlt,e1];first|(unfold cI;omega)|omega
   have hm:cf _ P (.sl (((mkP mB cI k j l).map eB).set j (eB (mB q l[j])))) _:=hfin;rw[e1,gQ eB k hlt]at hm;try rw[<-e1]at hm
   clear HC hq hfin e1;have HM:=Lib.hid hm;have HT:=Lib.hid htt;clear hm htt ht hel;go_wp2
   exact⟨⟨j+1,_,aa,by go_num,rfl,hq',HM.out,HT.out⟩,by simp[intOf];omega⟩
  ·have e:j=l.length:=aa;subst e;have H:kI (k+aQ cI l) P w (λw'=>cf w' P (.sl ((mkL mB cI k l).map eB)) (.slice A l.length cap)) (.returned (.int .i64 q)) wr:=by
    rw[jc]at hres;have e1:=hq.out;rw[take_length]at e1;exact⟨by rw[e1],ht,hres⟩
   clear hres ht h hcn;go_wp2
   go_ret
   exact H
theorem H8(l:(List Bool))(k:Int)(h0:0<=k)(hk:k+aQ cI l<=1000000000000):dV av 43 (.one (.sl (l.map eB))) k (.one (.sl ((mkL mB cI k l).map eB))) (k+aQ cI l):=Yg call43 λP w v h=>H7 l P w k v h h0 hk
end
end
section
open Go.Proofs.Tryz
open Go.ChangeShapes Go.WideShapes Go.RowKit
section
variable {α:Type}
def cpG(enc:α->List AD)(z:List AD)(l:List α)(k:Nat):List (List AD):=(l.take k).map enc++List.replicate (l.length-k) z
theorem jl(enc:α->List AD)(z:List AD)(l:List α):cpG enc z l 0=List.replicate l.length z:=by simp[cpG]
theorem fk(enc:α->List AD)(z:List AD)(l:List α):cpG enc z l l.length=l.map enc:=by simp[cpG]
theorem kL(enc:α->List AD)(z:List AD)(l:List α)(k:Nat)(hk:k<l.length):(cpG enc z l k).set k (enc l[k])=cpG enc z l (k+1):=by
 unfold cpG;have h1:((l.take k).map enc).length=k:=al;rw[List.set_append_right _ _ aa,h1,Nat.sub_self,eE enc hk,List.append_assoc];congr 1;rw[show l.length-k=(l.length-(k+1))+1 by omega,List.replicate_succ];rfl
theorem gx(enc:α->List AD)(z:List AD)(l:List α)(k:Nat)(hk:k<l.length):(cpG enc z l k)[k]? =some z:=by
 have h1:((l.take k).map enc).length=k:=al;unfold cpG;rw[List.getElem?_append_right aa,h1,List.getElem?_replicate,if_pos aa]
theorem QC{β:Type}{cs:List β}{k n:Nat}(z:β)(h:cs.length=k)(hk:k<n):(cs++List.replicate (n-k) z)[k]? =some z:=by
 rw[List.getElem?_append_right aa,List.getElem?_replicate,if_pos aa]
theorem Mm{β:Type}{cs:List β}{k n:Nat}{x:β}(z:β)(h:cs.length=k)(hk:k<n):(cs++List.replicate (n-k) z).set k x=(cs++[x])++List.replicate (n-(k+1)) z:=by
 rw[List.set_append_right _ _ aa,h,Nat.sub_self,show n-k=(n-(k+1))+1 by omega,List.replicate_succ,List.append_assoc];rfl
end
theorem sg(l:(List Int))(hs:l.length<=1048576):cg av 26 [.one (.sl (l.map eI))] (.one (.sl (l.map eI))):=by
 have hl:l.length<=1048576:=hs;refine cu aM func26 rfl call26 ntmps26 (aaX results26) λS=>?_;conv=>whnf
 repeat'(first|refine awz ?_|(refine⟨l.length,by simp,by simp,(show 8*l.length<=_ by omega),aa,?_⟩;conv=>whnf)|fail)
 refine XA (λk:Nat=>k<=l.length) (7::[4,8,9,10,11,12,13,14,15,16,17,18,19,20]) (λk=>[(3,.one (.own 7)),(4,vI .i64 (k:Int))]) (λk=>[(9997,cS S.w0.heap.size S.w0.heap.size),(7,.row 2 1 (cpG eI [dI 0] l k))]) (λk=>l.length-k) 0 aa ?_ (Xu rfl (Xu (congrArg some (congrArg (AO.row 2 1) (jl eI [dI 0] l).symm)) Xv)) (λk hR=>?_)<;>(conv=>whnf)
 ·exact whd
 ·repeat'((first|refine awz ?_|refine XI ari (λhlt=>?_)|refine Xw k _ rfl (gx eI [dI 0] l k hlt) ?_|refine Xz ari ari ?_|refine tB ?_ ?_|intro h)<;>conv=>whnf)
  ·refine aT.mk ⟨k+1,hlt,aa,?_,Xu rfl (Xu (congrArg some (congrArg (AO.row 2 1) (kL eI [dI 0] l k hlt))) Xv)⟩;exact hds
  ·have:k=l.length:=ari;subst this;exact⟨_,_,l.map eI,Nat.le_refl _,by rw[fk];exact XD (lo:=S.w0.heap.size) (hi:=S.w0.heap.size) (by simp[AD.isBl,eI]),by rw[fk],(λy hy=>by obtain⟨a,_,rfl⟩:=mem_map.1 hy;rfl),rfl⟩
theorem Lr(l:(List (List Int)))(hs:l.length<=1048576/\∀y∈l,y.length<=1048576):cg av 163 [.one (.sl (l.map bD))] (.one (.sl (l.map bD))):=by
 have hl:l.length<=1048576:=hs.1;refine cu aM func163 rfl call163 ntmps163 (aaX results163) λS=>?_;conv=>whnf
 repeat'(first|refine awz ?_|(refine⟨l.length,by simp,by simp,(show 24*l.length<=_ by omega),aa,?_⟩;conv=>whnf)|fail)
 refine XA (λg:Nat×Nat×List (List AD)=>g.1<=l.length/\g.2.2.length=g.1/\S.w0.heap.size<=g.2.1/\Fam S.w0.heap.size g.2.1 g.2.2.flatten ((l.take g.1).map bD).flatten) (7::[4,8,9,10,11,12,13,14,15,16,17,18,19,20,21]) (λg=>[(3,.one (.own 7)),(4,vI .i64 (g.1:Int))]) (λg=>[(9997,cS S.w0.heap.size g.2.1),(7,.row 62 1 (g.2.2++List.replicate (l.length-g.1) [.sl []]))]) (λg=>l.length-g.1) (0,S.w0.heap.size,[]) ⟨Nat.zero_le _,rfl,Nat.le_refl _,XD rfl⟩ ?_ sbW (λg hR=>?_)<;>(conv=>whnf)
 ·exact whd
 ·obtain⟨k,m,cs⟩:=g;obtain⟨hk,hcs,hm,hF⟩:=hR;simp only at hk hcs hm hF;repeat'((first|refine awz ?_|refine XI ari (λhlt=>?_)|refine XC (sg _ (hs.2 _ (List.getElem_mem hlt))) rfl rfl λR lo hi a1 a2 F=>?_|refine Xw k _ rfl (QC _ hcs ari) ?_|refine Xz ari ari ?_|refine tB ?_ ?_|intro h)<;>conv=>whnf)
  ·have a1:m<=lo:=a1;refine aT.mk ⟨(k+1,hi,cs++[cW R 0 (bD l[k])]),⟨by simp only;omega,by simp[hcs],by simp only;omega,?_⟩,by simp only;omega,?_,Xu rfl (Xu (congrArg some (congrArg (AO.row 62 1) (Mm _ hcs aa))) Xv)⟩
   ·simp only;rw[eE bD aa];exact hF.flat_set F aa aa aa
   ·exact hds
  ·have:k=l.length:=ari;subst this;refine⟨_,m,l.map bD,Nat.le_refl _,?_,by simp[hcs],(λy hy=>by obtain⟨a,_,rfl⟩:=mem_map.1 hy;rfl),rfl⟩;simp only[Nat.sub_self,List.replicate_zero,append_nil];rw[List.take_length]at hF;exact hF
theorem PE(x:DWrite)(hs:X0 1048576 x):cg av 248 [.agg x.ds] (.agg x.ds):=by
 refine cu aM func248 rfl call248 ntmps248 (aaX results248) λS=>?_;conv=>whnf
 repeat'(first|refine awz ?_|(refine XC (sg x.row hs) rfl rfl λR1 l1 h1 a1 b1 F1=>?_;conv=>whnf)|fail)
 exact⟨_,_,_,(by omega:S.w0.heap.size<=S.w0.heap.size),(Fam.app (XD (lo:=S.w0.heap.size) (hi:=S.w0.heap.size) (ds:=[dI x.at_]) rfl) F1 aa aa aa),rfl⟩
theorem Ne(l:(List DWrite))(hs:l.length<=1048576/\∀y∈l,X0 1048576 y):cg av 164 [.one (.sl (l.map DWrite.ds))] (.one (.sl (l.map DWrite.ds))):=by
 have hl:l.length<=1048576:=hs.1;refine cu aM func164 rfl call164 ntmps164 (aaX results164) λS=>?_;conv=>whnf
 repeat'(first|refine awz ?_|(refine⟨l.length,by simp,by simp,(show 32*l.length<=_ by omega),aa,?_⟩;conv=>whnf)|fail)
 refine XA (λg:Nat×Nat×List (List AD)=>g.1<=l.length/\g.2.2.length=g.1/\S.w0.heap.size<=g.2.1/\Fam S.w0.heap.size g.2.1 g.2.2.flatten ((l.take g.1).map DWrite.ds).flatten) (7::[4,8,9,10,11,12,13,14,15,16,17,18,19,20,21]) (λg=>[(3,.one (.own 7)),(4,vI .i64 (g.1:Int))]) (λg=>[(9997,cS S.w0.heap.size g.2.1),(7,.row 301 2 (g.2.2++List.replicate (l.length-g.1) [dI 0,.sl []]))]) (λg=>l.length-g.1) (0,S.w0.heap.size,[]) ⟨Nat.zero_le _,rfl,Nat.le_refl _,XD rfl⟩ ?_ sbW (λg hR=>?_)<;>(conv=>whnf)
 ·exact whd
 ·obtain⟨k,m,cs⟩:=g;obtain⟨hk,hcs,hm,hF⟩:=hR;simp only at hk hcs hm hF;repeat'((first|refine awz ?_|refine XI ari (λhlt=>?_)|refine XC (PE _ (hs.2 _ (List.getElem_mem hlt))) rfl rfl λR lo hi a1 a2 F=>?_|refine Xw k _ rfl (QC _ hcs ari) ?_|refine Xz ari ari ?_|refine tB ?_ ?_|intro h)<;>conv=>whnf)
  ·have a1:m<=lo:=a1;refine aT.mk ⟨(k+1,hi,cs++[cW R 0 (DWrite.ds l[k])]),⟨by simp only;omega,by simp[hcs],by simp only;omega,?_⟩,by simp only;omega,?_,Xu rfl (Xu (congrArg some (congrArg (AO.row 301 2) (Mm _ hcs aa))) Xv)⟩
   ·simp only;rw[eE DWrite.ds aa];exact hF.flat_set F aa aa aa
   ·exact hds
  ·have:k=l.length:=ari;subst this;refine⟨_,m,l.map DWrite.ds,Nat.le_refl _,?_,by simp[hcs],(λy hy=>by obtain⟨a,_,rfl⟩:=mem_map.1 hy;rfl),rfl⟩;simp only[Nat.sub_self,List.replicate_zero,append_nil];rw[List.take_length]at hF;exact hF
theorem Ev(x:DDisk)(hs:XV 1048576 x):cg av 83 [.agg x.ds] (.agg x.ds):=by
 refine cu aM func83 rfl call83 ntmps83 (aaX results83) λS=>?_;conv=>whnf
 repeat'((first|refine awz ?_|refine XC (Lr x.kept ⟨hs.1,hs.2.1⟩) rfl rfl λR1 l1 h1 a1 b1 F1=>?_|refine XC (Ne x.wait ⟨hs.2.2.1,hs.2.2.2⟩) rfl rfl λR2 l2 h2 a2 b2 F2=>?_|fail)<;>conv=>whnf)
 exact⟨_,_,_,(by omega:S.w0.heap.size<=l1),(Fam.app F1 F2 aa aa aa),rfl⟩
theorem Tm(x:DTwo)(hs:X8 1048576 x):cg av 78 [.agg x.ds] (.agg x.ds):=by
 refine cu aM func78 rfl call78 ntmps78 (aaX results78) λS=>?_;conv=>whnf
 repeat'((first|refine awz ?_|refine XC (Ev x.a hs.1) rfl rfl λR1 l1 h1 a1 b1 F1=>?_|refine XC (Ev x.b hs.2) rfl rfl λR2 l2 h2 a2 b2 F2=>?_|fail)<;>conv=>whnf)
 exact⟨_,_,_,(by omega:S.w0.heap.size<=l1),(Fam.app F1 F2 aa aa aa),rfl⟩
theorem RG(x:DMark):aL av 161 [.agg x.ds] (.val (.agg x.ds)):=by
 refine pO func161 call161 ntmps161 results161 λS=>?_;conv=>whnf
 repeat'(first|refine awz ?_|fail)
 all_goals rfl
theorem Ha(l:(List DMark))(hs:l.length<=1048576):cg av 81 [.one (.sl (l.map DMark.ds))] (.one (.sl (l.map DMark.ds))):=by
 have hl:l.length<=1048576:=hs;refine cu aM func81 rfl call81 ntmps81 (aaX results81) λS=>?_;conv=>whnf
 repeat'(first|refine awz ?_|(refine⟨l.length,by simp,by simp,(show 24*l.length<=_ by omega),aa,?_⟩;conv=>whnf)|fail)
 refine XA (λk:Nat=>k<=l.length) (7::[4,8,9,10,11,12,13,14,15,16,17,18,19,20,21]) (λk=>[(3,.one (.own 7)),(4,vI .i64 (k:Int))]) (λk=>[(9997,cS S.w0.heap.size S.w0.heap.size),(7,.row 247 3 (cpG DMark.ds [dI 0,dI 0,dI 0] l k))]) (λk=>l.length-k) 0 aa ?_ (Xu rfl (Xu (congrArg some (congrArg (AO.row 247 3) (jl DMark.ds [dI 0,dI 0,dI 0] l).symm)) Xv)) (λk hR=>?_)<;>(conv=>whnf)
 ·exact whd
 ·repeat'((first|refine awz ?_|refine XI ari (λhlt=>?_)|refine Xt (RG _) rfl ?_|refine Xw k _ rfl (gx DMark.ds [dI 0,dI 0,dI 0] l k hlt) ?_|refine Xz ari ari ?_|refine tB ?_ ?_|intro h)<;>conv=>whnf)
  ·refine aT.mk ⟨k+1,hlt,aa,?_,Xu rfl (Xu (congrArg some (congrArg (AO.row 247 3) (kL DMark.ds [dI 0,dI 0,dI 0] l k hlt))) Xv)⟩;exact hds
  ·have:k=l.length:=ari;subst this;exact⟨_,_,l.map DMark.ds,Nat.le_refl _,by rw[fk];exact XD (lo:=S.w0.heap.size) (hi:=S.w0.heap.size) (by simp[AD.isBl,DMark.ds]),by rw[fk],(λy hy=>by obtain⟨a,_,rfl⟩:=mem_map.1 hy;rfl),rfl⟩
theorem Lq(x:DHead)(hs:XW 1048576 x):cg av 79 [.agg x.ds] (.agg x.ds):=by
 refine cu aM func79 rfl call79 ntmps79 (aaX results79) λS=>?_;conv=>whnf
 repeat'(first|refine awz ?_|(refine XC (Ha x.seen hs) rfl rfl λR1 l1 h1 a1 b1 F1=>?_;conv=>whnf)|fail)
 exact⟨_,_,_,(by omega:S.w0.heap.size<=S.w0.heap.size),(Fam.app (XD (lo:=S.w0.heap.size) (hi:=S.w0.heap.size) (ds:=[dI x.num,dI x.base,dI x.time]) rfl) F1 aa aa aa),rfl⟩
theorem Nd(x:DOp):aL av 86 [.agg x.ds] (.val (.agg x.ds)):=by
 refine pO func86 call86 ntmps86 results86 λS=>?_;conv=>whnf
 repeat'(first|refine awz ?_|exact rr|fail)
 all_goals rfl
theorem Px(x:DEntry):aL av 247 [.agg x.ds] (.val (.agg x.ds)):=by
 refine pO func247 call247 ntmps247 results247 λS=>?_;conv=>whnf
 repeat'(first|refine awz ?_|(refine Xt (Nd x.op) rfl ?_;conv=>whnf)|fail)
 all_goals rfl
theorem Nc(l:(List DEntry))(hs:l.length<=1048576):cg av 160 [.one (.sl (l.map DEntry.ds))] (.one (.sl (l.map DEntry.ds))):=by
 have hl:l.length<=1048576:=hs;refine cu aM func160 rfl call160 ntmps160 (aaX results160) λS=>?_;conv=>whnf
 repeat'(first|refine awz ?_|(refine⟨l.length,by simp,by simp,(show 72*l.length<=_ by omega),aa,?_⟩;conv=>whnf)|fail)
 refine XA (λk:Nat=>k<=l.length) (7::[4,8,9,10,11,12,13,14,15,16,17,18,19,20,21]) (λk=>[(3,.one (.own 7)),(4,vI .i64 (k:Int))]) (λk=>[(9997,cS S.w0.heap.size S.w0.heap.size),(7,.row 308 9 (cpG DEntry.ds [dI 0,dI 0,dI 0,dI 0,dI 0,dI 0,dI 0,dI 0,dI 0] l k))]) (λk=>l.length-k) 0 aa ?_ (Xu rfl (Xu (congrArg some (congrArg (AO.row 308 9) (jl DEntry.ds [dI 0,dI 0,dI 0,dI 0,dI 0,dI 0,dI 0,dI 0,dI 0] l).symm)) Xv)) (λk hR=>?_)<;>(conv=>whnf)
 ·exact whd
 ·repeat'((first|refine awz ?_|refine XI ari (λhlt=>?_)|refine Xt (Px _) rfl ?_|refine Xw k _ rfl (gx DEntry.ds [dI 0,dI 0,dI 0,dI 0,dI 0,dI 0,dI 0,dI 0,dI 0] l k hlt) ?_|refine Xz ari ari ?_|refine tB ?_ ?_|intro h)<;>conv=>whnf)
  ·refine aT.mk ⟨k+1,hlt,aa,?_,Xu rfl (Xu (congrArg some (congrArg (AO.row 308 9) (kL DEntry.ds [dI 0,dI 0,dI 0,dI 0,dI 0,dI 0,dI 0,dI 0,dI 0] l k hlt))) Xv)⟩;exact hds
  ·have:k=l.length:=ari;subst this;exact⟨_,_,l.map DEntry.ds,Nat.le_refl _,by rw[fk];exact XD (lo:=S.w0.heap.size) (hi:=S.w0.heap.size) (by simp[AD.isBl,DEntry.ds]),by rw[fk],(λy hy=>by obtain⟨a,_,rfl⟩:=mem_map.1 hy;rfl),rfl⟩
theorem Ry(x:DBook)(hs:X5 1048576 x):cg av 80 [.agg x.ds] (.agg x.ds):=by
 refine cu aM func80 rfl call80 ntmps80 (aaX results80) λS=>?_;conv=>whnf
 repeat'(first|refine awz ?_|(refine XC (Nc x.entries hs) rfl rfl λR1 l1 h1 a1 b1 F1=>?_;conv=>whnf)|fail)
 exact⟨_,_,_,(by omega:S.w0.heap.size<=S.w0.heap.size),(Fam.app (XD (lo:=S.w0.heap.size) (hi:=S.w0.heap.size) (ds:=[dI x.base,dI x.time]) rfl) F1 aa aa aa),rfl⟩
theorem Tg(x:DAck):aL av 162 [.agg x.ds] (.val (.agg x.ds)):=by
 refine pO func162 call162 ntmps162 results162 λS=>?_;conv=>whnf
 repeat'(first|refine awz ?_|fail)
 all_goals rfl
theorem Rx(l:(List DAck))(hs:l.length<=1048576):cg av 82 [.one (.sl (l.map DAck.ds))] (.one (.sl (l.map DAck.ds))):=by
 have hl:l.length<=1048576:=hs;refine cu aM func82 rfl call82 ntmps82 (aaX results82) λS=>?_;conv=>whnf
 repeat'(first|refine awz ?_|(refine⟨l.length,by simp,by simp,(show 32*l.length<=_ by omega),aa,?_⟩;conv=>whnf)|fail)
 refine XA (λk:Nat=>k<=l.length) (7::[4,8,9,10,11,12,13,14,15,16,17,18,19,20,21]) (λk=>[(3,.one (.own 7)),(4,vI .i64 (k:Int))]) (λk=>[(9997,cS S.w0.heap.size S.w0.heap.size),(7,.row 251 4 (cpG DAck.ds [dI 0,dI 0,dI 0,dI 0] l k))]) (λk=>l.length-k) 0 aa ?_ (Xu rfl (Xu (congrArg some (congrArg (AO.row 251 4) (jl DAck.ds [dI 0,dI 0,dI 0,dI 0] l).symm)) Xv)) (λk hR=>?_)<;>(conv=>whnf)
 ·exact whd
 ·repeat'((first|refine awz ?_|refine XI ari (λhlt=>?_)|refine Xt (Tg _) rfl ?_|refine Xw k _ rfl (gx DAck.ds [dI 0,dI 0,dI 0,dI 0] l k hlt) ?_|refine Xz ari ari ?_|refine tB ?_ ?_|intro h)<;>conv=>whnf)
  ·refine aT.mk ⟨k+1,hlt,aa,?_,Xu rfl (Xu (congrArg some (congrArg (AO.row 251 4) (kL DAck.ds [dI 0,dI 0,dI 0,dI 0] l k hlt))) Xv)⟩;exact hds
  ·have:k=l.length:=ari;subst this;exact⟨_,_,l.map DAck.ds,Nat.le_refl _,by rw[fk];exact XD (lo:=S.w0.heap.size) (hi:=S.w0.heap.size) (by simp[AD.isBl,DAck.ds]),by rw[fk],(λy hy=>by obtain⟨a,_,rfl⟩:=mem_map.1 hy;rfl),rfl⟩
theorem Ls(x:DLogNode)(hs:XT 1048576 x):cg av 21 [.agg x.ds] (.agg x.ds):=by
 refine cu aM func21 rfl call21 ntmps21 (aaX results21) λS=>?_;conv=>whnf
 repeat'((first|refine awz ?_|refine XC (Tm x.two hs.1) rfl rfl λR1 l1 h1 a1 b1 F1=>?_|refine XC (Lq x.head hs.2.1) rfl rfl λR2 l2 h2 a2 b2 F2=>?_|refine XC (Lq x.nxt hs.2.2.1) rfl rfl λR3 l3 h3 a3 b3 F3=>?_|refine XC (Ry x.book hs.2.2.2.1) rfl rfl λR4 l4 h4 a4 b4 F4=>?_|refine XC (Ha x.seen hs.2.2.2.2.1) rfl rfl λR5 l5 h5 a5 b5 F5=>?_|refine XC (Rx x.owe hs.2.2.2.2.2) rfl rfl λR6 l6 h6 a6 b6 F6=>?_|fail)<;>conv=>whnf)
 exact⟨_,_,_,(by omega:S.w0.heap.size<=l1),(Fam.app (Fam.app (Fam.app (Fam.app (Fam.app (Fam.app (Fam.app F1 F2 aa aa aa) F3 aa aa aa) (XD (lo:=h3) (hi:=h3) (ds:=[dB x.more]) rfl) aa aa aa) F4 aa aa aa) F5 aa aa aa) (XD (lo:=h5) (hi:=h5) (ds:=[dI x.durable]) rfl) aa aa aa) F6 aa aa aa),rfl⟩
theorem RI(x:DPair):aL av 249 [.agg x.ds] (.val (.agg x.ds)):=by
 refine pO func249 call249 ntmps249 results249 λS=>?_;conv=>whnf
 repeat'(first|refine awz ?_|fail)
 all_goals rfl
theorem PA(l:(List DPair))(hs:l.length<=1048576):cg av 165 [.one (.sl (l.map DPair.ds))] (.one (.sl (l.map DPair.ds))):=by
 have hl:l.length<=1048576:=hs;refine cu aM func165 rfl call165 ntmps165 (aaX results165) λS=>?_;conv=>whnf
 repeat'(first|refine awz ?_|(refine⟨l.length,by simp,by simp,(show 16*l.length<=_ by omega),aa,?_⟩;conv=>whnf)|fail)
 refine XA (λk:Nat=>k<=l.length) (7::[4,8,9,10,11,12,13,14,15,16,17,18,19,20,21]) (λk=>[(3,.one (.own 7)),(4,vI .i64 (k:Int))]) (λk=>[(9997,cS S.w0.heap.size S.w0.heap.size),(7,.row 320 2 (cpG DPair.ds [dI 0,dI 0] l k))]) (λk=>l.length-k) 0 aa ?_ (Xu rfl (Xu (congrArg some (congrArg (AO.row 320 2) (jl DPair.ds [dI 0,dI 0] l).symm)) Xv)) (λk hR=>?_)<;>(conv=>whnf)
 ·exact whd
 ·repeat'((first|refine awz ?_|refine XI ari (λhlt=>?_)|refine Xt (RI _) rfl ?_|refine Xw k _ rfl (gx DPair.ds [dI 0,dI 0] l k hlt) ?_|refine Xz ari ari ?_|refine tB ?_ ?_|intro h)<;>conv=>whnf)
  ·refine aT.mk ⟨k+1,hlt,aa,?_,Xu rfl (Xu (congrArg some (congrArg (AO.row 320 2) (kL DPair.ds [dI 0,dI 0] l k hlt))) Xv)⟩;exact hds
  ·have:k=l.length:=ari;subst this;exact⟨_,_,l.map DPair.ds,Nat.le_refl _,by rw[fk];exact XD (lo:=S.w0.heap.size) (hi:=S.w0.heap.size) (by simp[AD.isBl,DPair.ds]),by rw[fk],(λy hy=>by obtain⟨a,_,rfl⟩:=mem_map.1 hy;rfl),rfl⟩
theorem Tj(x:DJob):aL av 250 [.agg x.ds] (.val (.agg x.ds)):=by
 refine pO func250 call250 ntmps250 results250 λS=>?_;conv=>whnf
 repeat'(first|refine awz ?_|fail)
 all_goals rfl
theorem RD(l:(List DJob))(hs:l.length<=1048576):cg av 166 [.one (.sl (l.map DJob.ds))] (.one (.sl (l.map DJob.ds))):=by
 have hl:l.length<=1048576:=hs;refine cu aM func166 rfl call166 ntmps166 (aaX results166) λS=>?_;conv=>whnf
 repeat'(first|refine awz ?_|(refine⟨l.length,by simp,by simp,(show 40*l.length<=_ by omega),aa,?_⟩;conv=>whnf)|fail)
 refine XA (λk:Nat=>k<=l.length) (7::[4,8,9,10,11,12,13,14,15,16,17,18,19,20,21]) (λk=>[(3,.one (.own 7)),(4,vI .i64 (k:Int))]) (λk=>[(9997,cS S.w0.heap.size S.w0.heap.size),(7,.row 324 5 (cpG DJob.ds [dI 0,dI 0,dI 0,dI 0,dI 0] l k))]) (λk=>l.length-k) 0 aa ?_ (Xu rfl (Xu (congrArg some (congrArg (AO.row 324 5) (jl DJob.ds [dI 0,dI 0,dI 0,dI 0,dI 0] l).symm)) Xv)) (λk hR=>?_)<;>(conv=>whnf)
 ·exact whd
 ·repeat'((first|refine awz ?_|refine XI ari (λhlt=>?_)|refine Xt (Tj _) rfl ?_|refine Xw k _ rfl (gx DJob.ds [dI 0,dI 0,dI 0,dI 0,dI 0] l k hlt) ?_|refine Xz ari ari ?_|refine tB ?_ ?_|intro h)<;>conv=>whnf)
  ·refine aT.mk ⟨k+1,hlt,aa,?_,Xu rfl (Xu (congrArg some (congrArg (AO.row 324 5) (kL DJob.ds [dI 0,dI 0,dI 0,dI 0,dI 0] l k hlt))) Xv)⟩;exact hds
  ·have:k=l.length:=ari;subst this;exact⟨_,_,l.map DJob.ds,Nat.le_refl _,by rw[fk];exact XD (lo:=S.w0.heap.size) (hi:=S.w0.heap.size) (by simp[AD.isBl,DJob.ds]),by rw[fk],(λy hy=>by obtain⟨a,_,rfl⟩:=mem_map.1 hy;rfl),rfl⟩
theorem Py(x:DLease):aL av 167 [.agg x.ds] (.val (.agg x.ds)):=by
 refine pO func167 call167 ntmps167 results167 λS=>?_;conv=>whnf
 repeat'(first|refine awz ?_|fail)
 all_goals rfl
theorem PB(x:DState)(hs:X1 1048576 x):cg av 84 [.agg x.ds] (.agg x.ds):=by
 refine cu aM func84 rfl call84 ntmps84 (aaX results84) λS=>?_;conv=>whnf
 repeat'((first|refine awz ?_|refine Xt (Py x.lease) rfl ?_|refine XC (PA x.pairs hs.1) rfl rfl λR1 l1 h1 a1 b1 F1=>?_|refine XC (RD x.jobs hs.2) rfl rfl λR2 l2 h2 a2 b2 F2=>?_|fail)<;>conv=>whnf)
 exact⟨_,_,_,(by omega:S.w0.heap.size<=S.w0.heap.size),(Fam.app (Fam.app (Fam.app (XD (lo:=S.w0.heap.size) (hi:=S.w0.heap.size) (ds:=[dI x.index,dI x.time]) rfl) F1 aa aa aa) F2 aa aa aa) (XD (lo:=h2) (hi:=h2) (ds:=[dI x.lease.holder,dI x.lease.epoch,dI x.lease.til]) rfl) aa aa aa),rfl⟩
theorem PC(x:DStore)(hs:X3 1048576 x):cg av 22 [.agg x.ds] (.agg x.ds):=by
 refine cu aM func22 rfl call22 ntmps22 (aaX results22) λS=>?_;conv=>whnf
 repeat'((first|refine awz ?_|refine XC (Ev x.disk hs.1) rfl rfl λR1 l1 h1 a1 b1 F1=>?_|refine XC (PB x.state hs.2) rfl rfl λR2 l2 h2 a2 b2 F2=>?_|fail)<;>conv=>whnf)
 exact⟨_,_,_,(by omega:S.w0.heap.size<=l1),(Fam.app (Fam.app F1 F2 aa aa aa) (XD (lo:=h2) (hi:=h2) (ds:=[dI x.num,dI x.last,dI x.busy]) rfl) aa aa aa),rfl⟩
theorem Th(x:DDue):aL av 314 [.agg x.ds] (.val (.agg x.ds)):=by
 refine pO func314 call314 ntmps314 results314 λS=>?_;conv=>whnf
 repeat'(first|refine awz ?_|fail)
 all_goals rfl
theorem RB(l:(List DDue))(hs:l.length<=1048576):cg av 251 [.one (.sl (l.map DDue.ds))] (.one (.sl (l.map DDue.ds))):=by
 have hl:l.length<=1048576:=hs;refine cu aM func251 rfl call251 ntmps251 (aaX results251) λS=>?_;conv=>whnf
 repeat'(first|refine awz ?_|(refine⟨l.length,by simp,by simp,(show 16*l.length<=_ by omega),aa,?_⟩;conv=>whnf)|fail)
 refine XA (λk:Nat=>k<=l.length) (7::[4,8,9,10,11,12,13,14,15,16,17,18,19,20,21]) (λk=>[(3,.one (.own 7)),(4,vI .i64 (k:Int))]) (λk=>[(9997,cS S.w0.heap.size S.w0.heap.size),(7,.row 365 2 (cpG DDue.ds [dI 0,dI 0] l k))]) (λk=>l.length-k) 0 aa ?_ (Xu rfl (Xu (congrArg some (congrArg (AO.row 365 2) (jl DDue.ds [dI 0,dI 0] l).symm)) Xv)) (λk hR=>?_)<;>(conv=>whnf)
 ·exact whd
 ·repeat'((first|refine awz ?_|refine XI ari (λhlt=>?_)|refine Xt (Th _) rfl ?_|refine Xw k _ rfl (gx DDue.ds [dI 0,dI 0] l k hlt) ?_|refine Xz ari ari ?_|refine tB ?_ ?_|intro h)<;>conv=>whnf)
  ·refine aT.mk ⟨k+1,hlt,aa,?_,Xu rfl (Xu (congrArg some (congrArg (AO.row 365 2) (kL DDue.ds [dI 0,dI 0] l k hlt))) Xv)⟩;exact hds
  ·have:k=l.length:=ari;subst this;exact⟨_,_,l.map DDue.ds,Nat.le_refl _,by rw[fk];exact XD (lo:=S.w0.heap.size) (hi:=S.w0.heap.size) (by simp[AD.isBl,DDue.ds]),by rw[fk],(λy hy=>by obtain⟨a,_,rfl⟩:=mem_map.1 hy;rfl),rfl⟩
theorem RE(x:DJobs)(hs:Ya 1048576 x):cg av 168 [.agg x.ds] (.agg x.ds):=by
 refine cu aM func168 rfl call168 ntmps168 (aaX results168) λS=>?_;conv=>whnf
 repeat'(first|refine awz ?_|(refine XC (RB x.opens hs) rfl rfl λR1 l1 h1 a1 b1 F1=>?_;conv=>whnf)|fail)
 exact⟨_,_,_,(by omega:S.w0.heap.size<=S.w0.heap.size),(Fam.app (XD (lo:=S.w0.heap.size) (hi:=S.w0.heap.size) (ds:=[dI x.index,dI x.time,dI x.holder,dI x.epoch,dI x.til]) rfl) F1 aa aa aa),rfl⟩
theorem RJ(x:DView)(hs:X6 1048576 x):cg av 85 [.agg x.ds] (.agg x.ds):=by
 refine cu aM func85 rfl call85 ntmps85 (aaX results85) λS=>?_;conv=>whnf
 repeat'(first|refine awz ?_|(refine XC (RE x.jobs hs) rfl rfl λR1 l1 h1 a1 b1 F1=>?_;conv=>whnf)|fail)
 exact⟨_,_,_,(by omega:S.w0.heap.size<=l1),F1,rfl⟩
theorem Hb(x:DSched)(hs:XZ 1048576 x):cg av 23 [.agg x.ds] (.agg x.ds):=by
 refine cu aM func23 rfl call23 ntmps23 (aaX results23) λS=>?_;conv=>whnf
 repeat'((first|refine awz ?_|refine Xt (Nd x.op) rfl ?_|refine XC (RJ x.view hs) rfl rfl λR1 l1 h1 a1 b1 F1=>?_|fail)<;>conv=>whnf)
 exact⟨_,_,_,(by omega:S.w0.heap.size<=S.w0.heap.size),(Fam.app (Fam.app (XD (lo:=S.w0.heap.size) (hi:=S.w0.heap.size) (ds:=[dI x.id,dI x.seq]) rfl) F1 aa aa aa) (XD (lo:=h1) (hi:=h1) (ds:=[dB x.busy,dI x.op.kind,dI x.op.a,dI x.op.b,dI x.op.c,dI x.op.d,dI x.index]) rfl) aa aa aa),rfl⟩
theorem RK(x:DWant):aL av 169 [.agg x.ds] (.val (.agg x.ds)):=by
 refine pO func169 call169 ntmps169 results169 λS=>?_;conv=>whnf
 repeat'(first|refine awz ?_|(refine Xt (Nd x.op) rfl ?_;conv=>whnf)|fail)
 all_goals rfl
theorem PD(l:(List DWant))(hs:l.length<=1048576):cg av 87 [.one (.sl (l.map DWant.ds))] (.one (.sl (l.map DWant.ds))):=by
 have hl:l.length<=1048576:=hs;refine cu aM func87 rfl call87 ntmps87 (aaX results87) λS=>?_;conv=>whnf
 repeat'(first|refine awz ?_|(refine⟨l.length,by simp,by simp,(show 56*l.length<=_ by omega),aa,?_⟩;conv=>whnf)|fail)
 refine XA (λk:Nat=>k<=l.length) (7::[4,8,9,10,11,12,13,14,15,16,17,18,19,20,21]) (λk=>[(3,.one (.own 7)),(4,vI .i64 (k:Int))]) (λk=>[(9997,cS S.w0.heap.size S.w0.heap.size),(7,.row 222 7 (cpG DWant.ds [dI 0,dI 0,dI 0,dI 0,dI 0,dI 0,dI 0] l k))]) (λk=>l.length-k) 0 aa ?_ (Xu rfl (Xu (congrArg some (congrArg (AO.row 222 7) (jl DWant.ds [dI 0,dI 0,dI 0,dI 0,dI 0,dI 0,dI 0] l).symm)) Xv)) (λk hR=>?_)<;>(conv=>whnf)
 ·exact whd
 ·repeat'((first|refine awz ?_|refine XI ari (λhlt=>?_)|refine Xt (RK _) rfl ?_|refine Xw k _ rfl (gx DWant.ds [dI 0,dI 0,dI 0,dI 0,dI 0,dI 0,dI 0] l k hlt) ?_|refine Xz ari ari ?_|refine tB ?_ ?_|intro h)<;>conv=>whnf)
  ·refine aT.mk ⟨k+1,hlt,aa,?_,Xu rfl (Xu (congrArg some (congrArg (AO.row 222 7) (kL DWant.ds [dI 0,dI 0,dI 0,dI 0,dI 0,dI 0,dI 0] l k hlt))) Xv)⟩;exact hds
  ·have:k=l.length:=ari;subst this;exact⟨_,_,l.map DWant.ds,Nat.le_refl _,by rw[fk];exact XD (lo:=S.w0.heap.size) (hi:=S.w0.heap.size) (by simp[AD.isBl,DWant.ds]),by rw[fk],(λy hy=>by obtain⟨a,_,rfl⟩:=mem_map.1 hy;rfl),rfl⟩
theorem Ti(x:DGot):aL av 170 [.agg x.ds] (.val (.agg x.ds)):=by
 refine pO func170 call170 ntmps170 results170 λS=>?_;conv=>whnf
 repeat'(first|refine awz ?_|fail)
 all_goals rfl
theorem RC(l:(List DGot))(hs:l.length<=1048576):cg av 88 [.one (.sl (l.map DGot.ds))] (.one (.sl (l.map DGot.ds))):=by
 have hl:l.length<=1048576:=hs;refine cu aM func88 rfl call88 ntmps88 (aaX results88) λS=>?_;conv=>whnf
 repeat'(first|refine awz ?_|(refine⟨l.length,by simp,by simp,(show 32*l.length<=_ by omega),aa,?_⟩;conv=>whnf)|fail)
 refine XA (λk:Nat=>k<=l.length) (7::[4,8,9,10,11,12,13,14,15,16,17,18,19,20,21]) (λk=>[(3,.one (.own 7)),(4,vI .i64 (k:Int))]) (λk=>[(9997,cS S.w0.heap.size S.w0.heap.size),(7,.row 225 4 (cpG DGot.ds [dI 0,dI 0,dI 0,dI 0] l k))]) (λk=>l.length-k) 0 aa ?_ (Xu rfl (Xu (congrArg some (congrArg (AO.row 225 4) (jl DGot.ds [dI 0,dI 0,dI 0,dI 0] l).symm)) Xv)) (λk hR=>?_)<;>(conv=>whnf)
 ·exact whd
 ·repeat'((first|refine awz ?_|refine XI ari (λhlt=>?_)|refine Xt (Ti _) rfl ?_|refine Xw k _ rfl (gx DGot.ds [dI 0,dI 0,dI 0,dI 0] l k hlt) ?_|refine Xz ari ari ?_|refine tB ?_ ?_|intro h)<;>conv=>whnf)
  ·refine aT.mk ⟨k+1,hlt,aa,?_,Xu rfl (Xu (congrArg some (congrArg (AO.row 225 4) (kL DGot.ds [dI 0,dI 0,dI 0,dI 0] l k hlt))) Xv)⟩;exact hds
  ·have:k=l.length:=ari;subst this;exact⟨_,_,l.map DGot.ds,Nat.le_refl _,by rw[fk];exact XD (lo:=S.w0.heap.size) (hi:=S.w0.heap.size) (by simp[AD.isBl,DGot.ds]),by rw[fk],(λy hy=>by obtain⟨a,_,rfl⟩:=mem_map.1 hy;rfl),rfl⟩
theorem Eu(x:DClient)(hs:XU 1048576 x):cg av 24 [.agg x.ds] (.agg x.ds):=by
 refine cu aM func24 rfl call24 ntmps24 (aaX results24) λS=>?_;conv=>whnf
 repeat'((first|refine awz ?_|refine XC (PD x.todo hs.1) rfl rfl λR1 l1 h1 a1 b1 F1=>?_|refine XC (RC x.gots hs.2) rfl rfl λR2 l2 h2 a2 b2 F2=>?_|fail)<;>conv=>whnf)
 exact⟨_,_,_,(by omega:S.w0.heap.size<=S.w0.heap.size),(Fam.app (Fam.app (Fam.app (XD (lo:=S.w0.heap.size) (hi:=S.w0.heap.size) (ds:=[dI x.id]) rfl) F1 aa aa aa) F2 aa aa aa) (XD (lo:=h2) (hi:=h2) (ds:=[dI x.last]) rfl) aa aa aa),rfl⟩
theorem Tk(x:DMsg)(hs:X4 1048576 x):cg av 171 [.agg x.ds] (.agg x.ds):=by
 refine cu aM func171 rfl call171 ntmps171 (aaX results171) λS=>?_;conv=>whnf
 repeat'(first|refine awz ?_|(refine XC (sg x.row hs) rfl rfl λR1 l1 h1 a1 b1 F1=>?_;conv=>whnf)|fail)
 exact⟨_,_,_,(by omega:S.w0.heap.size<=S.w0.heap.size),(Fam.app (XD (lo:=S.w0.heap.size) (hi:=S.w0.heap.size) (ds:=[dI x.frm,dI x.to_]) rfl) F1 aa aa aa),rfl⟩
theorem RH(l:(List DMsg))(hs:l.length<=1048576/\∀y∈l,X4 1048576 y):cg av 89 [.one (.sl (l.map DMsg.ds))] (.one (.sl (l.map DMsg.ds))):=by
 have hl:l.length<=1048576:=hs.1;refine cu aM func89 rfl call89 ntmps89 (aaX results89) λS=>?_;conv=>whnf
 repeat'(first|refine awz ?_|(refine⟨l.length,by simp,by simp,(show 40*l.length<=_ by omega),aa,?_⟩;conv=>whnf)|fail)
 refine XA (λg:Nat×Nat×List (List AD)=>g.1<=l.length/\g.2.2.length=g.1/\S.w0.heap.size<=g.2.1/\Fam S.w0.heap.size g.2.1 g.2.2.flatten ((l.take g.1).map DMsg.ds).flatten) (7::[4,8,9,10,11,12,13,14,15,16,17,18,19,20,21]) (λg=>[(3,.one (.own 7)),(4,vI .i64 (g.1:Int))]) (λg=>[(9997,cS S.w0.heap.size g.2.1),(7,.row 227 3 (g.2.2++List.replicate (l.length-g.1) [dI 0,dI 0,.sl []]))]) (λg=>l.length-g.1) (0,S.w0.heap.size,[]) ⟨Nat.zero_le _,rfl,Nat.le_refl _,XD rfl⟩ ?_ sbW (λg hR=>?_)<;>(conv=>whnf)
 ·exact whd
 ·obtain⟨k,m,cs⟩:=g;obtain⟨hk,hcs,hm,hF⟩:=hR;simp only at hk hcs hm hF;repeat'((first|refine awz ?_|refine XI ari (λhlt=>?_)|refine XC (Tk _ (hs.2 _ (List.getElem_mem hlt))) rfl rfl λR lo hi a1 a2 F=>?_|refine Xw k _ rfl (QC _ hcs ari) ?_|refine Xz ari ari ?_|refine tB ?_ ?_|intro h)<;>conv=>whnf)
  ·have a1:m<=lo:=a1;refine aT.mk ⟨(k+1,hi,cs++[cW R 0 (DMsg.ds l[k])]),⟨by simp only;omega,by simp[hcs],by simp only;omega,?_⟩,by simp only;omega,?_,Xu rfl (Xu (congrArg some (congrArg (AO.row 227 3) (Mm _ hcs aa))) Xv)⟩
   ·simp only;rw[eE DMsg.ds aa];exact hF.flat_set F aa aa aa
   ·exact hds
  ·have:k=l.length:=ari;subst this;refine⟨_,m,l.map DMsg.ds,Nat.le_refl _,?_,by simp[hcs],(λy hy=>by obtain⟨a,_,rfl⟩:=mem_map.1 hy;rfl),rfl⟩;simp only[Nat.sub_self,List.replicate_zero,append_nil];rw[List.take_length]at hF;exact hF
theorem RF(x:DLink):aL av 172 [.agg x.ds] (.val (.agg x.ds)):=by
 refine pO func172 call172 ntmps172 results172 λS=>?_;conv=>whnf
 repeat'(first|refine awz ?_|fail)
 all_goals rfl
theorem Pz(l:(List DLink))(hs:l.length<=1048576):cg av 90 [.one (.sl (l.map DLink.ds))] (.one (.sl (l.map DLink.ds))):=by
 have hl:l.length<=1048576:=hs;refine cu aM func90 rfl call90 ntmps90 (aaX results90) λS=>?_;conv=>whnf
 repeat'(first|refine awz ?_|(refine⟨l.length,by simp,by simp,(show 16*l.length<=_ by omega),aa,?_⟩;conv=>whnf)|fail)
 refine XA (λk:Nat=>k<=l.length) (7::[4,8,9,10,11,12,13,14,15,16,17,18,19,20,21]) (λk=>[(3,.one (.own 7)),(4,vI .i64 (k:Int))]) (λk=>[(9997,cS S.w0.heap.size S.w0.heap.size),(7,.row 229 2 (cpG DLink.ds [dI 0,dI 0] l k))]) (λk=>l.length-k) 0 aa ?_ (Xu rfl (Xu (congrArg some (congrArg (AO.row 229 2) (jl DLink.ds [dI 0,dI 0] l).symm)) Xv)) (λk hR=>?_)<;>(conv=>whnf)
 ·exact whd
 ·repeat'((first|refine awz ?_|refine XI ari (λhlt=>?_)|refine Xt (RF _) rfl ?_|refine Xw k _ rfl (gx DLink.ds [dI 0,dI 0] l k hlt) ?_|refine Xz ari ari ?_|refine tB ?_ ?_|intro h)<;>conv=>whnf)
  ·refine aT.mk ⟨k+1,hlt,aa,?_,Xu rfl (Xu (congrArg some (congrArg (AO.row 229 2) (kL DLink.ds [dI 0,dI 0] l k hlt))) Xv)⟩;exact hds
  ·have:k=l.length:=ari;subst this;exact⟨_,_,l.map DLink.ds,Nat.le_refl _,by rw[fk];exact XD (lo:=S.w0.heap.size) (hi:=S.w0.heap.size) (by simp[AD.isBl,DLink.ds]),by rw[fk],(λy hy=>by obtain⟨a,_,rfl⟩:=mem_map.1 hy;rfl),rfl⟩
theorem Tl(x:DNet)(hs:Yf 1048576 x):cg av 25 [.agg x.ds] (.agg x.ds):=by
 refine cu aM func25 rfl call25 ntmps25 (aaX results25) λS=>?_;conv=>whnf
 repeat'((first|refine awz ?_|refine XC (RH x.flight ⟨hs.1,hs.2.1⟩) rfl rfl λR1 l1 h1 a1 b1 F1=>?_|refine XC (Pz x.cuts hs.2.2) rfl rfl λR2 l2 h2 a2 b2 F2=>?_|fail)<;>conv=>whnf)
 exact⟨_,_,_,(by omega:S.w0.heap.size<=l1),(Fam.app F1 F2 aa aa aa),rfl⟩
theorem Pw(l:(List Bool))(hs:l.length<=1048576):cg av 27 [.one (.sl (l.map eB))] (.one (.sl (l.map eB))):=by
 have hl:l.length<=1048576:=hs;refine cu aM func27 rfl call27 ntmps27 (aaX results27) λS=>?_;conv=>whnf
 repeat'(first|refine awz ?_|(refine⟨l.length,by simp,by simp,(show 1*l.length<=_ by omega),aa,?_⟩;conv=>whnf)|fail)
 refine XA (λk:Nat=>k<=l.length) (7::[4,8,9,10,11,12,13,14,15,16,17,18,19,20]) (λk=>[(3,.one (.own 7)),(4,vI .i64 (k:Int))]) (λk=>[(9997,cS S.w0.heap.size S.w0.heap.size),(7,.row 4 1 (cpG eB [dB false] l k))]) (λk=>l.length-k) 0 aa ?_ (Xu rfl (Xu (congrArg some (congrArg (AO.row 4 1) (jl eB [dB false] l).symm)) Xv)) (λk hR=>?_)<;>(conv=>whnf)
 ·exact whd
 ·repeat'((first|refine awz ?_|refine XI ari (λhlt=>?_)|refine Xw k _ rfl (gx eB [dB false] l k hlt) ?_|refine Xz ari ari ?_|refine tB ?_ ?_|intro h)<;>conv=>whnf)
  ·refine aT.mk ⟨k+1,hlt,aa,?_,Xu rfl (Xu (congrArg some (congrArg (AO.row 4 1) (kL eB [dB false] l k hlt))) Xv)⟩;exact hds
  ·have:k=l.length:=ari;subst this;exact⟨_,_,l.map eB,Nat.le_refl _,by rw[fk];exact XD (lo:=S.w0.heap.size) (hi:=S.w0.heap.size) (by simp[AD.isBl,eB]),by rw[fk],(λy hy=>by obtain⟨a,_,rfl⟩:=mem_map.1 hy;rfl),rfl⟩
theorem Hc(x:DWorld)(hs:XO 1048576 x):cg av 6 [.agg x.ds] (.agg x.ds):=by
 refine cu aM func6 rfl call6 ntmps6 (aaX results6) λS=>?_;conv=>whnf
 repeat'((first|refine awz ?_|refine XC (Ls x.log hs.1) rfl rfl λR1 l1 h1 a1 b1 F1=>?_|refine XC (PC x.store hs.2.1) rfl rfl λR2 l2 h2 a2 b2 F2=>?_|refine XC (Hb x.left hs.2.2.1) rfl rfl λR3 l3 h3 a3 b3 F3=>?_|refine XC (Hb x.right hs.2.2.2.1) rfl rfl λR4 l4 h4 a4 b4 F4=>?_|refine XC (Eu x.ann hs.2.2.2.2.1) rfl rfl λR5 l5 h5 a5 b5 F5=>?_|refine XC (Eu x.bob hs.2.2.2.2.2.1) rfl rfl λR6 l6 h6 a6 b6 F6=>?_|refine XC (Tl x.net hs.2.2.2.2.2.2.1) rfl rfl λR7 l7 h7 a7 b7 F7=>?_|refine XC (sg x.clocks hs.2.2.2.2.2.2.2.1) rfl rfl λR8 l8 h8 a8 b8 F8=>?_|refine XC (Pw x.up hs.2.2.2.2.2.2.2.2) rfl rfl λR9 l9 h9 a9 b9 F9=>?_|fail)<;>conv=>whnf)
 exact⟨_,_,_,(by omega:S.w0.heap.size<=l1),(Fam.app (Fam.app (Fam.app (Fam.app (Fam.app (Fam.app (Fam.app (Fam.app F1 F2 aa aa aa) F3 aa aa aa) F4 aa aa aa) F5 aa aa aa) F6 aa aa aa) F7 aa aa aa) F8 aa aa aa) F9 aa aa aa),rfl⟩
theorem v5(x:DWorld)(hs:XO 1048576 x):aL av 6 [.agg x.ds] (.val (.agg x.ds)):=(Hc x hs).pcall
end
section
section
open Go.Proofs.Tryz
open Go.RowKit
structure Xs (E:bz) (f:FuncId) (n j:Nat) (e:TypeId) (s:Nat) (xs xs':List (List AD)):Prop where
 enter:∀(us:Array Value) w,(callFunc f us).run E.P w= .ok (.enter f us) w
 run:∀(Z:Nat->Prop) (w:World) (v:Value) (us:List Value),(∀b,Z b->b<w.heap.size)->GZ E.W Z w->us.length=n->(∀u∈us,u.oneCell'=true)->us[j]? =some v->cX Z w (λ_=>v) 0 (.row e s xs)->(∀b,bZ v=some b->¬Z b)->
  Calls E.P f #[.agg us.toArray] w λen w'=>en= .returned (.agg us.toArray)/\tF (λb=>bZ v=some b) w w'/\cX Z w' (λ_=>v) 0 (.row e s xs')
section
variable {E:bz} {S:bR}
theorem SA{Z P:Nat->Prop}{w:World}{d:AD}{u:Value}(hb:d.isBl=true)(h:cf w P d u):ca Z w d u:=by
 cases h with
 |pv _ _ h1=>exact .pv _ h1
 |emp _ A cap hm=>exact .sl [] A cap 1 [] (Nat.zero_le _) hm rfl ah ah (.inl rfl) ah
 |sl _ xs e s us v Q hs hl hx hu hown hbk hQ hd h=>
  cases xs with
  |nil=>
   rcases hown.2 with⟨hv,_⟩|⟨g,cap,cur,hv,_,_,h1,h2,_⟩
   ·rw[hv];exact .sl [] none 0 0 [] (Nat.le_refl _) (Nat.zero_le _) rfl ah ah (.inl rfl) ah
   ·rw[hv];exact .sl [] _ cap 1 [] (Nat.zero_le _) h2 rfl ah ah (.inl rfl) ah
  |cons x r=>cases hb
theorem WS.widen{T:World->Prop}{S:bR}{Z Z':Nat->Prop}{w:World}{ρ:Nat->Value}{ob:List (Nat×AO)}(h:WS T S Z w ρ ob)(hz:∀b,Z b->Z' b)(hn:∀b,Z' b->Z b\/(b<w.heap.size/\S.w0.heap.size<=b/\(∀i o,bo ob i=some o->bZ (ρ i)≠some b)/\∀i P Q,bo ob i=some (.many P Q)->¬P b)):WS T S Z' w ρ ob:=by
 refine⟨h.os,h.tape,h.output,h.size,h.old,λb hb=>?_,λid o b ho hb=>⟨λhzb=>?_,(h.mine id o b ho hb).2⟩,h.sep,λid o ho=>(h.obj id o ho).mono hz (λ_ _=>rfl) λ_ _=>rfl,⟨λid P Q ho=>⟨λb hb=>?_,(h.many.ok id P Q ho).2⟩,h.many.sep⟩,?_,λb hb=>hz b (h.z0 b hb),λb hb=>?_⟩
 ·rcases hn b hb with hb|hb
  ·exact h.zlt b hb
  ·exact hb.1
 ·rcases hn b hzb with hb'|hb'
  ·exact(h.mine id o b ho hb).1 hb'
  ·exact hb'.2.2.1 id o ho hb
 ·obtain⟨h1,h2,h3,h4⟩:=(h.many.ok id P Q ho).1 b hb;refine⟨h1,λhzb=>?_,h3,h4⟩;rcases hn b hzb with hb'|hb'
  ·exact h2 hb'
  ·exact hb'.2.2.2 id P Q ho hb
 ·obtain⟨w1,g1,g2,g3⟩:=h.g;exact⟨w1,g1,g2,λb hb=>hz b (g3 b hb)⟩
 ·rcases hn b hb with hb|hb
  ·exact h.znew b hb
  ·exact .inr (.inl hb.2.1)
theorem Yc{c:Code}{K:Exit->ASt->Prop}{tm:List AV}{ob:List (Nat×AO)}(oid j id:Nat)(e:TypeId)(s:Nat)(hs:0<s)
  (h : v8 ⟨tm, ob⟩ id (.row e s []) fun st => aOb st.ob oid fun o => match o with
   | .cells t cs=>And (cs[j]? =some .nil) (fW oid (.cells t (cs.set j (.own id))) st.ob λob=>AWP E S c K ⟨st.tm,ob⟩)
   |_=>False):AWP E S c K ⟨tm,ob⟩:=by
 refine⟨λa w hw=>?_⟩;obtain⟨Z,ρ,hw⟩:=hw;have h1:=hw.renew id (.slice none 0 0) (.row e s []) (row:=none) (World.grownBy.refl w _) ah (λb hb=>by cases hb) ⟨[],hs,rfl,by simp,by simp,by simp[World.ownsRow],by simp⟩;have h:=gD h;obtain⟨o,ho,h⟩:=cm h;cases o with
 |cells t cs=>
  simp only at h;obtain⟨hj,h⟩:=h;have h:=dh h;obtain⟨b,us,hp,hg,hl,hc⟩:=(show cX Z w (λi=>if i=id then .slice none 0 0 else ρ i) oid (.cells t cs)from h1.ws.obj oid _ ho);refine h.run a w ⟨Z,_,h1.upd oid _ (.cells t (cs.set j (.own id))) (g:=b) ho (by show bZ ((λi=>if i=id then Value.slice none 0 0 else ρ i) oid)=some b;rw[hp];rfl) (World.grownBy.refl w _) ⟨b,us,hp,hg,by simpa using hl,λi c u hi hu=>?_⟩⟩;rw[List.getElem?_set]at hi;split at hi
  ·rename_i e;subst e;split at hi
   ·injection hi with hi
    subst hi;have:=hc j .nil u hj hu;have hu0:u= .slice none 0 0:=this;subst hu0;exact⟨by simp,rfl⟩
   ·cases hi
  ·exact hc i c u hi hu
 |_=>exact h.elim
end
end
section
open Go.Proofs.Tryz
open Go.RowKit
def Be(id:Nat)(xs:List (List AD)):AC->AC
 | .own i=>match Nat.beq i id with
  |true=> .d (.sl xs)
  |false=> .own i
 | .ref i k s off=>match Nat.beq i id with
  |true=> .dead
  |false=> .ref i k s off
 |c=>c
def OM(id:Nat)(xs:List (List AD)):AV->AV
 | .one c=> .one (Be id xs c)
 | .agg cs=> .agg (cs.map (Be id xs))
 | .tup _=> .one .dead
def Sg(id:Nat)(xs:List (List AD)):AO->AO
 | .cells t cs=> .cells t (cs.map (Be id xs))
 | .frame vs us=> .frame (vs.map (OM id xs)) us
 |o=>o
def uo(id:Nat)(xs:List (List AD)):List (Nat×AO)->List (Nat×AO)
 |[]=>[]
 |(i,o)::r=>match Nat.beq i id with
  |true=>uo id xs r
  |false=>(i,Sg id xs o)::uo id xs r
def IS(id:Nat)(xs:List (List AD))(c:AC)(K:AC->Prop):Prop:=
 match c with
 | .own i=>match Nat.beq i id with
  |true=>K (.d (.sl xs))
  |false=>K (.own i)
 | .ref i k s off=>match Nat.beq i id with
  |true=>K .dead
  |false=>K (.ref i k s off)
 |c=>K c
theorem Fh{id:Nat}{xs:List (List AD)}{c:AC}{K:AC->Prop}(h:IS id xs c K):K (Be id xs c):=by
 cases c with
 |own i=>simp only[IS]at h;simp only[Be];split at h<;>simp_all
 |ref i k s off=>simp only[IS]at h;simp only[Be];split at h<;>simp_all
 |_=>exact h
def Ho(id:Nat)(xs:List (List AD)):List AC->(List AC->Prop)->Prop
 |[],K=>K []
 |c::r,K=>IS id xs c λc=>Ho id xs r λr=>K (c::r)
theorem wT{id:Nat}{xs:List (List AD)}:∀{l:List AC} {K:List AC->Prop},Ho id xs l K->K (l.map (Be id xs))
 |[],_,h=>h
 |c::r,K,h=>wT (l:=r) (K:=λr'=>K (Be id xs c::r')) (Fh h)
def Tq(id:Nat)(xs:List (List AD))(x:AV)(K:AV->Prop):Prop:=
 match x with
 | .one c=>IS id xs c λc=>K (.one c)
 | .agg cs=>Ho id xs cs λcs=>K (.agg cs)
 | .tup _=>K (.one .dead)
theorem Od{id:Nat}{xs:List (List AD)}{x:AV}{K:AV->Prop}(h:Tq id xs x K):K (OM id xs x):=by
 cases x with
 |one c=>exact Fh (K:=λc=>K (.one c)) h
 |agg cs=>exact wT (K:=λcs=>K (.agg cs)) h
 |tup vs=>exact h
def zE(id:Nat)(xs:List (List AD)):List AV->(List AV->Prop)->Prop
 |[],K=>K []
 |x::r,K=>Tq id xs x λx=>zE id xs r λr=>K (x::r)
theorem nD{id:Nat}{xs:List (List AD)}:∀{l:List AV} {K:List AV->Prop},zE id xs l K->K (l.map (OM id xs))
 |[],_,h=>h
 |x::r,K,h=>nD (l:=r) (K:=λr'=>K (OM id xs x::r')) (Od h)
def iK(id:Nat)(xs:List (List AD)):List (Nat×AO)->(List (Nat×AO)->Prop)->Prop
 |[],K=>K []
 |(i,.cells t cs)::r,K=>match Nat.beq i id with
  |true=>iK id xs r K
  |false=>Ho id xs cs λcs=>iK id xs r λr=>K ((i,.cells t cs)::r)
 |(i,.row e s ys)::r,K=>match Nat.beq i id with
  |true=>iK id xs r K
  |false=>iK id xs r λr=>K ((i,.row e s ys)::r)
 |(i,.frame vs us)::r,K=>match Nat.beq i id with
  |true=>iK id xs r K
  |false=>zE id xs vs λvs=>iK id xs r λr=>K ((i,.frame vs us)::r)
 |(i,.any Q)::r,K=>match Nat.beq i id with
  |true=>iK id xs r K
  |false=>iK id xs r λr=>K ((i,.any Q)::r)
 |(i,.many P Q)::r,K=>match Nat.beq i id with
  |true=>iK id xs r K
  |false=>iK id xs r λr=>K ((i,.many P Q)::r)
theorem fY{id:Nat}{xs:List (List AD)}:∀{l:List (Nat×AO)} {K:List (Nat×AO)->Prop},iK id xs l K->K (uo id xs l)
 |[],_,h=>h
 |(i,.cells t cs)::r,K,h=>by
  simp only[iK]at h;simp only[uo];split at h
  ·exact fY h
  ·exact fY (l:=r) (K:=λr'=>K ((i,.cells t (cs.map (Be id xs)))::r')) (wT (K:=λcs=>iK id xs r λr=>K ((i,.cells t cs)::r)) h)
 |(i,.row e s ys)::r,K,h=>by
  simp only[iK]at h;simp only[uo];split at h
  ·exact fY h
  ·exact fY (l:=r) (K:=λr'=>K ((i,.row e s ys)::r')) h
 |(i,.frame vs us)::r,K,h=>by
  simp only[iK]at h;simp only[uo];split at h
  ·exact fY h
  ·exact fY (l:=r) (K:=λr'=>K ((i,.frame (vs.map (OM id xs)) us)::r')) (nD (K:=λvs=>iK id xs r λr=>K ((i,.frame vs us)::r)) h)
 |(i,.any Q)::r,K,h=>by
  simp only[iK]at h;simp only[uo];split at h
  ·exact fY h
  ·exact fY (l:=r) (K:=λr'=>K ((i,.any Q)::r')) h
 |(i,.many P Q)::r,K,h=>by
  simp only[iK]at h;simp only[uo];split at h
  ·exact fY h
  ·exact fY (l:=r) (K:=λr'=>K ((i,.many P Q)::r')) h
theorem iR{id:Nat}{xs:List (List AD)}:∀{ob:List (Nat×AO)} {j:Nat} {o:AO},bo (uo id xs ob) j=some o->j≠id/\∃o0,bo ob j=some o0/\o=Sg id xs o0
 |[],_,_,h=>by cases h
 |(i,o1)::r,j,o,h=>by
  simp only[uo]at h;cases hb:Nat.beq i id with
  |true=>
   rw[hb]at h;obtain⟨h1,o0,h2,h3⟩:=iR h;refine⟨h1,o0,?_,h3⟩;have:i≠j:=λe=>h1 (e▸Nat.eq_of_beq_eq_true hb);simp only[bo];rw[if_neg this];exact h2
  |false=>
   rw[hb]at h;simp only[bo]at h⊢;split at h
   ·rename_i e;injection h with h
    subst e;exact⟨Nat.ne_of_beq_eq_false hb,o1,by rw[if_pos rfl],h.symm⟩
   ·rename_i e;obtain⟨h1,o0,h2,h3⟩:=iR h;exact⟨h1,o0,by rw[if_neg e];exact h2,h3⟩
section
variable {T:World->Prop} {S:bR} {Z:Nat->Prop} {w:World} {ρ:Nat->Value} {ob:List (Nat×AO)}
def BL(Z:Nat->Prop)(ρ:Nat->Value)(id:Nat)(b:Nat):Prop:=Z b\/bZ (ρ id)=some b
theorem Re{e:TypeId}{s id:Nat}{xs:List (List AD)}(h:cX Z w ρ id (.row e s xs)):ca (BL Z ρ id) w (.sl xs) (ρ id):=by
 obtain⟨us,h0,hl,hxs,hus,hown,hd⟩:=h;have up:∀{d:AD} {v:Value},ca Z w d v->ca (BL Z ρ id) w d v:=λhd=>hd.mono (λb hb=> .inl hb) λ_ _=>rfl;rcases hown.2 with⟨hv,hn⟩|⟨g,cap,cur,hv,_,hg,h1,h2,h3,h4⟩
 ·have:xs=[]:=List.eq_nil_of_length_eq_zero hn;subst this;rw[hv];exact .sl [] none 0 0 [] (Nat.le_refl _) (Nat.zero_le _) rfl ah ah (.inl rfl) ah
 ·rw[hv];refine .sl xs _ cap s us h1 h2 hl hxs hus (.inr ⟨g,0,rfl,.inr (by rw[hv];rfl),λi u hu=>?_⟩) λi j x u a b e1 e2 e3 e4=>up (hd i j x u a b e1 e2 e3 e4);rw[Nat.zero_add];exact mP hown (by rw[hv];rfl) hu
theorem CL{e:TypeId}{s id:Nat}{xs:List (List AD)}(hr:cX Z w ρ id (.row e s xs)){c:AC}{v:Value}(h:dN Z w ρ c v):dN (BL Z ρ id) w ρ (Be id xs c) v:=by
 have up:∀b,Z b->BL Z ρ id b:=λb hb=> .inl hb;cases c with
 |own i=>
  simp only[Be];split
  ·rename_i hb;have hi:=Nat.eq_of_beq_eq_true hb;subst hi;have hv:v=ρ i:=h.1;subst hv;exact Re hr
  ·exact h
 |ref i k s off=>
  simp only[Be];split
  ·trivial
  ·exact h
 |d x=>exact dN.mono up (λ_ _=>rfl) (c:= .d x) h
 |ptr cs=>exact dN.mono up (λ_ _=>rfl) (c:= .ptr cs) h
 |dead=>trivial
 |und=>exact h
 |nil=>exact h
theorem uq{e:TypeId}{s id:Nat}{xs:List (List AD)}(hr:cX Z w ρ id (.row e s xs)){x:AV}{v:Value}(h:cn Z w ρ x v):cn (BL Z ρ id) w ρ (OM id xs x) v:=by
 cases h with
 |one c v h=>exact .one _ _ (CL hr h)
 |agg cs us hl h=>
  refine .agg _ us (by simp[hl]) λi c u hc hu=>?_;rw[getElem?_map]at hc;obtain⟨c0,h0,rfl⟩:=map_eq_some_iff.1 hc;exact CL hr (h i c0 u h0 hu)
 |tup vs us hl h=>exact .one _ _ trivial
theorem QB{e:TypeId}{s id j:Nat}{xs:List (List AD)}(hr:cX Z w ρ id (.row e s xs)){o:AO}(h:kg Z w ρ j o):kg (BL Z ρ id) w ρ j (Sg id xs o):=by
 have up:∀b,Z b->BL Z ρ id b:=λb hb=> .inl hb;cases o with
 |cells t cs=>
  obtain⟨b,us,hp,hg,hl,hc⟩:=(show cX Z w ρ j (.cells t cs)from h);show cX _ w ρ j (.cells t _);refine⟨b,us,hp,hg,by simp[hl],λi c u h1 h2=>?_⟩;rw[getElem?_map]at h1;obtain⟨c0,h0,rfl⟩:=map_eq_some_iff.1 h1;exact CL hr (hc i c0 u h0 h2)
 |frame vs us=>
  obtain⟨h1,hl,h⟩:=(show cX Z w ρ j (.frame vs us)from h);show cX _ w ρ j (.frame _ us);refine⟨h1,by simp[hl],λi x u hx hu=>?_⟩;rw[getElem?_map]at hx;obtain⟨x0,h0,rfl⟩:=map_eq_some_iff.1 hx;exact uq hr (h i x0 u h0 hu)
 |row e2 s2 ys=>exact kg.mono up (λ_ _=>rfl) (λ_ _=>rfl) (o:= .row e2 s2 ys) h
 |any Q=>exact kg.mono up (λ_ _=>rfl) (λ_ _=>rfl) (o:= .any Q) h
 |many P Q=>exact h
theorem za{id:Nat}{xs:List (List AD)}{o:AO}{P:Nat->Prop}{Q:World->Prop}(h:AO.many P Q=Sg id xs o):o= .many P Q:=by
 cases o<;>first|exact h.symm|cases h
theorem WS.freeze(h:WS T S Z w ρ ob){id s:Nat}{e:TypeId}{xs:List (List AD)}(ho:bo ob id=some (.row e s xs)):WS T S (BL Z ρ id) w ρ (uo id xs ob):=by
 have hr:cX Z w ρ id (.row e s xs):=h.obj id _ ho;refine⟨h.os,h.tape,h.output,h.size,h.old,?_,λj o b hj hb=>?_,λi j oi oj b hi hj hij hbi hbj=>?_,λj o hj=>?_,⟨λj P Q hj=>?_,λi j P Q P' Q' hi hj hij=>?_⟩,?_,λb hb=> .inl (h.z0 b hb),?_⟩
 ·rintro b (hb|hb)
  ·exact h.zlt b hb
  ·exact h.lt ho hb
 ·obtain⟨hne,o0,h0,_⟩:=iR hj;obtain⟨h1,h2⟩:=h.mine j o0 b h0 hb;refine⟨?_,h2⟩;rintro(hz|hz)
  ·exact h1 hz
  ·exact h.sep j id o0 _ b h0 ho hne hb hz
 ·obtain⟨_,o0,h0,_⟩:=iR hi;obtain⟨_,o1,h1,_⟩:=iR hj;exact h.sep i j o0 o1 b h0 h1 hij hbi hbj
 ·obtain⟨_,o0,h0,rfl⟩:=iR hj;exact QB hr (h.obj j o0 h0)
 ·obtain⟨_,o0,h0,e0⟩:=iR hj;have:=za e0;subst this;obtain⟨h1,h2⟩:=h.many.ok j P Q h0;refine⟨λb hb=>⟨(h1 b hb).1,?_,(h1 b hb).2.2.1,λi o hi=>?_⟩,h2⟩
  ·rintro(hz|hz)
   ·exact(h1 b hb).2.1 hz
   ·exact(h1 b hb).2.2.2 id _ ho hz
  ·obtain⟨_,o1,h3,_⟩:=iR hi;exact(h1 b hb).2.2.2 i o1 h3
 ·obtain⟨_,o0,h0,e0⟩:=iR hi;obtain⟨_,o1,h1,e1⟩:=iR hj;have:=za e0;subst this;have:=za e1;subst this;exact h.many.sep i j P Q P' Q' h0 h1 hij
 ·obtain⟨w1,g1,g2,g3⟩:=h.g;exact⟨w1,g1,g2,λb hb=> .inl (g3 b hb)⟩
 ·rintro b (hb|hb)
  ·exact h.znew b hb
  ·exact .inr (h.mine id _ b ho hb).2
end
theorem AWP.freeze{E:bz}{S:bR}{c:Code}{K:Exit->ASt->Prop}{tm:List AV}{ob:List (Nat×AO)}(id:Nat)(e:TypeId)(s:Nat)(xs:List (List AD))(ho:aOb ob id λo=>o= .row e s xs)
  (h:zE id xs tm λtm=>iK id xs ob λob=>AWP E S c K ⟨tm,ob⟩):AWP E S c K ⟨tm,ob⟩:=by
 obtain⟨o,hob,rfl⟩:=cm ho;have h:=fY (K:=λob=>AWP E S c K ⟨_,ob⟩) (nD (K:=λtm=>iK id xs ob λob=>AWP E S c K ⟨tm,ob⟩) h);refine⟨λa w hs=>h.run a w ?_⟩;obtain⟨Z,ρ,hs⟩:=hs;have hr:cX Z w ρ id (.row e s xs):=hs.ws.obj id _ hob;refine⟨BL Z ρ id,ρ,hs.ws.freeze hob,by simp[hs.len],λi x v hx hv=>?_,hs.df⟩;simp only[getElem?_map]at hx;obtain⟨x0,h0,rfl⟩:=map_eq_some_iff.1 hx;exact uq hr (hs.tm i x0 v h0 hv)
end
section
open Go.Proofs.Tryz
open Go.RowKit
theorem aG.freeze{E:bz}{S:bR}{f:FuncId}{args:List AV}{tm:List AV}{ob:List (Nat×AO)}{K:AV->ASt->Prop}(id:Nat)(e:TypeId)(s:Nat)(xs:List (List AD))(ho:aOb ob id λo=>o= .row e s xs)
  (h:zE id xs tm λtm=>zE id xs args λargs=>iK id xs ob λob=>aG E S f args ⟨tm,ob⟩ K):aG E S f args ⟨tm,ob⟩ K:=by
 obtain⟨o,hob,rfl⟩:=cm ho;have h1:=nD (K:=λtm=>zE id xs args λargs=>iK id xs ob λob=>aG E S f args ⟨tm,ob⟩ K) h;have h2:=nD (K:=λargs=>iK id xs ob λob=>aG E S f args ⟨_,ob⟩ K) h1;have h3:=fY (K:=λob=>aG E S f _ ⟨_,ob⟩ K) h2;refine⟨h3.enter,λZ ρ a w us hs hl hr=>?_⟩;have hrel:cX Z w ρ id (.row e s xs):=hs.ws.obj id _ hob;refine h3.run (BL Z ρ id) ρ a w us ⟨hs.ws.freeze hob,by simp[hs.len],λi x v hx hv=>?_,hs.df⟩ (by simp[hl]) λi x u hx hu=>?_
 ·simp only[getElem?_map]at hx;obtain⟨x0,h0,rfl⟩:=map_eq_some_iff.1 hx;exact uq hrel (hs.tm i x0 v h0 hv)
 ·simp only[getElem?_map]at hx;obtain⟨x0,h0,rfl⟩:=map_eq_some_iff.1 hx;exact uq hrel (hr i x0 u h0 hu)
end
section
open Go.Proofs.Tryz
open Go.RowKit
def AD.flat:AD->Bool
 | .pv _=>true
 | .sl []=>true
 |_=>false
def AP1.flat:AP1->Bool
 | .one d=>d.flat
 | .agg ds=>ds.all AD.flat
def AP.flat:AP->Bool
 | .val p=>p.flat
 | .tup ps=>ps.all AP1.flat
theorem ca.flat{d:AD}(hs:d.flat=true){Z Z':Nat->Prop}{w w':World}{v:Value}(h:ca Z w d v):ca Z' w' d v:=by
 cases d with
 |pv u=>cases h with|pv _ h1=>exact .pv _ h1
 |x R=>cases hs
 |sl xs=>
  cases xs with
  |cons a b=>cases hs
  |nil=>
   cases h with
   |sl _ A cap s us hc hm hl hx hu hr h=>
    have e:us=[]:=List.length_eq_zero_iff.1 hl;subst e;exact .sl [] A cap s [] hc hm rfl hx hu (.inl rfl) λi j x u a b h1=>by simp at h1
theorem fw.flat{p:AP1}(hs:p.flat=true){Z Z':Nat->Prop}{w w':World}{v:Value}(h:fw Z w p v):fw Z' w' p v:=by
 cases p with
 |one d=>exact ca.flat hs h
 |agg ds=>
  obtain⟨us,e,hl,hr⟩:=h;exact⟨us,e,hl,λi d u h1 h2=>ca.flat (List.all_eq_true.1 hs d (mem_of_getElem? h1)) (hr i d u h1 h2)⟩
theorem yU.flat{p:AP}(hs:p.flat=true){Z Z':Nat->Prop}{w w':World}{v:Value}(h:yU Z w p v):yU Z' w' p v:=by
 cases p with
 |val p=>exact fw.flat hs h
 |tup ps=>
  obtain⟨us,rfl,hl,hr⟩:=h;refine⟨us,rfl,hl,λi p u h1 h2=>?_⟩;exact fw.flat (List.all_eq_true.1 hs p (mem_of_getElem? h1)) (hr i p u h1 h2)
theorem Z3{E:bz}{S:bR}{st:ASt}{f:FuncId}{args:List AV}{K:AV->ASt->Prop}{ps:List AP1}{res:AP}(hc:aL E f ps res)(hps:aRs st.ob args (· =ps))(hsc:res.flat=true)(hk:K res.v st):aG E S f args st K:=by
 refine⟨hc.enter,λZ ρ a w us hs hl hr=>?_⟩;obtain⟨ps',h1,h2,rfl⟩:=gE hs.ws hl hr hps;refine(hc.run (gU Z ρ st.ob) w us (gU.lt hs.ws) ?_ h1 h2).mono ?_
 ·obtain⟨w1,g1,g2,g3⟩:=hs.ws.g;exact⟨w1,g1,g2,λb hb=> .inl (g3 b hb)⟩
 ·rintro e w' ⟨v,Z',rfl,hb,hz,hz2,hv⟩;exact⟨v,res.v,st,Z,ρ,rfl,hs.grow (dO hb) (λ_ h=>h) (λ_ h=> .inl h),(hv.flat hsc).v,hk⟩
end
section
open Go.Proofs.Tryz
open Go.RowKit
def Un(id:Nat)(e:TypeId)(s:Nat)(xs:List (List AD))(st:ASt)(K:ASt->Prop):Prop:=
 (aOb st.ob id λo=>o= .row e s xs)/\zE id xs st.tm λtm=>iK id xs st.ob λob=>K ⟨tm,ob⟩
theorem QA{E:bz}{S:bR}{id:Nat}{e:TypeId}{s:Nat}{xs:List (List AD)}{st:ASt}{K:ASt->Prop}{a:Act}{w:World}(hs:eS E.W S st a w)(hk:Un id e s xs st K):∃st',eS E.W S st' a w/\K st':=by
 obtain⟨tm,ob⟩:=st;obtain⟨ho,h⟩:=hk;obtain⟨o,hob,rfl⟩:=cm ho;have h:=fY (K:=λob=>K ⟨_,ob⟩) (nD (K:=λtm=>iK id xs ob λob=>K ⟨tm,ob⟩) h);refine⟨_,?_,h⟩;obtain⟨Z,ρ,hs⟩:=hs;have hr:cX Z w ρ id (.row e s xs):=hs.ws.obj id _ hob;refine⟨BL Z ρ id,ρ,hs.ws.freeze hob,by simp[hs.len],λi x v hx hv=>?_,hs.df⟩;simp only[getElem?_map]at hx;obtain⟨x0,h0,rfl⟩:=map_eq_some_iff.1 hx;exact uq hr (hs.tm i x0 v h0 hv)
def Nt(E:bz)(S:bR)(all:List Oper)(id:Nat)(e:TypeId)(s:Nat)(xs:List (List AD)):Nat->List Oper->ASt->(ASt->Prop)->Prop
 |0,ops,st,K=>Un id e s xs st λst=>sM E S all ops st K
 |_+1,[],st,K=>K st
 |n+1,o::r,st,K=>wU all o st (λst=>aop E S o st λst=>Nt E S all id e s xs n r st K) (λst=>eA st o.dst (.one .und) λst=>Nt E S all id e s xs n r st K)
theorem tS{E:bz}{S:bR}{K:ASt->Prop}(he:E.Ok){all:List Oper}{id:Nat}{e:TypeId}{s:Nat}{xs:List (List AD)}{Q:Exit->Act->World->Prop}(hQ:∀a w,(∃st',eS E.W S st' a w/\K st')->Q .normal a w):
  ∀(n:Nat) (ops:List Oper) (st:ASt) (a:Act) (w:World),eS E.W S st a w->Nt E S all id e s xs n ops st K->wpList E.P all.toArray Q ops a w
 |0,ops,st,a,w,h,hk=>by
  obtain⟨st',h1,h2⟩:=QA h hk;exact nX he hQ ops st' a w h1 h2
 |n+1,[],st,a,w,h,hk=>hQ a w ⟨st,h,hk⟩
 |n+1,o::r,st,a,w,⟨Z,ρ,h⟩,hk=>by
  unfold wpList;rcases jg h hk with⟨hw,st',hs,hk⟩|⟨hw,st',hs,hk⟩
  ·rw[if_pos hw];refine .inl (Oper.wp_mono (λa' w' h'=>?_) (nG he hs hk Q));obtain⟨st2,h2,hk2⟩:=h';exact tS he hQ n r st2 a' w' h2 hk2
  ·rw[if_neg (by simp[hw])];have:=hs.put o.dst (x:= .one .und) (v:=undef) (.one _ _ (show dN Z w ρ .und undef from rfl));exact tS he hQ n r _ _ w ⟨Z,ρ,this⟩ (eT hk)
theorem ZT{E:bz}{S:bR}{K:Exit->ASt->Prop}{st:ASt}(he:E.Ok)(n id:Nat)(e:TypeId)(s:Nat)(xs:List (List AD)){rid:Nat}{ops:Array Oper}(h:Nt E S ops.toList id e s xs n ops.toList st (K .normal)):AWP E S (.region rid ops false) K st:=by
 refine⟨λa w hs=>wp_region_list ?_⟩;have:=tS he (all:=ops.toList) (Q:=λe a' w'=>∃st',eS E.W S st' a' w'/\K e st') (λa w h=>h) n ops.toList st a w hs h;simpa using this
end
section
open Go.Proofs.Tryz
open Go.ChangeShapes Go.WideShapes Go.RowKit
theorem alW{xs:List (List AD)}{s:Nat}(h:∀x∈xs,x.length=s:=by first|(intro y hy;obtain⟨a,_,rfl⟩:=List.mem_map.1 hy;rfl)|(simp;done)):∀x∈xs,x.length=s:=h
theorem CI{n:Nat}{xs:List (List AD)}(h:∀x∈xs,x.all AD.isBl=true:=by(intro y hy;obtain⟨a,_,rfl⟩:=List.mem_map.1 hy;rfl)):Fam n n xs.flatten xs.flatten:=XD (nv h)
theorem rf(l:List Int)(hs:l.length<=1048576):cg av 184 [.one (.sl (l.map eI))] (.one (.sl (l.map eI))):=by
 refine cu aM func184 rfl call184 ntmps184 (aaX results184) λS=>?_;conv=>whnf
 repeat'((first|refine awz ?_|refine bc ak ?_|refine aY alW ?_|fail)<;>conv=>whnf)
 exact⟨_,_,l.map eI,Nat.le_refl _,CI (n:=S.w0.heap.size),rfl,alW,rfl⟩
theorem Ad(l:List DMark)(hs:l.length<=1048576):cg av 267 [.one (.sl (l.map DMark.ds))] (.one (.sl (l.map DMark.ds))):=by
 refine cu aM func267 rfl call267 ntmps267 (aaX results267) λS=>?_;conv=>whnf
 repeat'((first|refine awz ?_|refine bc ak ?_|refine aY alW ?_|fail)<;>conv=>whnf)
 exact⟨_,_,l.map DMark.ds,Nat.le_refl _,CI (n:=S.w0.heap.size),rfl,alW,rfl⟩
theorem HW(l:List DPair)(hs:l.length<=1048576):cg av 338 [.one (.sl (l.map DPair.ds))] (.one (.sl (l.map DPair.ds))):=by
 refine cu aM func338 rfl call338 ntmps338 (aaX results338) λS=>?_;conv=>whnf
 repeat'((first|refine awz ?_|refine bc ak ?_|refine aY alW ?_|fail)<;>conv=>whnf)
 exact⟨_,_,l.map DPair.ds,Nat.le_refl _,CI (n:=S.w0.heap.size),rfl,alW,rfl⟩
theorem JS(l:List DJob)(hs:l.length<=1048576):cg av 339 [.one (.sl (l.map DJob.ds))] (.one (.sl (l.map DJob.ds))):=by
 refine cu aM func339 rfl call339 ntmps339 (aaX results339) λS=>?_;conv=>whnf
 repeat'((first|refine awz ?_|refine bc ak ?_|refine aY alW ?_|fail)<;>conv=>whnf)
 exact⟨_,_,l.map DJob.ds,Nat.le_refl _,CI (n:=S.w0.heap.size),rfl,alW,rfl⟩
theorem vX(l:List Int)(hs:l.length<=1048576):cg av 74 [.one (.sl (l.map eI))] (.one (.sl (l.map eI))):=by
 refine cu aM func74 rfl call74 ntmps74 (aaX results74) λS=>?_;conv=>whnf
 repeat'((first|refine awz ?_|refine bc ak ?_|refine aY alW ?_|fail)<;>conv=>whnf)
 exact⟨_,_,l.map eI,Nat.le_refl _,CI (n:=S.w0.heap.size),rfl,alW,rfl⟩
end
section
open Go.Proofs.Tryz
open Go.RowKit
section
variable {E:bz} {S:bR}
theorem Yh{f:FuncId}{args:List AV}{tm:List AV}{ob:List (Nat×AO)}{K:AV->ASt->Prop}{ps:List AP1}(id s:Nat)(d1 d3:List AD)(xs:List (List AD))(hc:cg E f ps (.agg (d1++ .sl xs::d3)))(hps:aRs ob args (· =ps))
  (hne:xs≠ []) (hxs:∀x∈xs,x.length=s) (hbl:∀x∈xs,x.all AD.isBl=true)
  (hk:∀e,v8 ⟨tm,ob⟩ id (.row e s xs) (K (.agg (d1.map .d++ .own id::d3.map .d)))):aG E S f args ⟨tm,ob⟩ K:=by
 refine⟨hc.enter,λZ ρ a w us hs hl hr=>?_⟩;obtain⟨ps',h1,h2,rfl⟩:=gE hs.ws hl hr hps;refine(hc.run (gU Z ρ ob) w us (gU.lt hs.ws) ?_ h1 h2).mono ?_
 ·obtain⟨w1,g1,g2,g3⟩:=hs.ws.g;exact⟨w1,g1,g2,λb hb=> .inl (g3 b hb)⟩
 ·rintro en w' ⟨v,rfl,hb,us',rfl,lF,Q,q,eQ,rQ⟩;have hsz:=hb.size;have hgr:=dO hb;have hlen:us'.length=d1.length+(d3.length+1):=by rw[lF];simp
  have hjl:d1.length<us'.length:=aa;have ht:=rQ d1.length (.sl xs) us'[d1.length] ah (List.getElem?_eq_getElem hjl);generalize hv:us'[d1.length]=v at ht;have hv1:v.oneCell'=true:=ht.one;obtain⟨e,ur,hrow,hvb⟩:∃(e:TypeId) (ur:List (List Value)),(0<s/\ur.length=xs.length/\(∀u∈ur,u.length=s)/\w'.ownsRow 0 e s v xs.length ur.flatten/\∀(i:Nat) a u,xs.flatten[i]? =some a->ur.flatten[i]? =some u->∃P,cf w' P a u)/\∀b,bZ v=some b->Q d1.length b:=by
   cases ht with
   |emp=>exact absurd rfl hne
   |sl _ xs e s' ur v Qr hs hl hx hu hown hbk hQ hd h=>
    have:s'=s:=by
     cases xs with
     |nil=>exact absurd rfl hne
     |cons x r=>rw[<-hx x ah,hxs x ah]
    subst this;exact⟨e,ur,⟨hs,hl,hu,hown,λi a u ha hu=>⟨_,h i a u ha hu⟩⟩,λb hb=>(hbk b hb).1⟩
  obtain⟨h0,hul,hus,hown,hel⟩:=hrow;have rowRel:cX Z w' (λi=>if i=id then v else ρ i) id (.row e s xs):=by
   refine⟨ur,h0,hul,hxs,hus,by simpa using hown,λi j x u a b e1 e2 e3 e4=>?_⟩;have hj:j<s:=by rw[<-hxs x (mem_of_getElem? e1)];exact(List.getElem?_eq_some_iff.1 e3).1
   obtain⟨P,hP⟩:=hel (i*s+j) a b (by rw[dz hxs e1 hj];exact e3) (by rw[dz hus e2 hj];exact e4);exact SA (List.all_eq_true.1 (hbl x (mem_of_getElem? e1)) a (mem_of_getElem? e3)) hP
  have h1:=hs.renew id v (.row e s xs) hgr ah (λb hb=> .inr (q _ b (hvb b hb)).1) rowRel;let Z':Nat->Prop:=λb=>Z b\/(w.heap.size<=b/\b<w'.heap.size/\bZ v≠some b)
  have old:∀j o,j≠id->bo (eD (fh id ⟨tm,ob⟩).ob id (.row e s xs)) j=some o->∃o0,bo ob j=some o0/\o=ni id o0:=by
   intro j o hj ho;rw[ci,if_neg (λe=>hj e.symm)]at ho;simp only[fh,mc]at ho;obtain⟨o0,h0,h1⟩:=map_eq_some_iff.1 ho;exact⟨o0,h0,h1.symm⟩
  have h2:Sim E.W S Z' (λi=>if i=id then v else ρ i) ⟨(fh id ⟨tm,ob⟩).tm,eD (fh id ⟨tm,ob⟩).ob id (.row e s xs)⟩ a w':=by
   refine⟨h1.ws.widen (λb hb=> .inl hb) λb hb=>?_,h1.len,λi x y hx hy=>(h1.tm i x y hx hy).mono (λb hb=> .inl hb) λ_ _=>rfl,h1.df⟩;rcases hb with hb|⟨e1,e2,e3⟩
   ·exact .inl hb
   ·refine .inr ⟨e2,Nat.le_trans hs.ws.size e1,λi o ho hbi=>?_,λi P Q' ho hp=>?_⟩
    ·by_cases hi:i=id
     ·subst hi;simp only[if_true]at hbi;exact e3 hbi
     ·simp only[if_neg hi]at hbi;obtain⟨o0,h3,_⟩:=old i o hi ho;have:=hs.ws.lt h3 hbi;omega
    ·have hi:i≠id:=by
      rintro rfl;rw[ci,if_pos rfl]at ho;cases ho
     obtain⟨o0,h3,e4⟩:=old i _ hi ho;have h5:bo ob i=some (.many P Q'):=by rw[h3,rp e4.symm]
     have:=((hs.ws.many.ok i P Q' h5).1 b hp).1;omega
  have part:∀(i:Nat) (d:AD) u,(d1++ .sl xs::d3)[i]? =some d->i≠d1.length->us'[i]? =some u->ca Z' w' d u:=by
   intro i d u hd hi hu;exact(rQ i d u hd hu).relD λb hb=> .inr ⟨(q i b hb).1,(q i b hb).2,λe=>hi (eQ i d1.length b hb (hvb b e))⟩
  have g1:∀i,i<d1.length->(d1++ .sl xs::d3)[i]? =d1[i]? :=λi hi=>List.getElem?_append_left hi;have g3:∀i,(d1++ .sl xs::d3)[d1.length+1+i]? =d3[i]? :=λi=>by
   rw[List.getElem?_append_right aa,show d1.length+1+i-d1.length=i+1 by omega,List.getElem?_cons_succ]
  have hval:cn Z' w' (λi=>if i=id then v else ρ i) (.agg (d1.map .d++ .own id::d3.map .d)) (.agg us'.toArray):=by
   refine .agg _ us' (by simp[hlen]) λi c u hc hu=>?_;by_cases hi:i<d1.length
   ·rw[List.getElem?_append_left (by simpa using hi),getElem?_map]at hc;obtain⟨d,hd,rfl⟩:=map_eq_some_iff.1 hc;exact part i d u (by rw[g1 i hi];exact hd) aa hu
   ·rw[List.getElem?_append_right (by simpa using hi),List.length_map]at hc;by_cases hi2:i=d1.length
    ·subst hi2;rw[Nat.sub_self]at hc;simp at hc;subst hc;rw[List.getElem?_eq_getElem hjl,hv]at hu;injection hu with hu
     subst hu;exact⟨by simp,hv1⟩
    ·obtain⟨k,rfl⟩:∃k,i=d1.length+1+k:=⟨i-(d1.length+1),aa⟩;rw[show d1.length+1+k-d1.length=k+1 by omega,List.getElem?_cons_succ,getElem?_map]at hc;obtain⟨d,hd,rfl⟩:=map_eq_some_iff.1 hc;exact part _ d u (by rw[g3];exact hd) aa hu
  exact⟨_,_,_,Z',_,rfl,h2,hval,gD (hk e)⟩
end
end
section
open Go.Proofs.Tryz
open Go.ChangeShapes Go.WideShapes Go.RowKit
def mu:List (List Nat):=cz [0,1,0,3,0,324,6,7,8,33346,0x289207185103081,0xa2481c61440c204a28b]
def mv:List (List Nat):=cz [0,1,0,3,0,324,6,7,0,9,0,714,12,13,14,968,16,62530,0x49140f38d30b289207185103081,0x124503ce34c2ca2481c61440c2052493]
def jh:List (List Nat):=cz [0,1,2,0,4,197,387,0x7185103081187]
def pd:List (List Nat):=cz [0,1,0,3,0,324,6,7,0,9,0,714,12,13,0,15,0,1104,18,19,20,86920,22,87490,0x61759551349140f38d30b289207185103081,0x185d65544d24503ce34c2ca2481c61440c2058619]
theorem uW(x:DHead)(hs:XW 1048576 x):cg av 151 [.agg x.ds] (.agg x.ds):=by
 have h1:x.seen.length<=1048576:=hs;refine cZ aM func151 rfl call151 ntmps151 (aaX results151) λS=>?_;conv=>whnf
 repeat'((first|refine awz ?_|refine bc ak ?_|refine aY alW ?_|refine Yd bls ?_|fail)<;>conv=>whnf)
 exact⟨_,_,_,⟨Nat.le_refl S.w0.heap.size,trivial,trivial⟩,(XD (lo:=S.w0.heap.size) (hi:=S.w0.heap.size) (ds:=[dI x.num,dI x.base,dI x.time]) rfl),rfl⟩
theorem sB(x:DSched)(hs:XZ 1048576 x):cg av 71 [.agg x.ds] (.agg x.ds):=by
 have h1:x.view.jobs.opens.length<=1048576:=hs;refine cZ aM func71 rfl call71 ntmps71 (aaX results71) λS=>?_;conv=>whnf
 repeat'((first|refine awz ?_|refine bc ak ?_|refine aY alW ?_|refine Yd bls ?_|fail)<;>conv=>whnf)
 exact⟨_,_,_,⟨Nat.le_refl S.w0.heap.size,trivial,trivial⟩,(XD (lo:=S.w0.heap.size) (hi:=S.w0.heap.size) (ds:=[dI x.id,dI x.seq,dI x.view.jobs.index,dI x.view.jobs.time,dI x.view.jobs.holder,dI x.view.jobs.epoch,dI x.view.jobs.til,dB x.busy,dI x.op.kind,dI x.op.a,dI x.op.b,dI x.op.c,dI x.op.d,dI x.index]) rfl),rfl⟩
theorem qr(x:DClient)(hs:XU 1048576 x):cg av 72 [.agg x.ds] (.agg x.ds):=by
 obtain⟨h1,h2⟩:=(show x.todo.length<=1048576/\x.gots.length<=1048576 from hs);refine cZ aM func72 rfl call72 ntmps72 (aaX results72) λS=>?_;conv=>whnf
 repeat'((first|refine awz ?_|refine bc ak ?_|refine aY alW ?_|refine Yd bls ?_|fail)<;>conv=>whnf)
 exact⟨_,_,_,⟨Nat.le_refl S.w0.heap.size,trivial,trivial⟩,(XD (lo:=S.w0.heap.size) (hi:=S.w0.heap.size) (ds:=[dI x.id,dI x.last]) rfl),rfl⟩
theorem zy(x:DDisk)(hs:XV 1048576 x):cg av 152 [.agg x.ds] (.agg x.ds):=by
 obtain⟨h1,h2,h3,h4⟩:=(show x.kept.length<=1048576/\(∀y∈x.kept,y.length<=1048576)/\x.wait.length<=1048576/\(∀y∈x.wait,X0 1048576 y)from hs);refine cZ aM func152 rfl call152 ntmps152 (aaX results152) λS=>?_;conv=>whnf
 repeat'(first|refine awz ?_|fail)
 refine Yc 3 0 23 62 1 ae ?_;conv=>whnf
 repeat'(first|refine awz ?_|fail)
 refine XA (λg:Nat×Nat×List (List AD)=>g.1<=x.kept.length/\g.2.2.length=g.1/\S.w0.heap.size<=g.2.1/\Fam S.w0.heap.size g.2.1 g.2.2.flatten ((x.kept.take g.1).map bD).flatten) (4::rg 7 18) (λg=>[(4,vI .i64 (g.1:Int))]) (λg=>[(9997,cS S.w0.heap.size g.2.1),(1,.cells 69 (x.ds.map .d)),(2,.cells 69 [.nil,.nil]),(3,.cells 69 [.own 23,.nil]),(23,.row 62 1 g.2.2)]) (λg=>x.kept.length-g.1) (0,S.w0.heap.size,[]) ⟨Nat.zero_le _,rfl,Nat.le_refl _,XD rfl⟩ ?_ sbW (λg hR=>?_)<;>(conv=>whnf)
 ·exact whd
 ·obtain⟨k,m,cs⟩:=g;obtain⟨hk,hcs,hm,hF⟩:=hR;simp only at hk hcs hm hF;repeat'(first|refine awz ?_|refine tW ?_ ?_|(intro h;conv=>whnf))
  ·have hlt:k<x.kept.length:=ari;(refine XF aM 5 (tkc [0,2,3,4,5,6] (.two 1 (onc [7,8,9] (.take 10 (.one 11 .done))) 7 (.two 1 (.one 8 (.one 9 (.take 10 (.one 11 .done)))) 8 (.one 1 (.one 9 (.take 10 (.one 11 .done))))))) [(1,9980)] mu ac ac ac ac (λRz=>?_);(conv=>whnf);intro bp0 up0;(conv=>whnf))
   repeat'((first|refine awz ?_|refine XK hlt ?_|refine XC (vX _ (h2 _ (List.getElem_mem hlt))) rfl rfl λR lo hi a1 a2 F=>?_|refine bc (by simp only[hcs,List.length_cons,length_nil];omega) ?_|refine Xz ari ari ?_|refine tW ?_ ?_|fail)<;>conv=>whnf)
   all_goals
    have a1:m<=lo:=a1;refine aT.mk ⟨(k+1,hi,cs++[[.x (R 0)]]),⟨by simp only;omega,by simp[hcs],by simp only;omega,?_⟩,by simp only;omega,?_,sbW⟩
    ·simp only;rw[eE bD aa];exact hF.flat_set F aa aa aa
    ·exact hds
  ·have e:k=x.kept.length:=ari;subst e;rw[List.take_length]at hF;refine Yc 3 1 49 301 2 ae ?_;conv=>whnf
   repeat'(first|refine awz ?_|fail)
   refine XA (λg:Nat×Nat×List (List AD)=>g.1<=x.wait.length/\g.2.2.length=g.1/\m<=g.2.1/\Fam m g.2.1 g.2.2.flatten ((x.wait.take g.1).map DWrite.ds).flatten) (5::rg 25 26) (λg=>[(5,vI .i64 (g.1:Int))]) (λg=>[(9997,cS S.w0.heap.size g.2.1),(1,.cells 69 (x.ds.map .d)),(2,.cells 69 [.nil,.nil]),(3,.cells 69 [.own 23,.own 49]),(23,.row 62 1 cs),(49,.row 301 2 g.2.2)]) (λg=>x.wait.length-g.1) (0,m,[]) ⟨Nat.zero_le _,rfl,Nat.le_refl _,XD rfl⟩ ?_ sbW (λg hR=>?_)<;>(conv=>whnf)
   ·exact whd
   ·obtain⟨j,m2,cs2⟩:=g;obtain⟨hk2,hcs2,hm2,hF2⟩:=hR;simp only at hk2 hcs2 hm2 hF2;repeat'(first|refine awz ?_|refine tW ?_ ?_|(intro h;conv=>whnf))
    ·have hlt:j<x.wait.length:=ari;(refine XF aM 9 (tkc [0,2,3,4,5,6,7,8,9,10,11,12,13] (.two 1 (onc [14,15,16,17] (.take 18 (.one 19 .done))) 14 (.two 1 (onc [15,16,17] (.take 18 (.one 19 .done))) 15 (.two 1 (.one 16 (.one 17 (.take 18 (.one 19 .done)))) 16 (.one 1 (.one 17 (.take 18 (.one 19 .done)))))))) [(1,9980)] mv ac ac ac ac (λRz=>?_);(conv=>whnf);intro bp0 up0;(conv=>whnf))
     repeat'((first|refine awz ?_|refine XK hlt ?_|refine XC (vX _ (h4 _ (List.getElem_mem hlt))) rfl rfl λR lo hi a1 a2 F=>?_|refine bc (by simp only[hcs2,List.length_cons,length_nil];omega) ?_|refine Xz ari ari ?_|refine tW ?_ ?_|fail)<;>conv=>whnf)
     all_goals
      have a1:m2<=lo:=a1;refine aT.mk ⟨(j+1,hi,cs2++[[dI x.wait[j].at_,.x (R 0)]]),⟨by simp only;omega,by simp[hcs2],by simp only;omega,?_⟩,by simp only;omega,?_,sbW⟩
      ·simp only;rw[eE DWrite.ds aa];exact hF2.flat_set (Fam.app (XD (lo:=lo) (hi:=lo) (ds:=[dI x.wait[j].at_]) rfl) F aa aa aa) aa aa aa
      ·exact hds
    ·have e:j=x.wait.length:=ari;subst e;rw[List.take_length]at hF2;repeat'((first|refine kG.fam hF (by simp[hcs]) alW ?_|refine kG.fam hF2 (by simp[hcs2]) alW ?_|fail)<;>conv=>whnf)
     exact⟨S.w0.heap.size,S.w0.heap.size,[],⟨Nat.le_refl _,⟨.inl (Nat.le_refl _),.inl hm,trivial⟩,Nat.le_refl _,⟨.inl (Nat.le_refl _),trivial⟩,hm,trivial,trivial⟩,XD rfl,rfl⟩
theorem Pg(x:DTwo)(hs:X8 1048576 x):cg av 150 [.agg x.ds] (.agg x.ds):=by
 refine cZ aM func150 rfl call150 ntmps150 (aaX results150) λS=>?_;conv=>whnf
 repeat'(first|refine awz ?_|fail)
 (refine XF aM 1 (tkc [0,1,3,4] (onc [2,5,6,7] .done)) [(1,9980)] jh ac ac ac ac (λRz=>?_);(conv=>whnf);intro bp0 up0;(conv=>whnf))
 repeat'((first|refine awz ?_|refine XC (zy x.a hs.1) rfl rfl λR1 l1 e1 a1 b1 F1=>?_|refine XC (zy x.b hs.2) rfl rfl λR2 l2 e2 a2 b2 F2=>?_|fail)<;>conv=>whnf)
 exact⟨_,_,_,⟨(by omega:S.w0.heap.size<=l1),trivial,trivial⟩,(Fam.app F1 F2 aa aa aa),rfl⟩
theorem EW(x:DLogNode)(hs:XT 1048576 x):cg av 69 [.agg x.ds] (.agg x.ds):=by
 obtain⟨h1,h2,h3,h4,h5,h6⟩:=(show X8 1048576 x.two/\XW 1048576 x.head/\XW 1048576 x.nxt/\x.book.entries.length<=1048576/\x.seen.length<=1048576/\x.owe.length<=1048576 from hs);refine cZ aM func69 rfl call69 ntmps69 (aaX results69) λS=>?_;conv=>whnf
 repeat'((first|refine awz ?_|refine XC (Pg x.two h1) rfl rfl λR1 l1 e1 a1 b1 F1=>?_|refine XC (uW x.head h2) rfl rfl λR2 l2 e2 a2 b2 F2=>?_|refine XC (uW x.nxt h3) rfl rfl λR3 l3 e3 a3 b3 F3=>?_|refine bc ak ?_|refine aY alW ?_|refine Yd bls ?_|fail)<;>conv=>whnf)
 exact⟨_,_,_,⟨(by omega:S.w0.heap.size<=l1),trivial,trivial⟩,(Fam.app (Fam.app (Fam.app F1 F2 aa aa aa) F3 aa aa aa) (XD (lo:=e3) (hi:=e3) (ds:=[dB x.more,dI x.book.base,dI x.book.time,dI x.durable]) rfl) aa aa aa),rfl⟩
theorem Bm(x:DStore)(hs:X3 1048576 x):cg av 70 [.agg x.ds] (.agg x.ds):=by
 obtain⟨h1,h2,h3⟩:=(show XV 1048576 x.disk/\x.state.pairs.length<=1048576/\x.state.jobs.length<=1048576 from hs);refine cZ aM func70 rfl call70 ntmps70 (aaX results70) λS=>?_;conv=>whnf
 repeat'((first|refine awz ?_|refine XC (zy x.disk h1) rfl rfl λR1 l1 e1 a1 b1 F1=>?_|refine bc ak ?_|refine aY alW ?_|refine Yd bls ?_|fail)<;>conv=>whnf)
 exact⟨_,_,_,⟨(by omega:S.w0.heap.size<=l1),trivial,trivial⟩,(Fam.app F1 (XD (lo:=e1) (hi:=e1) (ds:=[dI x.state.index,dI x.state.time,dI x.state.lease.holder,dI x.state.lease.epoch,dI x.state.lease.til,dI x.num,dI x.last,dI x.busy]) rfl) aa aa aa),rfl⟩
theorem EX(x:DNet)(hs:Yf 1048576 x):cg av 73 [.agg x.ds] (.agg x.ds):=by
 obtain⟨h1,h2,h3⟩:=(show x.flight.length<=1048576/\(∀y∈x.flight,X4 1048576 y)/\x.cuts.length<=1048576 from hs);refine cZ aM func73 rfl call73 ntmps73 (aaX results73) λS=>?_;conv=>whnf
 repeat'((first|refine awz ?_|refine bc ak ?_|refine aY alW ?_|fail)<;>conv=>whnf)
 refine Yc 3 0 40 227 3 ae ?_;conv=>whnf
 repeat'(first|refine awz ?_|fail)
 refine XA (λg:Nat×Nat×List (List AD)=>g.1<=x.flight.length/\g.2.2.length=g.1/\S.w0.heap.size<=g.2.1/\Fam S.w0.heap.size g.2.1 g.2.2.flatten ((x.flight.take g.1).map DMsg.ds).flatten) (4::rg 10 32) (λg=>[(4,vI .i64 (g.1:Int))]) (λg=>[(9997,cS S.w0.heap.size g.2.1),(1,.cells 103 (x.ds.map .d)),(2,.cells 103 [.nil,.nil]),(3,.cells 103 [.own 40,.own 5]),(5,.row 229 2 (x.cuts.map DLink.ds)),(40,.row 227 3 g.2.2)]) (λg=>x.flight.length-g.1) (0,S.w0.heap.size,[]) ⟨Nat.zero_le _,rfl,Nat.le_refl _,XD rfl⟩ ?_ sbW (λg hR=>?_)<;>(conv=>whnf)
 ·exact whd
 ·obtain⟨k,m,cs⟩:=g;obtain⟨hk,hcs,hm,hF⟩:=hR;simp only at hk hcs hm hF;repeat'(first|refine awz ?_|refine tW ?_ ?_|(intro h;conv=>whnf))
  ·have hlt:k<x.flight.length:=ari;(refine XF aM 5 (tkc [0,2,3,4,5,6,7,8,9,10,11,12,13,14,15,16,17,18,19] (.two 1 (onc [20,21,22,23] (.take 24 (.one 25 .done))) 20 (.two 1 (onc [21,22,23] (.take 24 (.one 25 .done))) 21 (.two 1 (.one 22 (.one 23 (.take 24 (.one 25 .done)))) 22 (.one 1 (.one 23 (.take 24 (.one 25 .done)))))))) [(1,9980)] pd ac ac ac ac (λRz=>?_);(conv=>whnf);intro bp0 up0;(conv=>whnf))
   repeat'((first|refine awz ?_|refine XK hlt ?_|refine XC (vX _ (h2 _ (List.getElem_mem hlt))) rfl rfl λR lo hi a1 a2 F=>?_|refine bc (by simp only[hcs,List.length_cons,length_nil];omega) ?_|refine Xz ari ari ?_|refine tW ?_ ?_|fail)<;>conv=>whnf)
   all_goals
    have a1:m<=lo:=a1;refine aT.mk ⟨(k+1,hi,cs++[[dI x.flight[k].frm,dI x.flight[k].to_,.x (R 0)]]),⟨by simp only;omega,by simp[hcs],by simp only;omega,?_⟩,by simp only;omega,?_,sbW⟩
    ·simp only;rw[eE DMsg.ds aa];exact hF.flat_set (Fam.app (XD (lo:=lo) (hi:=lo) (ds:=[dI x.flight[k].frm,dI x.flight[k].to_]) rfl) F aa aa aa) aa aa aa
    ·exact hds
  ·have e:k=x.flight.length:=ari;subst e;rw[List.take_length]at hF;repeat'((first|refine Yd bls ?_|refine kG.fam hF (by simp[hcs]) alW ?_|fail)<;>conv=>whnf)
   exact⟨S.w0.heap.size,S.w0.heap.size,[],⟨Nat.le_refl _,⟨.inl (Nat.le_refl _),trivial⟩,Nat.le_refl _,trivial,trivial⟩,XD rfl,rfl⟩
end
end
section
open Go.Proofs.Tryz
open Go.ChangeShapes Go.WideShapes Go.RowKit
variable {b:DBook}{d:DDisk}{e:DEntry}{h:DHead}{t:DTwo}{a:Int}{k0:List (List Int)}{s:List DMark}{l m r:List Int}{j k:Nat}
def sd(s x:Int):Int:=(131*s+x+1).tmod 999999937
def kF(l:List Int):Int:=l.foldl sd 7
theorem Lj{s x:Int}(hs:0<=s/\s<=999999936)(hx:0<=x/\x<=1000000000):0<=sd s x/\sd s x<=999999936:=by
 unfold sd;rw[Int.tmod_eq_emod_of_nonneg aa];omega
theorem iq(h:ck l=true):l.length<=48/\∀x∈l,0<=x/\x<=1000000000:=by
 simp only[ck,aJ,and_eq_true,decide_eq_true_eq,all_eq_true]at h;exact h
theorem uR(h:l.length<=48/\∀x∈l,0<=x/\x<=1000000000):ck l=true:=by
 simp only[ck,aJ,and_eq_true,decide_eq_true_eq,all_eq_true];exact h
theorem zu(h:ck l=true)(hl:m.length<=l.length)(hs:∀x∈m,x∈l):ck m=true:=by
 obtain⟨h1,h2⟩:=iq h;exact uR ⟨aa,λx hx=>h2 x (hs x hx)⟩
theorem qx(h:∀x∈l,0<=x/\x<=1000000000):∀k,k<=l.length->0<=kF (l.take k)/\kF (l.take k)<=999999936
 |0,_=>by simp[kF]
 |k+1,hk=>by
  have ih:=qx h k aa;have hlt:k<l.length:=aa;have e:l.take (k+1)=l.take k++[l[k]]:=by rw[List.take_add_one,List.getElem?_eq_getElem hlt];rfl
  rw[e,kF,List.foldl_append];exact Lj ih (h _ (getElem_mem hlt))
theorem G4(hlt:k<l.length):kF (l.take (k+1))=sd (kF (l.take k)) l[k]:=by
 have e:l.take (k+1)=l.take k++[l[k]]:=by rw[List.take_add_one,List.getElem?_eq_getElem hlt];rfl
 rw[e,kF,List.foldl_append];rfl
theorem Rl(h:ck l=true):0<=kF l/\kF l<=999999936:=by
 have:=qx (iq h).2 l.length (Nat.le_refl _);rwa[take_length]at this
def fx(l:List Int):List Int:=l++[kF l]
theorem ke(h:ck l=true)(hl:l.length<48):ck (l++[kF l])=true:=by
 obtain⟨_,h2⟩:=iq h;have h3:=Rl h;refine uR ⟨by simp;omega,λx hx=>?_⟩;rcases mem_append.1 hx with hx|hx
 ·exact h2 x hx
 ·rw[mem_singleton.1 hx];omega
def gj(l:List Int):Option (List Int):=if ck l&& !l.isEmpty&&kF l.dropLast==l.getLastD 0 then some l.dropLast else none
theorem Fb(h:ck l=true)(hl:l.length<48):gj (fx l)=some l:=by
 have h1:=ke h hl;unfold gj fx;simp[h1]
theorem dR(h:gj l=some m):ck m=true/\m.length<48/\l=fx m:=by
 unfold gj at h;split at h
 ·rename_i hc;simp only[and_eq_true,beq_iff_eq]at hc;obtain⟨⟨h1,h2⟩,h3⟩:=hc;injection h with h
  subst h;have hne:l≠ []:=by intro e;simp[e]at h2
  obtain⟨h4,h5⟩:=iq h1;have hpos:0<l.length:=List.length_pos_iff.2 hne;refine⟨zu h1 ah (λx hx=>List.dropLast_subset _ hx),by simp;omega,?_⟩;unfold fx;rw[h3,List.getLastD_eq_getLast?,List.getLast?_eq_some_getLast hne];exact(List.dropLast_concat_getLast hne).symm
 ·cases h
theorem cL(h:db d=true):1<=d.kept.length/\d.kept.length<=40/\d.wait.length<=60/\(∀y∈d.kept,ck y=true)/\∀y∈d.wait,fV d.kept.length y=true:=by
 simp only[db,and_eq_true,decide_eq_true_eq,all_eq_true]at h;exact⟨h.1.1.1.1,h.1.1.1.2,h.1.1.2,h.1.2,h.2⟩
theorem nI(h:1<=d.kept.length/\d.kept.length<=40/\d.wait.length<=60/\(∀y∈d.kept,ck y=true)/\∀y∈d.wait,fV d.kept.length y=true):db d=true:=by
 simp only[db,and_eq_true,decide_eq_true_eq,all_eq_true];exact⟨⟨⟨⟨h.1,h.2.1⟩,h.2.2.1⟩,h.2.2.2.1⟩,h.2.2.2.2⟩
theorem fy{n:Nat}{y:DWrite}(h:fV n y=true):(0<=y.at_/\y.at_<=(n:Int)-1)/\ck y.row=true:=by
 simp only[fV,aJ,and_eq_true,decide_eq_true_eq]at h;exact h
theorem dG(h:ck l=true):l.length<=48:=(iq h).1
theorem gJ(h:db d=true):XV 1048576 d:=by
 obtain⟨h1,h2,h3,h4,h5⟩:=cL h;exact⟨aa,λy hy=>by have:=dG (h4 y hy);omega,aa,λy hy=>by
  have:=dG (fy (h5 y hy)).2;show y.row.length<=1048576;omega⟩
def m9(d:DDisk)(a:Int)(r:List Int):DDisk:=⟨d.kept,d.wait++[⟨a,r⟩]⟩
theorem xR(h:db d=true)(hw:d.wait.length<60)(ha:aJ a 0 ((d.kept.length:Int)-1)=true)(hr:ck r=true):db (m9 d a r)=true:=by
 obtain⟨h1,h2,h3,h4,h5⟩:=cL h;refine nI ⟨h1,h2,by simp[m9];omega,h4,λy hy=>?_⟩;simp only[m9,mem_append,mem_singleton]at hy;rcases hy with hy|rfl
 ·exact h5 y hy
 ·simp[fV,m9,ha,hr]
def Ea(k:List (List Int))(x:DWrite):List (List Int):=k.set x.at_.toNat x.row
def lC(k:List (List Int))(l:List DWrite):List (List Int):=l.foldl Ea k
def eN(d:DDisk):DDisk:=⟨lC d.kept d.wait,[]⟩
theorem f9(l:List DWrite):∀k:List (List Int),(lC k l).length=k.length:=by
 induction l with
 |nil=>intro k;rfl
 |cons x r ih=>intro k;show(lC (Ea k x) r).length=_;rw[ih];simp[Ea]
theorem xa{k:List (List Int)}{l:List DWrite}(h:j<l.length):lC k (l.take (j+1))=(lC k (l.take j)).set l[j].at_.toNat l[j].row:=by
 have e:l.take (j+1)=l.take j++[l[j]]:=by rw[List.take_add_one,List.getElem?_eq_getElem h];rfl
 rw[e,lC,List.foldl_append];rfl
theorem Ml{l:List DWrite}:∀{k:List (List Int)},(∀y∈k,ck y=true)->(∀y∈l,ck y.row=true)->∀y∈lC k l,ck y=true:=by
 induction l with
 |nil=>intro k h _;exact h
 |cons x r ih=>
  intro k h hl;refine ih (k:=Ea k x) (λy hy=>?_) (λy hy=>hl y (List.mem_cons_of_mem _ hy));rcases List.mem_or_eq_of_mem_set hy with hy|rfl
  ·exact h y hy
  ·exact hl x (List.mem_cons_self ..)
theorem tZ(h:db d=true):db (eN d)=true:=by
 obtain⟨h1,h2,h3,h4,h5⟩:=cL h;exact nI ⟨by rw[eN,f9];exact h1,by rw[eN,f9];exact h2,by simp[eN],Ml h4 λy hy=>(fy (h5 y hy)).2,by simp[eN]⟩
theorem dQ(h:eO t=true):db t.a=true/\db t.b=true/\t.a.kept.length=t.b.kept.length:=by
 simp only[eO,and_eq_true,decide_eq_true_eq]at h;exact⟨h.1.1,h.1.2,h.2⟩
theorem Ew(h:db t.a=true/\db t.b=true/\t.a.kept.length=t.b.kept.length):eO t=true:=by
 simp only[eO,and_eq_true,decide_eq_true_eq];exact⟨⟨h.1,h.2.1⟩,h.2.2⟩
def xt(t:DTwo)(a:Int)(r:List Int):DTwo:=⟨m9 t.a a (r++[kF r]),m9 t.b a (r++[kF r])⟩
def dY(t:DTwo):DTwo:=⟨eN t.a,eN t.b⟩
theorem Hg(h:eO t=true)(h1:t.a.wait.length<60)(h2:t.b.wait.length<60)(ha:aJ a 0 ((t.a.kept.length:Int)-1)=true)(hr:ck r=true)(hl:r.length<48):eO (xt t a r)=true:=by
 obtain⟨f1,f2,f3⟩:=dQ h;exact Ew ⟨xR f1 h1 ha (ke hr hl),xR f2 h2 (by rw[<-f3];exact ha) (ke hr hl),f3⟩
theorem Jy(h:eO t=true):eO (dY t)=true:=by
 obtain⟨f1,f2,f3⟩:=dQ h;exact Ew ⟨tZ f1,tZ f2,by simp[dY,eN,f9,f3]⟩
def sx(k:List (List Int))(l:List DWrite)(a:Int):List Int:=match l.reverse.find? λw=>w.at_==a with|some w=>w.row|none=>k.getD a.toNat []
def ij(d:DDisk)(a:Int):List Int:=sx d.kept d.wait a
theorem MR:∀{l:List DWrite} {k:List (List Int)} {a:Int},(∀y∈l,0<=y.at_/\y.at_<k.length)->0<=a->a<k.length->sx (lC k l) [] a=sx k l a:=by
 intro l;induction l with
 |nil=>intro k a _ _ _;rfl
 |cons x r ih=>
  intro k a hl h0 h1;have hx:=hl x (List.mem_cons_self ..);show sx (lC (Ea k x) r) [] a=_;rw[ih (k:=Ea k x) (λy hy=>by simpa[Ea]using hl y (List.mem_cons_of_mem _ hy)) h0 (by simpa[Ea]using h1)];unfold sx;rw[List.reverse_cons,List.find?_append];cases e:r.reverse.find? (λw=>w.at_==a)with
  |some w=>simp
  |none=>
   simp only[Option.none_or,List.find?_cons,List.find?_nil];by_cases hxa:x.at_=a
   ·subst hxa;have:x.at_.toNat<k.length:=aa;simp[Ea,List.getD_eq_getElem?_getD,this]
   ·have hb:(x.at_==a)=false:=by simpa using hxa
    have hne:x.at_.toNat≠a.toNat:=aa;simp[hb,Ea,List.getD_eq_getElem?_getD,List.getElem?_set_ne hne]
theorem DO(h:db d=true)(h0:0<=a)(h1:a<d.kept.length):ij (eN d) a=ij d a:=by
 obtain⟨_,_,_,_,h5⟩:=cL h;exact MR (λy hy=>by have:=(fy (h5 y hy)).1;omega) h0 h1
theorem KM(h:db d=true)(a:Int):ck (ij d a)=true:=by
 obtain⟨_,_,_,h4,h5⟩:=cL h;unfold ij sx;split
 ·rename_i w e;have:=List.mem_of_find?_eq_some e;exact(fy (h5 w (List.mem_reverse.1 this))).2
 ·rw[List.getD_eq_getElem?_getD];cases e:d.kept[a.toNat]? with
  |none=>rfl
  |some r=>exact h4 r (List.mem_of_getElem? e)
def eY(t:DTwo)(a:Int):List (List Int):=match gj (ij t.a a),gj (ij t.b a)with
 |some x,some y=>if x==y then [x]else [x,y]
 |some x,none=>[x]
 |none,some y=>[y]
 |none,none=>[]
theorem rL(h:eO t=true)(h0:0<=a)(h1:a<t.a.kept.length):eY (dY t) a=eY t a:=by
 obtain⟨f1,f2,f3⟩:=dQ h;unfold eY dY;rw[DO f1 h0 h1,DO f2 h0 (by rw[<-f3];exact h1)]
theorem MT:∀r∈eY t a,ck r=true/\r.length<48:=by
 intro r hr;unfold eY at hr;split at hr
 ·rename_i x y e1 e2;split at hr
  ·simp only[mem_singleton]at hr;subst hr;exact⟨(dR e1).1,(dR e1).2.1⟩
  ·simp only[mem_cons,not_mem_nil,or_false]at hr;rcases hr with rfl|rfl
   ·exact⟨(dR e1).1,(dR e1).2.1⟩
   ·exact⟨(dR e2).1,(dR e2).2.1⟩
 ·rename_i e1 e2;simp only[mem_singleton]at hr;subst hr;exact⟨(dR e1).1,(dR e1).2.1⟩
 ·rename_i e1 e2;simp only[mem_singleton]at hr;subst hr;exact⟨(dR e2).1,(dR e2).2.1⟩
 ·cases hr
theorem D6(l:List Int)(h:ck l=true):aL av 411 [.one (.sl (l.map eI))] (.val (pI (kF l))):=by
 have hn:(!ck l)=false:=by rw[h];rfl
 obtain⟨hl,hx⟩:=iq h;refine pO func411 call411 ntmps411 results411 λS=>?_;conv=>whnf
 repeat'(first|refine awz ?_|(refine cP (eG l) ?_;conv=>whnf)|fail)
 refine XA (λk:Nat=>k<=l.length) (3::4::rg 8 15) (λk=>[(3,vI .i64 (kF (l.take k))),(4,vI .i64 (k:Int))]) (λk=>[]) (λk=>l.length-k) 0 aa ?_ Xv (λk hR=>?_)<;>(conv=>whnf)
 ·exact whd
 ·by_cases hlt:k<l.length
  ·have hr:=qx hx k hR;have hr2:=qx hx (k+1) hlt;have hxk:=hx _ (getElem_mem hlt);have hs:=G4 hlt;have hc:decide ((k:Int)<((l.map eI).length:Int))=true:=al;unfold sd at hs;repeat'((first|refine awz ?_|refine XK hlt ?_|refine And.intro ae ?_|refine Xz aa aa ?_|fail)<;>conv=>whnf)
   refine aT.mk ⟨k+1,hlt,aa,?_,Xv⟩;rw[hs];exact hds
  ·have e:k=l.length:=aa;subst e;have hc:decide ((l.length:Int)<((l.map eI).length:Int))=false:=ah;rw[take_length];repeat'(first|refine awz ?_|exact rr|fail)
theorem Pe(l:List Int)(hl:l.length<=1048576):gc av 74 [.one (.d (.sl (l.map eI)))] [] [(3,.row 2 1 (l.map eI))] [] (.val (.one (.own 3))):=by
 refine dq aM func74 rfl call74 ntmps74 (aaX results74) rfl λS pv=>?_;conv=>whnf
 repeat'((first|refine awz ?_|refine aY (by first|(intro y hy;obtain⟨a,_,rfl⟩:=mem_map.1 hy;rfl)|(simp;done)) ?_|refine bc ak ?_|exact rr|fail)<;>conv=>whnf)
theorem d8(l:List Int)(hl:l.length<=1048576):aL av 74 [.one (.sl (l.map eI))] (.val (.one (.sl (l.map eI)))):=by
 refine pO func74 call74 ntmps74 results74 λS=>?_;conv=>whnf
 repeat'((first|refine awz ?_|refine aY (by first|(intro y hy;obtain⟨a,_,rfl⟩:=mem_map.1 hy;rfl)|(simp;done)) ?_|refine bc ak ?_|fail)<;>conv=>whnf)
 rfl
theorem rP(l:List Int)(h:ck l=true)(h48:l.length<48):aL av 364 [.one (.sl (l.map eI))] (.val (.one (.sl ((l++[kF l]).map eI)))):=by
 have hn:(!ck l)=false:=by rw[h];rfl
 have hc:decide ((48:Int)<=((l.map eI).length:Int))=false:=al;refine pO func364 call364 ntmps364 results364 λS=>?_;conv=>whnf
 repeat'((first|refine awz ?_|refine cP (eG l) ?_|refine cP (D6 l h) ?_|refine XE (Pe l aa) [(3,903)] rfl rfl ?_|refine bc ak ?_|fail)<;>conv=>whnf)
 all_goals(simp;rfl)
def nc:List (List Nat):=cz [0,1,0,0,4,323,6,20930,35671935824001,0x81c61440c2048209]
def sN:List (List Nat):=cz [0,1,0,3,0,5,389,138580611463,35671935565890]
def td:List (List Nat):=eK 7 [2178,2179,2114,2123,80,161,404]
theorem zz(x:DDisk)(hs:XV 1048576 x):gc av 152 [.agg (x.ds.map .d)] [] [(23,.row 62 1 (x.kept.map bD)),(49,.row 301 2 (x.wait.map DWrite.ds))] [] (.val (.agg [.own 23,.own 49])):=by
 obtain⟨h1,h2,h3,h4⟩:=(show x.kept.length<=1048576/\(∀y∈x.kept,y.length<=1048576)/\x.wait.length<=1048576/\(∀y∈x.wait,X0 1048576 y)from hs);refine dq aM func152 rfl call152 ntmps152 (aaX results152) rfl λS pv=>?_;conv=>whnf
 repeat'(first|refine awz ?_|fail)
 refine Yc 3 0 23 62 1 ae ?_;conv=>whnf
 repeat'(first|refine awz ?_|fail)
 refine XA (λk:Nat=>k<=x.kept.length) (4::rg 7 18) (λk=>[(4,vI .i64 (k:Int))]) (λk=>[(9999,.frame (ii []) pv),(1,.cells 69 (x.ds.map .d)),(2,.cells 69 [.nil,.nil]),(3,.cells 69 [.own 23,.nil]),(23,.row 62 1 ((x.kept.take k).map bD))]) (λk=>x.kept.length-k) 0 (Nat.zero_le _) ?_ sbW (λk hk=>?_)<;>(conv=>whnf)
 ·exact whd
 ·repeat'(first|refine awz ?_|refine tW ?_ ?_|(intro h;conv=>whnf))
  ·have hlt:k<x.kept.length:=ari;have hy:=h2 _ (getElem_mem hlt);(refine XF aM 5 (tkc [0,2,3,4,5,6] (.two 1 (onc [7,8,9] (.take 10 (.one 11 .done))) 7 (.two 1 (.one 8 (.one 9 (.take 10 (.one 11 .done)))) 8 (.one 1 (.one 9 (.take 10 (.one 11 .done))))))) [(1,9980)] mu ac ac ac ac (λRz=>?_);(conv=>whnf);intro bp0 up0;(conv=>whnf))
   repeat'((first|refine awz ?_|refine XK hlt ?_|refine cP (d8 x.kept[k] hy) ?_|refine bc ak ?_|refine Xz ari ari ?_|refine tW ?_ ?_|fail)<;>conv=>whnf)
   all_goals
    refine aT.mk ⟨k+1,hlt,aa,?_,Xu rfl (Xu rfl (Xu rfl (Xu rfl (Xu (congrArg some (congrArg (AO.row 62 1) (eE bD hlt).symm)) Xv))))⟩;exact hds
  ·have e:k=x.kept.length:=ari;subst e;rw[take_length];refine Yc 3 1 49 301 2 ae ?_;conv=>whnf
   repeat'(first|refine awz ?_|fail)
   refine XA (λk:Nat=>k<=x.wait.length) (5::rg 25 26) (λk=>[(5,vI .i64 (k:Int))]) (λk=>[(9999,.frame (ii []) pv),(1,.cells 69 (x.ds.map .d)),(2,.cells 69 [.nil,.nil]),(3,.cells 69 [.own 23,.own 49]),(23,.row 62 1 (x.kept.map bD)),(49,.row 301 2 ((x.wait.take k).map DWrite.ds))]) (λk=>x.wait.length-k) 0 (Nat.zero_le _) ?_ sbW (λj hj=>?_)<;>(conv=>whnf)
   ·exact whd
   ·repeat'(first|refine awz ?_|refine tW ?_ ?_|(intro h;conv=>whnf))
    ·have hlt:j<x.wait.length:=ari;have hy:x.wait[j].row.length<=1048576:=h4 _ (getElem_mem hlt);(refine XF aM 9 (tkc [0,2,3,4,5,6,7,8,9,10,11,12,13] (.two 1 (onc [14,15,16,17] (.take 18 (.one 19 .done))) 14 (.two 1 (onc [15,16,17] (.take 18 (.one 19 .done))) 15 (.two 1 (.one 16 (.one 17 (.take 18 (.one 19 .done)))) 16 (.one 1 (.one 17 (.take 18 (.one 19 .done)))))))) [(1,9980)] mv ac ac ac ac (λRz=>?_);(conv=>whnf);intro bp0 up0;(conv=>whnf))
     repeat'((first|refine awz ?_|refine XK hlt ?_|refine cP (d8 x.wait[j].row hy) ?_|refine bc ak ?_|refine Xz ari ari ?_|refine tW ?_ ?_|fail)<;>conv=>whnf)
     all_goals
      refine aT.mk ⟨j+1,hlt,aa,?_,Xu rfl (Xu rfl (Xu rfl (Xu rfl (Xu rfl (Xu (congrArg some (congrArg (AO.row 301 2) (eE DWrite.ds hlt).symm)) Xv)))))⟩;exact hds
    ·have e:j=x.wait.length:=ari;subst e;rw[take_length];repeat'(first|refine awz ?_|exact rr|fail)
theorem K6(d:DDisk)(a:Int)(r:List Int)(h:db d=true)(hw:d.wait.length<60)(ha:aJ a 0 ((d.kept.length:Int)-1)=true)(hr:ck r=true):aL av 365 [.agg d.ds,pI a,.one (.sl (r.map eI))] (.tup [.agg (m9 d a r).ds,.one (dB true)]):=by
 have hs:=gJ h;have h40:=(cL h).2.1;have h48:=dG hr;have n1:(!db d)=false:=by rw[h];rfl
 have n2:(!aJ a 0 ((d.kept.length:Int)-1))=false:=by rw[ha];rfl
 have n3:(!ck r)=false:=by rw[hr];rfl
 have n4:decide ((60:Int)<=((d.wait.map DWrite.ds).length:Int))=false:=al;refine pO func365 call365 ntmps365 results365 λS=>?_;conv=>whnf
 repeat'((first|refine awz ?_|refine cP (d7 d) ?_|refine cP (fr d a h40) ?_|refine cP (eG r) ?_|refine XE (zz d hs) [(23,923),(49,949)] rfl rfl ?_|fail)<;>conv=>whnf)
 (refine XF aM 6 (tkc [0,2,3] (.two 1 (onc [4,5,6,7] (.take 8 (.one 9 .done))) 4 (.two 1 (onc [5,6,7] (.take 8 (.one 9 .done))) 5 (.two 1 (.one 6 (.one 7 (.take 8 (.one 9 .done)))) 6 (.one 1 (.one 7 (.take 8 (.one 9 .done)))))))) [] nc ac ac ac ac (λRz=>?_);(conv=>whnf))
 repeat'((first|refine awz ?_|refine cP (d8 r aa) ?_|refine bc ak ?_|refine tW ?_ ?_|fail)<;>conv=>whnf)
 all_goals(simp[m9,DDisk.ds,DWrite.ds];done)
theorem Pf(d:DDisk)(h:db d=true):gc av 313 [.agg (d.ds.map .d),.one (.own 1001),.one (.d (dB true))] [(1001,.row 2 1 [])] [(1001,.row 2 1 [])] [] (.val (.agg [.d (.sl ((eN d).kept.map bD)),.nil])):=by
 have hs:=gJ h;obtain⟨h1,h2,h3,h4,h5⟩:=cL h;refine dq aM func313 rfl call313 ntmps313 (aaX results313) rfl λS pv=>?_;conv=>whnf
 repeat'(first|refine awz ?_|(refine XE (zz d hs) [(23,923),(49,949)] rfl rfl ?_;conv=>whnf)|fail)
 refine XA (λk:Nat=>k<=d.wait.length) (8::9::10::rg 15 51) (λk=>[(8,vI .i64 (k:Int))]) (λk=>[(9999,.frame (ii []) pv),(1001,.row 2 1 []),(3,.cells 69 (d.ds.map .d)),(6,.cells 69 [.nil,.nil]),(7,.cells 69 [.own 923,.nil]),(923,.row 62 1 ((lC d.kept (d.wait.take k)).map bD))]) (λk=>d.wait.length-k) 0 (Nat.zero_le _) ?_ sbW (λk hk=>?_)<;>(conv=>whnf)
 ·exact whd
 ·by_cases hlt:k<d.wait.length
  ·have hc:decide ((k:Int)<((d.wait.map DWrite.ds).length:Int))=true:=al;have hw:=(fy (h5 _ (getElem_mem hlt)));have hlen:=f9 (d.wait.take k) d.kept;have hsx:=xa (k:=d.kept) hlt;have h48:=dG hw.2;have hn:decide ((k:Int)<0)=false:=ah;repeat'(first|refine awz ?_|(refine XK hlt ?_;conv=>whnf)|fail)
   (refine XB aM 10 7 sN td ac ac ac rfl ?_;conv=>whnf)
   repeat'((first|refine awz ?_|refine AIx.int hw.1.1 aa ?_|refine cP (d8 d.wait[k].row aa) ?_|fail)<;>conv=>whnf)
   refine XK aa ?_;conv=>whnf
   repeat'(first|refine awz ?_|(refine Xz ari ari ?_;conv=>whnf)|fail)
   refine aT.mk ⟨k+1,hlt,aa,?_,Xu rfl (Xu rfl (Xu rfl (Xu rfl (Xu rfl (Xu (by rw[hsx,List.map_set];rfl) Xv)))))⟩;exact hds
  ·have e:k=d.wait.length:=aa;subst e;have hc:decide ((d.wait.length:Int)<((d.wait.map DWrite.ds).length:Int))=false:=ah;rw[take_length];repeat'(first|refine awz ?_|exact rr|fail)
   all_goals(first|rfl|exact⟨rfl,whd⟩)
theorem vT(d:DDisk)(h:db d=true):aL av 246 [.agg d.ds] (.val (.agg (eN d).ds)):=by
 have n1:(!db d)=false:=by rw[h];rfl
 refine pO func246 call246 ntmps246 results246 λS=>?_;conv=>whnf
 repeat'((first|refine awz ?_|refine cP (d7 d) ?_|refine XE (Pf d h) [(1001,8)] rfl rfl ?_|exact rZ|fail)<;>conv=>whnf)
theorem pw(t:DTwo)(h:eO t=true):aL av 236 [.agg t.ds] (.val (.agg (dY t).ds)):=by
 obtain⟨f1,f2,f3⟩:=dQ h;have n1:(!eO t)=false:=by rw[h];rfl
 refine pO func236 call236 ntmps236 results236 λS=>?_;conv=>whnf
 repeat'(first|refine awz ?_|(refine cP (eJ t) ?_;conv=>whnf)|fail)
 (refine XF aM 3 (tkc [0,1,3,4] (onc [2,5,6,7] .done)) [(1,9980)] jh ac ac ac ac (λRz=>?_);(conv=>whnf);intro bp0 up0;(conv=>whnf))
 repeat'((first|refine awz ?_|refine cP (vT t.a f1) ?_|refine cP (vT t.b f2) ?_|exact rZ|fail)<;>conv=>whnf)
theorem yH(t:DTwo)(a:Int)(r:List Int)(h:eO t=true)(h1:t.a.wait.length<60)(h2:t.b.wait.length<60)(ha:aJ a 0 ((t.a.kept.length:Int)-1)=true)(hr:ck r=true)(hl:r.length<48):aL av 307 [.agg t.ds,pI a,.one (.sl (r.map eI))] (.tup [.agg (xt t a r).ds,.one (dB true)]):=by
 obtain⟨f1,f2,f3⟩:=dQ h;have n1:(!eO t)=false:=by rw[h];rfl
 have ha2:aJ a 0 ((t.b.kept.length:Int)-1)=true:=by rw[<-f3];exact ha
 have hs:=ke hr hl;have hz:(((List.map eI (r++[kF r])).length:Int)==0)=false:=al;have c1:=K6 t.a a _ f1 h1 ha hs;have c2:=K6 t.b a _ f2 h2 ha2 hs;refine pO func307 call307 ntmps307 results307 λS=>?_;conv=>whnf
 repeat'((first|refine awz ?_|refine cP (eJ t) ?_|refine cP (rP r hr hl) ?_|refine cP (c1) ?_|refine cP (c2) ?_|exact rZ|fail)<;>conv=>whnf)
theorem KW(t:DTwo)(a:Int)(r:List Int)(h:eO t=true)(h1:t.a.wait.length<60)(h2:t.b.wait.length<60)(ha:aJ a 0 ((t.a.kept.length:Int)-1)=true)(hr:ck r=true)(hl:r.length<48):aL av 240 [.agg t.ds,pI a,.one (.sl (r.map eI))] (.val (.agg (dY (xt t a r)).ds)):=by
 have hw:=Hg h h1 h2 ha hr hl;refine pO func240 call240 ntmps240 results240 λS=>?_;conv=>whnf
 repeat'((first|refine awz ?_|refine cP (yH t a r h h1 h2 ha hr hl) ?_|refine cP (pw _ hw) ?_|exact rZ|fail)<;>conv=>whnf)
def opL(o:DOp):List Int:=[o.kind,o.a,o.b,o.c,o.d]
def pi(e:DEntry):List Int:=[e.index,e.time,e.client,e.seq]++opL e.op
def bx(e:DEntry):List Int:=if cj e then pi e++[e.index,e.index]else []
def eF(r:List Int):Option DEntry:=match r with
 |[i,t,c,s,k,a,b,x,d]=>if cj ⟨i,t,c,s,⟨k,a,b,x,d⟩⟩then some ⟨i,t,c,s,⟨k,a,b,x,d⟩⟩else none
 |_=>none
def ez(r:List Int):Option DEntry:=match r with
 |[i,t,c,s,k,a,b,x,d,y,z]=>if cj ⟨i,t,c,s,⟨k,a,b,x,d⟩⟩&&y==i&&z==i then some ⟨i,t,c,s,⟨k,a,b,x,d⟩⟩else none
 |_=>none
theorem DW(h:ez r=some e):cj e=true:=by
 unfold ez at h;split at h
 ·split at h
  ·rename_i hc;injection h with h
   subst h;simp only[and_eq_true]at hc;exact hc.1.1
  ·cases h
 ·cases h
theorem kt(h:cj e=true):(1<=e.index/\e.index<=2000)/\(0<=e.time/\e.time<=1000000)/\(2<=e.client/\e.client<=5)/\(1<=e.seq/\e.seq<=2000)/\xm e.op=true:=by
 simp only[cj,aJ,and_eq_true,decide_eq_true_eq]at h;exact⟨h.1.1.1.1,h.1.1.1.2,h.1.1.2,h.1.2,h.2⟩
theorem QR{o:DOp}(h:xm o=true):∀x∈opL o,0<=x/\x<=1000000000:=by
 have hk:o.kind=1\/o.kind=2\/o.kind=3\/o.kind=4\/o.kind=5:=by
  by_cases h1:o.kind=1; · exact .inl h1
  by_cases h2:o.kind=2; · exact .inr (.inl h2)
  by_cases h3:o.kind=3; · exact .inr (.inr (.inl h3))
  by_cases h4:o.kind=4; · exact .inr (.inr (.inr (.inl h4)))
  by_cases h5:o.kind=5; · exact .inr (.inr (.inr (.inr h5)))
  simp[xm,h1,h2,h3,h4,h5]at h
 intro x hx;simp only[opL,mem_cons,not_mem_nil,or_false]at hx;rcases hk with hk|hk|hk|hk|hk<;>simp[xm,hk,aJ]at h<;>omega
theorem Le(h:cj e=true):(bx e).length=11:=by simp[bx,h,pi,opL]
theorem EY(e:DEntry):ck (bx e)=true/\(bx e).length<48:=by
 cases h:cj e with
 |false=>simp[bx,h,ck]
 |true=>
  have hl:=Le h;refine⟨uR ⟨aa,λx hx=>?_⟩,aa⟩;obtain⟨h1,h2,h3,h4,h5⟩:=kt h;have ho:=QR h5;simp only[bx,h,if_true,pi,mem_append,mem_cons,not_mem_nil,or_false]at hx;rcases hx with(hx|hx)|hx
  ·omega
  ·exact ho x hx
  ·omega
def bW(i:Int):Int:=2+i % 20
theorem mi(i:Int):2<=bW i/\bW i<=21:=by unfold bW;omega
def fH(h:DHead):List Int:=if di h then [h.num,h.base,h.time,(bU h.seen 2).seq,(bU h.seen 2).index,(bU h.seen 3).seq,(bU h.seen 3).index,(bU h.seen 4).seq,(bU h.seen 4).index,(bU h.seen 5).seq,(bU h.seen 5).index,h.num,h.num]else []
def fT(c s i:Int):List DMark:=if s !=0||i !=0 then [⟨c,s,i⟩]else []
def iG(r:List Int):Option DHead:=match r with
 |[n,b,t,s2,i2,s3,i3,s4,i4,s5,i5,x,y]=>
  let h:DHead:=⟨n,b,t,fT 2 s2 i2++fT 3 s3 i3++fT 4 s4 i4++fT 5 s5 i5⟩
  if di h&&x==n&&y==n then some h else none
 |_=>none
theorem xp(e:iG r=some h):di h=true:=by
 unfold iG at e;split at e
 ·simp only at e;split at e
  ·rename_i hc;injection e with e
   subst e;simp only[and_eq_true]at hc;exact hc.1.1
  ·cases e
 ·cases e
theorem dy(e:di h=true):(0<=h.base/\h.base<=2000)/\(0<=h.num/\h.num<=h.base)/\(0<=h.time/\h.time<=1000000)/\(0<h.base\/h.time=0)/\cA h.seen=true/\bY h.seen=h.base:=by
 simp only[di,tOk,aJ,and_eq_true,Bool.or_eq_true,decide_eq_true_eq,beq_iff_eq]at e;exact⟨e.1.1.1.1.1,e.1.1.1.1.2,e.1.1.1.2,e.1.1.2,e.1.2,e.2⟩
theorem rz(h:cA s=true)(c:Int):(0<=(bU s c).seq/\(bU s c).seq<=2000)/\0<=(bU s c).index/\(bU s c).index<=2000:=by
 unfold bU;cases e:s.find? (λm=>m.client==c)with
 |none=>simp
 |some m=>
  have hm:=List.mem_of_find?_eq_some e;simp only[cA,and_eq_true,all_eq_true]at h;have:=h.1.1 m hm;simp only[fj,aJ,and_eq_true,decide_eq_true_eq]at this;simp only[Option.getD_some];omega
theorem EE(h:DHead):ck (fH h)=true/\(fH h).length<48:=by
 cases e:di h with
 |false=>simp[fH,e,ck]
 |true=>
  obtain⟨h1,h2,h3,h4,h5,h6⟩:=dy e;have m2:=rz h5 2;have m3:=rz h5 3;have m4:=rz h5 4;have m5:=rz h5 5;refine⟨uR ⟨by simp[fH,e],λx hx=>?_⟩,by simp[fH,e]⟩;simp only[fH,e,if_true,mem_cons,not_mem_nil,or_false]at hx;omega
def uE(b:Option DHead)(h:DHead):Bool:=match b with
 |some x=>decide (x.num<h.num)
 |none=>true
def ce(a:Int)(b:Option DHead)(r:List Int):Option DHead:=match iG r with
 |some h=>if h.num % 2==a&&uE b h then some h else b
 |none=>b
def iU(t:DTwo):Option DHead:=(eY t 1).foldl (ce 1) ((eY t 0).foldl (ce 0) none)
theorem JE{b:Option DHead}(h:∀x,b=some x->di x=true):∀x,ce a b r=some x->di x=true:=by
 intro x hx;unfold ce at hx;split at hx
 ·rename_i y hy;have hy':=xp hy;by_cases hc:(y.num % 2==a&&uE b y)=true
  ·rw[if_pos hc]at hx;injection hx with hx;subst hx;exact hy'
  ·rw[if_neg hc]at hx;exact h x hx
 ·exact h x hx
theorem ut:∀{l:List (List Int)} {b:Option DHead},(∀x,b=some x->di x=true)->∀x,l.foldl (ce a) b=some x->di x=true
 |[],_,h=>h
 |r::l,b,h=>ut (l:=l) (b:=ce a b r) (JE h)
theorem p9(e:iU t=some h):di h=true:=
 ut (ut (λx hx=>by cases hx)) h e
def o5(b:DBook):Int:=match b.entries.getLast? with|some e=>e.time|none=>b.time
def mC(b:DBook)(e:DEntry):Bool:=cj e&&e.index==bp b+1&&decide (o5 b<=e.time)&&decide (b.entries.length<20)
def tO(b:DBook)(e:DEntry):DBook:=⟨b.base,b.time,b.entries++[e]⟩
theorem du(h:cF b=true):(0<=b.base/\b.base<=2000)/\(0<=b.time/\b.time<=1000000)/\(b.base=0->b.time=0)/\b.entries.length<=20/\dT b.entries=true/\(∀e,b.entries[0]? =some e->e.index=b.base+1/\b.time<=e.time):=by
 simp only[cF,tOk,aJ,and_eq_true,decide_eq_true_eq,Bool.not_eq_true',Bool.and_eq_false_iff,beq_eq_false_iff_ne,bne_eq_false_iff_eq]at h;refine⟨h.1.1.1.1.1,h.1.1.1.1.2,λe=>?_,h.1.1.2,h.1.2,λe he=>?_⟩
 ·rcases h.1.1.1.2 with h|h
  ·exact absurd e h
  ·exact h
 ·have h2:=h.2;cases hb:b.entries with
  |nil=>rw[hb]at he;cases he
  |cons x r=>
   rw[hb]at he h2;injection he with he
   subst he;simpa using h2
theorem FH(h:(0<=b.base/\b.base<=2000)/\(0<=b.time/\b.time<=1000000)/\(b.base=0->b.time=0)/\b.entries.length<=20/\dT b.entries=true/\(∀e,b.entries[0]? =some e->e.index=b.base+1/\b.time<=e.time)):cF b=true:=by
 simp only[cF,tOk,aJ,and_eq_true,decide_eq_true_eq,Bool.not_eq_true',Bool.and_eq_false_iff,beq_eq_false_iff_ne,bne_eq_false_iff_eq];refine⟨⟨⟨⟨⟨h.1,h.2.1⟩,?_⟩,h.2.2.2.1⟩,h.2.2.2.2.1⟩,?_⟩
 ·by_cases e:b.base=0
  ·exact .inr (h.2.2.1 e)
  ·exact .inl e
 ·cases hb:b.entries with
  |nil=>rfl
  |cons x r=>
   have:=h.2.2.2.2.2 x (by rw[hb];rfl);simpa using this
theorem iN{l:List DEntry}(h:dT l=true):l.length<=2000/\(∀e∈l,cj e=true)/\kE mN l=true:=by
 simp only[dT,and_eq_true,decide_eq_true_eq,all_eq_true]at h;exact⟨h.1.1,h.1.2,h.2⟩
theorem FD{α:Type}{Q:α->α->Bool}:∀{l:List α} {x:α},kE Q l=true->(∀y,l.getLast? =some y->Q y x=true)->kE Q (l++[x])=true
 |[],_,_,_=>rfl
 |[y],x,_,h=>by simp[kE,h y rfl]
 |y::z::r,x,h,hl=>by
  simp only[kE,and_eq_true,List.cons_append]at h⊢;refine⟨h.1,FD (l:=z::r) h.2 λw hw=>hl w ?_⟩;rw[List.getLast?_cons_cons];exact hw
theorem Qg(h:cF b=true):∀(k:Nat) (hk:k<b.entries.length),b.entries[k].index=b.base+1+k:=by
 obtain⟨h1,h2,h3,h4,h5,h6⟩:=du h;obtain⟨e1,e2,e3⟩:=iN h5;intro k;induction k with
 |zero=>intro hk;have:=(h6 b.entries[0] (List.getElem?_eq_getElem hk)).1;omega
 |succ k ih=>
  intro hk;have:=nW e3 hk;simp only[mN,and_eq_true,beq_iff_eq,decide_eq_true_eq]at this;have:=ih aa;omega
theorem Ja(h:cF b=true)(he:b.entries.getLast? =some e):e.index=bp b:=by
 rw[List.getLast?_eq_getElem?]at he;obtain⟨hlt,hg⟩:=List.getElem?_eq_some_iff.1 he;have:=Qg h _ hlt;rw[hg]at this;unfold bp;omega
theorem LY(h:cF b=true)(hf:mC b e=true):cF (tO b e)=true:=by
 obtain⟨h1,h2,h3,h4,h5,h6⟩:=du h;obtain⟨e1,e2,e3⟩:=iN h5;simp only[mC,and_eq_true,decide_eq_true_eq,beq_iff_eq]at hf;obtain⟨⟨⟨f1,f2⟩,f3⟩,f4⟩:=hf;refine FH ⟨h1,h2,h3,by simp[tO];omega,?_,λx hx=>?_⟩
 ·simp only[dT,tO,and_eq_true,decide_eq_true_eq,all_eq_true];refine⟨⟨by simp;omega,λx hx=>?_⟩,FD e3 λy hy=>?_⟩
  ·rcases mem_append.1 hx with hx|hx
   ·exact e2 x hx
   ·rw[mem_singleton.1 hx];exact f1
  ·have:=Ja h hy;simp only[mN,and_eq_true,beq_iff_eq,decide_eq_true_eq];unfold o5 at f3;rw[hy]at f3;exact⟨aa,f3⟩
 ·simp only[tO]at hx⊢;cases hb:b.entries with
  |nil=>
   rw[hb]at hx;injection hx with hx
   subst hx;simp only[o5,bp,hb,List.getLast?_nil,List.length_nil]at f3 f2;exact⟨aa,f3⟩
  |cons y r=>
   rw[hb]at hx;exact h6 x (by rw[hb];simpa using hx)
def jp(t:DTwo)(b:DBook)(s:List DMark)(r:List Int):Option DEntry:=match ez r with
 |some e=>if e.index==bp b+1&&mC b e&&(dC s e).isSome then some e else none
 |none=>none
def j8(t:DTwo)(b:DBook)(s:List DMark):Option DEntry:=(eY t (bW (bp b+1))).findSome? (jp t b s)
theorem nA(h:j8 t b s=some e):cj e=true/\e.index=bp b+1/\mC b e=true/\dC s e=some (putMark s e.mark):=by
 obtain⟨r,_,hr⟩:=List.exists_of_findSome?_eq_some h;unfold jp at hr;split at hr
 ·rename_i y hy;split at hr
  ·rename_i hc;injection hr with hr
   subst hr;simp only[and_eq_true,beq_iff_eq]at hc;refine⟨DW hy,hc.1.1,hc.1.2,?_⟩;have:=hc.2;unfold dC at this⊢;split
   ·rfl
   ·rename_i hn;rw[if_neg hn]at this;cases this
  ·cases hr
 ·cases hr
def jk(t:DTwo):Nat->DBook->List DMark->DBook×List DMark
 |0,b,s=>(b,s)
 |n+1,b,s=>match j8 t b s with
  |some e=>jk t n (tO b e) (putMark s e.mark)
  |none=>(b,s)
def wl(h:DHead):DBook:=⟨h.base,h.time,[]⟩
def eC(t:DTwo)(h:DHead):DBook×List DMark:=jk t 21 (wl h) h.seen
structure na (h:DHead) (b:DBook) (s:List DMark):Prop where
 ok:cF b=true
 base:b.base=h.base
 time:b.time=h.time
 fold:cN h.seen b.entries=some s
 seen:cA s=true
theorem YP(e:di h=true):na h (wl h) h.seen:=by
 obtain⟨h1,h2,h3,h4,h5,h6⟩:=dy e;exact⟨FH ⟨h1,h3,λhb=>by simp only[wl]at hb⊢;omega,by simp[wl],by simp[dT,kE,wl],λx hx=>by simp[wl]at hx⟩,rfl,rfl,rfl,h5⟩
theorem na.add(g:na h b s)(hf:mC b e=true)(hm:dC s e=some (putMark s e.mark)):na h (tO b e) (putMark s e.mark):=by
 refine⟨LY g.ok hf,g.base,g.time,?_,(Ak g.seen hm).1⟩;show cN h.seen (b.entries++[e])=_;rw[mE,g.fold];show cN s [e]=_;simp[cN,hm]
theorem ZZ:∀(n:Nat) {b:DBook} {s:List DMark},na h b s->na h (jk t n b s).1 (jk t n b s).2
 |0,_,_,g=>g
 |n+1,b,s,g=>by
  unfold jk;split
  ·rename_i e he;obtain⟨_,_,f,m⟩:=nA he;exact ZZ n (g.add f m)
  ·exact g
def gW(h:DHead)(b:DBook):List (List Int):=b.entries.foldl (λl e=>l.set (bW e.index).toNat (bx e)) ((List.replicate 22 []).set (h.num % 2).toNat (fH h))
theorem K9{l:List (List Int)}(h:∀y∈l,ck y=true/\y.length<48)(hr:ck r=true/\r.length<48):∀y∈l.set k r,ck y=true/\y.length<48:=λy hy=>by
 rcases List.mem_or_eq_of_mem_set hy with hy|rfl
 ·exact h y hy
 ·exact hr
theorem xY:∀{es:List DEntry} {l:List (List Int)},(∀y∈l,ck y=true/\y.length<48)->∀y∈es.foldl (λl e=>l.set (bW e.index).toNat (bx e)) l,ck y=true/\y.length<48
 |[],_,h=>h
 |e::es,l,h=>xY (es:=es) (K9 h (EY e))
theorem um:∀(es:List DEntry) (l:List (List Int)),(es.foldl (λl e=>l.set (bW e.index).toNat (bx e)) l).length=l.length
 |[],_=>rfl
 |e::es,l=>by rw[List.foldl_cons,um];simp
theorem iH(h:DHead)(b:DBook):(gW h b).length=22:=by rw[gW,um];simp
theorem vP(h:DHead)(b:DBook):∀y∈gW h b,ck y=true/\y.length<48:=
 xY (K9 (λy hy=>by rw[List.eq_of_mem_replicate hy];exact⟨rfl,by simp⟩) (EE h))
def nB(h:DHead)(b:DBook):DDisk:=⟨(gW h b).map fx,[]⟩
def m7(h:DHead)(b:DBook):DTwo:=⟨nB h b,nB h b⟩
theorem DT(h:DHead)(b:DBook):db (nB h b)=true:=by
 have hl:=iH h b;refine nI ⟨by simp[nB,hl],by simp[nB,hl],by simp[nB],λy hy=>?_,by simp[nB]⟩;obtain⟨r,hr,rfl⟩:=mem_map.1 hy;obtain⟨h1,h2⟩:=vP h b r hr;exact ke h1 h2
theorem O3(h:DHead)(b:DBook):ee (m7 h b)=true:=by
 simp only[ee,eO,and_eq_true,decide_eq_true_eq];exact⟨⟨⟨DT h b,DT h b⟩,rfl⟩,by simp[m7,nB,iH]⟩
def Tw(t:DTwo)(a:Int)(r:List Int):DTwo:=dY (xt t a r)
theorem OW{k:List (List Int)}{a:Nat}:eN (m9 ⟨k,[]⟩ (a:Int) r)=⟨k.set a r,[]⟩:=by simp[eN,m9,lC,Ea]
def nj(h:DHead)(b:DBook)(k0:List (List Int))(j:Nat):List (List Int):=((gW h b).map fx).take j++k0.drop j
theorem Dt(hk:k0.length=22)(hj:j<22):(nj h b k0 j).set j (fx ((gW h b)[j]'(by rw[iH];exact hj)))=nj h b k0 (j+1):=by
 have hl:=iH h b;apply List.ext_getElem?;intro i;have hlen:(((gW h b).map fx).take j).length=j:=by simp[hl];omega
 have hlen2:(((gW h b).map fx).take (j+1)).length=j+1:=by simp[hl];omega
 unfold nj;rcases Nat.lt_trichotomy i j with hi|hi|hi
 ·rw[List.getElem?_set_ne aa,List.getElem?_append_left aa,List.getElem?_append_left aa,List.getElem?_take_of_lt hi,List.getElem?_take_of_lt aa]
 ·subst hi;rw[List.getElem?_set_self (by simp[hl];omega),List.getElem?_append_left aa,List.getElem?_take_of_lt aa];simp[hl,hj]
 ·rw[List.getElem?_set_ne aa,List.getElem?_append_right aa,List.getElem?_append_right aa,hlen,hlen2,List.getElem?_drop,List.getElem?_drop];congr 1;omega
theorem Du(h:DHead)(b:DBook)(k0:List (List Int)):nj h b k0 0=k0:=by simp[nj]
theorem vF(hk:k0.length=22):nj h b k0 22=(gW h b).map fx:=by
 have hl:=iH h b;unfold nj;rw[List.take_of_length_le (by simp[hl]),List.drop_of_length_le aa,List.append_nil]
def dr (n : DLogNode) : Option DLogNode := if ee n.two then (match iU n.two with
 |some h=>some ⟨m7 h (eC n.two h).1,h,g9,false,(eC n.two h).1,(eC n.two h).2,bp (eC n.two h).1,[]⟩
 |none=>none)else none
theorem kK(e:di h=true):na h (eC t h).1 (eC t h).2:=ZZ 21 (YP e)
theorem uP{n m:DLogNode}(h:dr n=some m):mM m=true:=by
 unfold dr at h;split at h
 ·split at h
  ·rename_i hd hh;injection h with h
   subst h;have ho:=p9 hh;have g:=kK (t:=n.two) ho;generalize eC n.two hd=p at g;obtain⟨b,s⟩:=p;simp only at g;obtain⟨h1,h2,h3,h4,h5,h6⟩:=dy ho;obtain⟨b1,b2,b3,b4,b5,b6⟩:=du g.ok;have hov:=qg h5 aa g.fold;have hown:gM b (bp b)=[]:=by
    unfold gM;rw[List.filter_eq_nil_iff];intro x hx;obtain⟨k,hk,rfl⟩:=List.getElem_of_mem hx;have:=Qg g.ok k hk;simp only[decide_eq_true_eq];unfold bp;omega
   simp only[mM,and_eq_true,beq_iff_eq];refine⟨⟨⟨⟨⟨⟨⟨⟨O3 hd b,ho⟩,g.ok⟩,g.base⟩,g.time⟩,hov⟩,?_⟩,?_⟩,?_⟩
   ·simp only[aJ,and_eq_true,decide_eq_true_eq];unfold bp;omega
   ·rw[hown];rfl
   ·simp[la]
  ·cases h
 ·cases h
end
end Go.Proofs.YtpdmakdpnejnfaaGreat
