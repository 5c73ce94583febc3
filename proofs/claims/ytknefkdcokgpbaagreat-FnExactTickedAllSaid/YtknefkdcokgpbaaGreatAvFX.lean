/- AvFX -/
import Derived.Test.YtknefkdcokgpbaaGreatAvPL
import Derived.Test.YtknefkdcokgpbaaGreatAvFO
import Derived.Test.YtknefkdcokgpbaaGreatAvJ3
import Derived.Lib.BufferWrite
import Derived.Test.YtknefkdcokgpbaaGreatAwx
import Derived.Test.YtknefkdcokgpbaaGreatWData
import Derived.Test.YtknefkdcokgpbaaGreatAvDT
set_option maxHeartbeats 8000000
set_option linter.unusedVariables false
set_option linter.unusedSimpArgs false
set_option maxRecDepth 100000
open List (all_eq_true getElem?_append_left getElem?_append_right getElem?_map map_cons map_map mem_cons mem_map mem_of_getElem? nodup_cons)
open Option (map_eq_some_iff)
namespace Go.Proofs.YtknefkdcokgpbaaGreat
section
open Go.RowKit
def cJ(lo hi:Nat)(cs ds:List AD):Prop:=
 cs.length=ds.length/\∃Q:Nat->Nat->Prop,(∀i b,Q i b->lo<=b/\b<hi)/\(∀i j b,Q i b->Q j b->i=j)/\∀(i:Nat) c d,cs[i]? =some c->ds[i]? =some d->∀(Z:Nat->Prop) (w:World) (u:Value),bR Z w c u->bW w (λb=>Q i b/\Z b) d u
theorem cJ.fam{lo hi:Nat}{cs ds:List AD}(h:cJ lo hi cs ds):Fam lo hi cs ds:=by
 obtain⟨hl,Q,q,eQ,rQ⟩:=h;refine⟨hl,λZ w us hu hr=>⟨by rw[hu,hl],λi b=>Q i b/\Z b,λi b h=>⟨(q i b h.1).1,(q i b h.1).2,h.2⟩,λi j b h h'=>eQ i j b h.1 h'.1,λi a u ha hx=>?_⟩⟩;have hi:i<cs.length:=by rw[hl];exact(List.getElem?_eq_some_iff.1 ha).1
 exact rQ i cs[i] a (List.getElem?_eq_getElem hi) ha Z w u (hr i _ u (List.getElem?_eq_getElem hi) hx)
theorem cJ.set{lo hi:Nat}{cs ds:List AD}(h:cJ lo hi cs ds)(k:Nat){d:AD}(hb:d.isBl=true):cJ lo hi (cs.set k d) (ds.set k d):=by
 obtain⟨hl,Q,q,eQ,rQ⟩:=h;refine⟨by simp[hl],λi b=>i≠k/\Q i b,λi b h=>q i b h.2,λi j b h h'=>eQ i j b h.2 h'.2,λi c a hc ha Z w u hr=>?_⟩;rw[List.getElem?_set]at hc ha;by_cases hk:k=i
 ·rw[if_pos hk]at hc ha;split at hc
  ·split at ha
   ·injection hc with hc
    injection ha with ha
    subst hc ha;exact Hz hb hr
   ·cases ha
  ·cases hc
 ·rw[if_neg hk]at hc ha;exact(rQ i c a hc ha Z w u hr).mono λb hb=>⟨⟨λe=>hk e.symm,hb.1⟩,hb.2⟩
section
variable {E:bB} {S:bV}
theorem Yh{f:FuncId}{args:List AV}{tm:List AV}{ob:List (Nat×AO)}{K:AV->ASt->Prop}{ps:List AP1}{res:AP1}{m:Nat}(hc:ce E f ps res)(hps:aRs ob args (· =ps))(hm:aOb ob 9997 λo=>o=cH S.w0.heap.size m)
  (hk:∀R lo hi,m<=lo->lo<=hi->cJ lo hi (bS R 0 (eA res)) (eA res)->gH 9997 (cH S.w0.heap.size hi) ob λob=>K (JI R res) ⟨tm,ob⟩):aG E S f args ⟨tm,ob⟩ K:=by
 refine⟨hc.enter,λZ ρ a w us hs hl hr=>?_⟩;obtain⟨ps',h1,h2,rfl⟩:=fX hs.ws hl hr hps;obtain⟨o,ho,rfl⟩:=co hm;have hmark:=td (hs.ws.obj 9997 _ ho);have hρ:ρ 9997=undef:=(hs.ws.obj 9997 _ ho).1;have hmle:m<=w.heap.size:=by
  rcases hmark with h|⟨k,e,h⟩
  ·exact Nat.le_trans h hs.ws.size
  ·have:=hs.ws.zlt k h;omega
 refine(hc.run (gG Z ρ ob) w us (gG.lt hs.ws) ?_ h1 h2).mono ?_
 ·obtain⟨w1,g1,g2,g3⟩:=hs.ws.g;exact⟨w1,g1,g2,λb hb=> .inl (g3 b hb)⟩
 ·rintro e w' ⟨v,rfl,hb,hv⟩;have hsz:=hb.size;obtain⟨us',hf,hvu⟩:∃us',cV w' (λb=>w.heap.size<=b/\b<w'.heap.size) (eA res) us'/\(match res with| .one _=>us'=[v]| .agg _=>v= .agg us'.toArray):=by
   cases res with
   |one d=>exact⟨[v],hv,rfl⟩
   |agg ds=>obtain⟨us',e,h⟩:=hv;exact⟨us',h,e⟩
  obtain⟨lF,Q,q,eQ,rQ⟩:=hf;let R:Nat->(Nat->Prop)->World->Value->Prop:=λi Zx wx u=>(∀b,Q i b->Zx b)/\∃a,(eA res)[i]? =some a/\bW wx (Q i) a u
  let Z':Nat->Prop:=λb=>Z b\/(w.heap.size<=b/\b<w'.heap.size)
  have hg:=hs.grow (Z':=Z') (dL hb) (λb h=> .inl h) λb h=>h;have hcell:∀(i:Nat) c u,(bS R 0 (eA res))[i]? =some c->us'[i]? =some u->bR Z' w' c u:=by
   intro i c u hc hu;obtain⟨d,hd,h⟩:=iS R hc;have ht:=rQ i d u hd hu;rcases h with⟨x,rfl,rfl⟩|h
   ·cases ht with|pv _ _ h1=>exact .pv _ h1
   ·rw[Nat.zero_add]at h;subst h;refine .x _ _ ht.one λZx wx hzx hbx=>⟨λb hb=>hzx b (.inr (q i b hb)),d,hd,ht.keep λb hb=>hbx b (.inr (q i b hb))⟩
  have hfam:∀lo hi:Nat,(∀b,w.heap.size<=b->b<w'.heap.size->lo<=b/\b<hi)->cJ lo hi (bS R 0 (eA res)) (eA res):=by
   intro lo hi hlh;refine⟨dq R _ _,Q,λi b h=>hlh b (q i b h).1 (q i b h).2,eQ,λi c a hc ha Zx wx u hrel=>?_⟩;obtain⟨d,hd,h⟩:=iS R hc;rw[ha]at hd;injection hd with hd
   subst hd;rcases h with⟨x,e1,e2⟩|h
   ·rw[e2]at hrel;rw[e1];cases hrel with|pv _ h1=>exact .pv _ _ h1
   ·rw[h,Nat.zero_add]at hrel;cases hrel with
    |x _ _ h1 hR=>
     obtain⟨hz,a',ha',ht⟩:=hR Zx wx (λ_ h=>h) λ_ _=>rfl;rw[ha]at ha';injection ha' with ha'
     subst ha';exact ht.mono λb hb=>⟨hb,hz b hb⟩
  have hval:bX Z' w' ρ (JI R res) v:=by
   cases res with
   |one d=>
    simp only at hvu;subst hvu;cases d with
    |pv x=>exact .one _ _ (hcell 0 (.pv x) v rfl rfl)
    |sl xs=>exact .one _ _ (hcell 0 (.x (R 0)) v rfl rfl)
    |x R'=>exact .one _ _ (hcell 0 (.x (R 0)) v rfl rfl)
   |agg ds=>
    simp only at hvu;subst hvu;refine .agg _ us' (by rw[List.length_map,dq];exact lF) λi c u hc hu=>?_;rw[List.getElem?_map]at hc;obtain⟨d,hd,rfl⟩:=Option.map_eq_some_iff.1 hc;exact hcell i d u hd hu
  have fin:∀hi:Nat,(hi<=S.w0.heap.size\/∃k,hi=k+1/\Z' k)->Sim E.W S Z' ρ ⟨tm,fj ob 9997 (cH S.w0.heap.size hi)⟩ a w':=λhi h=>
   ⟨hg.ws.reframe (je hρ h),hg.len,hg.tm,hg.df⟩
  by_cases hlt:w.heap.size<w'.heap.size
  ·refine⟨v,_,_,Z',ρ,rfl,fin w'.heap.size (.inr ⟨w'.heap.size-1,ac,.inr ac⟩),hval,dl (K:=λob=>K (JI R res) ⟨tm,ob⟩) (hk R w.heap.size w'.heap.size hmle hsz (hfam _ _ λb h1 h2=>⟨h1,h2⟩))⟩
  ·refine⟨v,_,_,Z',ρ,rfl,fin m ?_,hval,dl (K:=λob=>K (JI R res) ⟨tm,ob⟩) (hk R m m (Nat.le_refl _) (Nat.le_refl _) (hfam _ _ λb h1 h2=>by omega))⟩;rcases hmark with h|⟨k,e,h⟩
   ·exact .inl h
   ·exact .inr ⟨k,e,.inl h⟩
end
end
section
open Go.RowKit
def AsD(c d:AD):Prop:=∀(Z:Nat->Prop) (w:World) (u:Value),bR Z w c u->bR Z w d u
def AsV(x y:AV):Prop:=∀(Z:Nat->Prop) (w:World) (ρ:Nat->Value) (u:Value),bX Z w ρ x u->bX Z w ρ y u
def H2:List AV->List AV->Prop
 |[],[]=>True
 |x::r,y::q=>AsV x y/\H2 r q
 |_,_=>False
theorem AsV.refl(x:AV):AsV x x:=λ_ _ _ _ h=>h
theorem AsV.d{c d:AD}(h:AsD c d):AsV (.one (.d c)) (.one (.d d)):=λZ w ρ u hr=>by
 cases hr with
 |one _ _ hr=>exact .one _ _ (show bR Z w d u from h Z w u hr)
theorem H2.len:∀{xs ys:List AV},H2 xs ys->xs.length=ys.length
 |[],[],_=>rfl
 |[],_::_,h=>h.elim
 |_::_,[],h=>h.elim
 |_::r,_::q,h=>by simp[H2.len h.2]
theorem H2.get:∀{xs ys:List AV},H2 xs ys->∀{i:Nat} {y:AV},ys[i]? =some y->∃x,xs[i]? =some x/\AsV x y
 |[],[],_,i,y,hy=>by simp at hy
 |[],_::_,h,_,_,_=>h.elim
 |_::_,[],h,_,_,_=>h.elim
 |x::r,z::q,h,0,y,hy=>by simp at hy;subst hy;exact⟨x,rfl,h.1⟩
 |x::r,z::q,h,i+1,y,hy=>by
  obtain⟨x',h1,h2⟩:=H2.get h.2 (i:=i) (by simpa using hy);exact⟨x',by simpa using h1,h2⟩
section
variable {E:bB} {S:bV}
theorem YD{f:FuncId}{args:List AV}{st:ASt}{K:AV->ASt->Prop}(args':List AV)(hr:H2 args args')(h:aG E S f args' st K):aG E S f args st K:=by
 refine⟨h.enter,λZ ρ a w us hs hl hu=>h.run Z ρ a w us hs (by rw[hl,hr.len]) λi y u hy hv=>?_⟩;obtain⟨x,hx,ha⟩:=hr.get hy;exact ha _ _ _ _ (hu i x u hx hv)
theorem ZM{f:FuncId}{args:List AV}{st:ASt}{K:AV->ASt->Prop}(g:AV->AV)(hg:∀x,AsV x (g x))(h:aG E S f args st λx st=>K (g x) st):aG E S f args st K:=by
 refine⟨h.enter,λZ ρ a w us hs hl hu=>(h.run Z ρ a w us hs hl hu).mono ?_⟩;rintro e w' ⟨v,r,st',Z',ρ',h1,h2,h3,h4⟩;exact⟨v,g r,st',Z',ρ',h1,h2,hg r _ _ _ _ h3,h4⟩
end
def St:AC->AC
 | .d (.pv (.slice none 0 0))=> .nil
 |c=>c
def Ua:AV->AV
 | .one c=> .one (St c)
 | .agg cs=> .agg (cs.map St)
 |v=>v
theorem M4{Z:Nat->Prop}{w:World}{ρ:Nat->Value}{c:AC}{v:Value}(h:dW Z w ρ c v):dW Z w ρ (St c) v:=by
 unfold St;split
 ·have h:bR Z w (.pv (.slice none 0 0)) v:=h;cases h;rfl
 ·exact h
theorem M5(x:AV):AsV x (Ua x):=λZ w ρ u h=>by
 cases h with
 |one c v h=>exact .one _ _ (M4 h)
 |agg cs us hl h=>
  refine .agg _ us (by simp[hl]) λi c u hc hu=>?_;rw[getElem?_map]at hc;obtain⟨c0,h0,rfl⟩:=Option.map_eq_some_iff.1 hc;exact M4 (h i c0 u h0 hu)
 |tup vs us hl h=>exact .tup vs us hl h
section
variable {lo hi:Nat} {cs ds:List AD}
theorem cJ.at(h:cJ lo hi cs ds){i:Nat}{c d:AD}(hc:cs[i]? =some c)(hd:ds[i]? =some d):AsD c d:=by
 obtain⟨hl,Q,q,eQ,rQ⟩:=h;exact λZ w u hr=>(rQ i c d hc hd Z w u hr).relD λb hb=>hb.2
theorem cJ.asV(h:cJ lo hi cs ds):AsV (.agg (cs.map .d)) (.agg (ds.map .d)):=λZ w ρ u hr=>by
 cases hr with
 |agg _ us hl hr=>
  refine .agg _ us (by simpa[h.1]using hl) λi c u hc hu=>?_;rw[getElem?_map]at hc;obtain⟨d,hd,rfl⟩:=Option.map_eq_some_iff.1 hc;have hi:i<cs.length:=by rw[h.1];exact(List.getElem?_eq_some_iff.1 hd).1
  exact h.at (List.getElem?_eq_getElem hi) hd Z w u (show dW Z w ρ (.d cs[i]) u from hr i (.d cs[i]) u (by rw[getElem?_map,List.getElem?_eq_getElem hi];rfl) hu)
theorem cJ.mono{lo' hi':Nat}(h:cJ lo hi cs ds)(h1:lo'<=lo)(h2:hi<=hi'):cJ lo' hi' cs ds:=by
 obtain⟨hl,Q,q,eQ,rQ⟩:=h;exact⟨hl,Q,λi b h=>by have:=q i b h;omega,eQ,rQ⟩
theorem Yn{ds:List AD}(h:ds.all AD.isBl=true):cJ lo hi ds ds:=by
 refine⟨rfl,λ_ _=>False,λ_ _ h=>h.elim,λ_ _ _ h=>h.elim,λi c d hc hd Z w u hr=>?_⟩;rw[hc]at hd;injection hd with hd
 subst hd;exact Hz (List.all_eq_true.1 h c (List.mem_of_getElem? hc)) hr
theorem cJ.sel(h:cJ lo hi cs ds){cs' ds':List AD}(ix:Nat->Nat)(hl:cs'.length=ds'.length)(h1:∀i,i<cs'.length->cs'[i]? =cs[ix i]?/\ds'[i]? =ds[ix i]?)(h2:∀i j,i<cs'.length->j<cs'.length->ix i=ix j->i=j):cJ lo hi cs' ds':=by
 obtain⟨_,Q,q,eQ,rQ⟩:=h;refine⟨hl,λi b=>i<cs'.length/\Q (ix i) b,λi b hb=>q _ b hb.2,λi j b hb hb'=>h2 i j hb.1 hb'.1 (eQ _ _ b hb.2 hb'.2),λi c d hc hd Z w u hr=>?_⟩;have hi:i<cs'.length:=(List.getElem?_eq_some_iff.1 hc).1;obtain⟨e1,e2⟩:=h1 i hi;exact(rQ (ix i) c d (by rw[<-e1];exact hc) (by rw[<-e2];exact hd) Z w u hr).mono λb hb=>⟨⟨hi,hb.1⟩,hb.2⟩
theorem cJ.app{l2 h2 L H:Nat}{c2 d2:List AD}(h:cJ lo hi cs ds)(h':cJ l2 h2 c2 d2)(e:hi<=l2\/h2<=lo)(e1:L<=lo/\L<=l2)(e2:hi<=H/\h2<=H):cJ L H (cs++c2) (ds++d2):=by
 obtain⟨hl,Q,q,eQ,rQ⟩:=h;obtain⟨hl2,Q2,q2,eQ2,rQ2⟩:=h';refine⟨by simp[hl,hl2],λi b=>if i<cs.length then Q i b else Q2 (i-cs.length) b,λi b hb=>?_,λi j b hb hb'=>?_,λi c d hc hd Z w u hr=>?_⟩
 ·simp only at hb;split at hb
  ·have:=q i b hb;omega
  ·have:=q2 _ b hb;omega
 ·simp only at hb hb';split at hb<;>split at hb'
  ·exact eQ _ _ b hb hb'
  ·have:=q _ b hb;have:=q2 _ b hb';omega
  ·have:=q2 _ b hb;have:=q _ b hb';omega
  ·have:=eQ2 _ _ b hb hb';omega
 ·by_cases hi:i<cs.length
  ·rw[getElem?_append_left hi]at hc;rw[getElem?_append_left ac]at hd;simp only[if_pos hi];exact rQ i c d hc hd Z w u hr
  ·rw[getElem?_append_right ac]at hc;rw[getElem?_append_right ac,<-hl]at hd;simp only[if_neg hi];exact rQ2 _ c d hc hd Z w u hr
theorem cJ.part(h:cJ lo hi cs ds)(k n:Nat):cJ lo hi ((cs.drop k).take n) ((ds.drop k).take n):=by
 refine h.sel (λi=>k+i) (by simp[h.1]) (λi hi=>?_) λi j _ _ e=>by omega
 have:i<n:=by simp at hi;omega
 exact⟨by rw[List.getElem?_take,if_pos this,List.getElem?_drop],by rw[List.getElem?_take,if_pos this,List.getElem?_drop]⟩
end
def gU:List AP1->List AD
 |[]=>[]
 | .one d::r=>d::gU r
 | .agg ds::r=>ds++gU r
inductive jA:List AP1->List Value->List Value->Prop
 |nil:jA [] [] []
 |one (d:AD) (v:Value) {ps:List AP1} {vs us:List Value} (h:jA ps vs us):jA (.one d::ps) (v::vs) (v::us)
 |agg (ds:List AD) (xs:List Value) {ps:List AP1} {vs us:List Value} (hl:xs.length=ds.length) (h:jA ps vs us):jA (.agg ds::ps) (.agg xs.toArray::vs) (xs++us)
theorem jA.len{ps:List AP1}{vs us:List Value}(h:jA ps vs us):vs.length=ps.length/\us.length=(gU ps).length:=by
 induction h with
 |nil=>exact⟨rfl,rfl⟩
 |one d v h ih=>exact⟨by simp[ih.1],by simp[gU,ih.2]⟩
 |agg ds xs hl h ih=>exact⟨by simp[ih.1],by simp[gU,ih.2,hl]⟩
theorem jA.relP{Z:Nat->Prop}{w:World}{ps:List AP1}{vs us:List Value}(h:jA ps vs us):(∀(i:Nat) a u,(gU ps)[i]? =some a->us[i]? =some u->bR Z w a u)->∀(i:Nat) p v,ps[i]? =some p->vs[i]? =some v->dE Z w p v:=by
 induction h with
 |nil=>intro _ i p v hp;simp at hp
 |one d v0 h ih=>
  intro hr i p v hp hv;cases i with
  |zero=>simp at hp hv;subst hp hv;exact hr 0 d v0 rfl rfl
  |succ i=>exact ih (λj a u ha hu=>hr (j+1) a u (by simpa[gU]using ha) (by simpa using hu)) i p v (by simpa using hp) (by simpa using hv)
 |agg ds xs hl h ih=>
  intro hr i p v hp hv;cases i with
  |zero=>
   simp at hp hv;subst hp hv;refine⟨xs,rfl,hl,λj a u ha hu=>hr j a u ?_ ?_⟩
   ·show(ds++gU _)[j]? =_;rw[getElem?_append_left (List.getElem?_eq_some_iff.1 ha).1];exact ha
   ·rw[getElem?_append_left (List.getElem?_eq_some_iff.1 hu).1];exact hu
  |succ i=>
   refine ih (λj a u ha hu=>hr (ds.length+j) a u ?_ ?_) i p v (by simpa using hp) (by simpa using hv)
   ·show(ds++gU _)[_]? =_;rw[getElem?_append_right ac,Nat.add_sub_cancel_left];exact ha
   ·rw[getElem?_append_right ac,hl,Nat.add_sub_cancel_left];exact hu
theorem nk(R:Nat->(Nat->Prop)->World->Value->Prop):∀(xs ys:List AD) (k:Nat),bS R k (xs++ys)=bS R k xs++bS R (k+xs.length) ys
 |[],ys,k=>by simp[bS]
 |x::r,ys,k=>by
  have ih:=nk R r ys (k+1);rw[show k+(x::r).length=k+1+r.length by simp;omega];cases x<;>simp[bS,ih]
def Uy(R:Nat->(Nat->Prop)->World->Value->Prop)(k:Nat):AD->AD
 | .pv v=> .pv v
 |_=> .x (R k)
def nm(R:Nat->(Nat->Prop)->World->Value->Prop):Nat->List AP1->List AV
 |_,[]=>[]
 |k,.one d::r=> .one (.d (Uy R k d))::nm R (k+1) r
 |k,.agg ds::r=> .agg ((bS R k ds).map .d)::nm R (k+ds.length) r
theorem jA.relV{Z:Nat->Prop}{w:World}{ρ:Nat->Value}(R:Nat->(Nat->Prop)->World->Value->Prop){ps:List AP1}{vs us:List Value}(h:jA ps vs us):∀k,(∀(i:Nat) c u,(bS R k (gU ps))[i]? =some c->us[i]? =some u->bR Z w c u)->∀(i:Nat) x v,(nm R k ps)[i]? =some x->vs[i]? =some v->bX Z w ρ x v:=by
 induction h with
 |nil=>intro k _ i x v hp;simp[nm]at hp
 | @one d v0 ps0 vs0 us0 h ih=>
  intro k hr i x v hp hv;have e:bS R k (gU (.one d::ps0))=Uy R k d::bS R (k+1) (gU ps0):=by cases d<;>rfl
  rw[e]at hr;cases i with
  |zero=>simp[nm]at hp hv;subst hp hv;exact .one _ _ (hr 0 _ v0 rfl rfl)
  |succ i=>exact ih (k+1) (λj a u ha hu=>hr (j+1) a u (by simpa using ha) (by simpa using hu)) i x v (by simpa[nm]using hp) (by simpa using hv)
 | @agg ds xs ps0 vs0 us0 hl h ih=>
  intro k hr i x v hp hv;have e:bS R k (gU (.agg ds::ps0))=bS R k ds++bS R (k+ds.length) (gU ps0):=nk R ds _ k;rw[e]at hr;cases i with
  |zero=>
   simp[nm]at hp hv;subst hp hv;refine .agg _ xs (by simp[dq,hl]) λj c u hc hu=>?_;rw[getElem?_map]at hc;obtain⟨a,ha,rfl⟩:=Option.map_eq_some_iff.1 hc;exact hr j a u (by rw[getElem?_append_left (List.getElem?_eq_some_iff.1 ha).1];exact ha) (by rw[getElem?_append_left (List.getElem?_eq_some_iff.1 hu).1];exact hu)
  |succ i=>
   refine ih _ (λj a u ha hu=>hr (ds.length+j) a u ?_ ?_) i x v (by simpa[nm]using hp) (by simpa using hv)
   ·rw[getElem?_append_right (by rw[dq];omega),dq,Nat.add_sub_cancel_left];exact ha
   ·rw[getElem?_append_right ac,hl,Nat.add_sub_cancel_left];exact hu
def Tu(lo hi:Nat)(w:World)(ps:List AP1)(v:Value):Prop:=
 ∃vs us:List Value,v= .tuple vs.toArray/\jA ps vs us/\cV w (λb=>lo<=b/\b<hi) (gU ps) us
structure fC (E:bB) (f:FuncId) (args:List AP1) (res:List AP1):Prop where
 enter:∀(us:Array Value) w,(callFunc f us).run E.P w= .ok (.enter f us) w
 run:∀(Z:Nat->Prop) (w:World) (us:List Value),(∀b,Z b->b<w.heap.size)->GZ E.W Z w->us.length=args.length->(∀(i:Nat) p u,args[i]? =some p->us[i]? =some u->dE Z w p u)->
  Calls E.P f us.toArray w λe w'=>∃v,e= .returned v/\Below w.heap.size w w'/\Tu w.heap.size w'.heap.size w' res v
theorem fC.pcall{E:bB}{f:FuncId}{args:List AP1}{res:List AP1}(h:fC E f args res):aM E f args (.tup res):=by
 refine⟨h.enter,λZ w us hz hg hl hr=>(h.run Z w us hz hg hl hr).mono ?_⟩;rintro e w' ⟨v,rfl,hb,vs,us',rfl,hc,hf⟩;refine⟨_,λb=>Z b\/(w.heap.size<=b/\b<w'.heap.size),rfl,hb,λb hb=> .inl hb,λb hb=>hb,vs,rfl,hc.len.1,λi p u hp hu=>?_⟩;exact hc.relP (λi a u ha hu=>(cV.relD hf λb hb=> .inr hb).2 i a u ha hu) i p u hp hu
section
variable {E:bB} {S:bV}
theorem Yk{f:FuncId}{args:List AV}{tm:List AV}{ob:List (Nat×AO)}{K:AV->ASt->Prop}{ps:List AP1}{res:List AP1}{m:Nat}(hc:fC E f ps res)(hps:aRs ob args (· =ps))(hm:aOb ob 9997 λo=>o=cH S.w0.heap.size m)
  (hk:∀R lo hi,m<=lo->lo<=hi->cJ lo hi (bS R 0 (gU res)) (gU res)->gH 9997 (cH S.w0.heap.size hi) ob λob=>K (.tup (nm R 0 res)) ⟨tm,ob⟩):aG E S f args ⟨tm,ob⟩ K:=by
 refine⟨hc.enter,λZ ρ a w us hs hl hr=>?_⟩;obtain⟨ps',h1,h2,rfl⟩:=fX hs.ws hl hr hps;obtain⟨o,ho,rfl⟩:=co hm;have hmark:=td (hs.ws.obj 9997 _ ho);have hρ:ρ 9997=undef:=(hs.ws.obj 9997 _ ho).1;have hmle:m<=w.heap.size:=by
  rcases hmark with h|⟨k,e,h⟩
  ·exact Nat.le_trans h hs.ws.size
  ·have:=hs.ws.zlt k h;omega
 refine(hc.run (gG Z ρ ob) w us (gG.lt hs.ws) ?_ h1 h2).mono ?_
 ·obtain⟨w1,g1,g2,g3⟩:=hs.ws.g;exact⟨w1,g1,g2,λb hb=> .inl (g3 b hb)⟩
 ·rintro e w' ⟨v,rfl,hb,vs,us',rfl,hcl,hf⟩;have hsz:=hb.size;obtain⟨lF,Q,q,eQ,rQ⟩:=hf;let R:Nat->(Nat->Prop)->World->Value->Prop:=λi Zx wx u=>(∀b,Q i b->Zx b)/\∃a,(gU res)[i]? =some a/\bW wx (Q i) a u
  let Z':Nat->Prop:=λb=>Z b\/(w.heap.size<=b/\b<w'.heap.size)
  have hg:=hs.grow (Z':=Z') (dL hb) (λb h=> .inl h) λb h=>h;have hcell:∀(i:Nat) c u,(bS R 0 (gU res))[i]? =some c->us'[i]? =some u->bR Z' w' c u:=by
   intro i c u hc hu;obtain⟨d,hd,h⟩:=iS R hc;have ht:=rQ i d u hd hu;rcases h with⟨x,rfl,rfl⟩|h
   ·cases ht with|pv _ _ h1=>exact .pv _ h1
   ·rw[Nat.zero_add]at h;subst h;refine .x _ _ ht.one λZx wx hzx hbx=>⟨λb hb=>hzx b (.inr (q i b hb)),d,hd,ht.keep λb hb=>hbx b (.inr (q i b hb))⟩
  have hfam:∀lo hi:Nat,(∀b,w.heap.size<=b->b<w'.heap.size->lo<=b/\b<hi)->cJ lo hi (bS R 0 (gU res)) (gU res):=by
   intro lo hi hlh;refine⟨dq R _ _,Q,λi b h=>hlh b (q i b h).1 (q i b h).2,eQ,λi c a hc ha Zx wx u hrel=>?_⟩;obtain⟨d,hd,h⟩:=iS R hc;rw[ha]at hd;injection hd with hd
   subst hd;rcases h with⟨x,e1,e2⟩|h
   ·rw[e2]at hrel;rw[e1];cases hrel with|pv _ h1=>exact .pv _ _ h1
   ·rw[h,Nat.zero_add]at hrel;cases hrel with
    |x _ _ h1 hR=>
     obtain⟨hz,a',ha',ht⟩:=hR Zx wx (λ_ h=>h) λ_ _=>rfl;rw[ha]at ha';injection ha' with ha'
     subst ha';exact ht.mono λb hb=>⟨hb,hz b hb⟩
  have hvl:vs.length=(nm R 0 res).length:=by
   have:∀(l:List AP1) k,(nm R k l).length=l.length:=by
    intro l;induction l with
    |nil=>intro k;rfl
    |cons p r ih=>intro k;cases p<;>simp[nm,ih]
   rw[this,hcl.len.1]
  have hval:bX Z' w' ρ (.tup (nm R 0 res)) (.tuple vs.toArray):= .tup _ vs hvl (hcl.relV R 0 hcell);have fin:∀hi:Nat,(hi<=S.w0.heap.size\/∃k,hi=k+1/\Z' k)->Sim E.W S Z' ρ ⟨tm,fj ob 9997 (cH S.w0.heap.size hi)⟩ a w':=λhi h=>
   ⟨hg.ws.reframe (je hρ h),hg.len,hg.tm,hg.df⟩
  by_cases hlt:w.heap.size<w'.heap.size
  ·refine⟨_,_,_,Z',ρ,rfl,fin w'.heap.size (.inr ⟨w'.heap.size-1,ac,.inr ac⟩),hval,dl (K:=λob=>K (.tup (nm R 0 res)) ⟨tm,ob⟩) (hk R w.heap.size w'.heap.size hmle hsz (hfam _ _ λb h1 h2=>⟨h1,h2⟩))⟩
  ·refine⟨_,_,_,Z',ρ,rfl,fin m ?_,hval,dl (K:=λob=>K (.tup (nm R 0 res)) ⟨tm,ob⟩) (hk R m m (Nat.le_refl _) (Nat.le_refl _) (hfam _ _ λb h1 h2=>by omega))⟩;rcases hmark with h|⟨k,e,h⟩
   ·exact .inl h
   ·exact .inr ⟨k,e,.inl h⟩
end
end
section
section
open Go.RowKit
inductive AA where
 |one (c:AC)
 |agg (cs:List AC)
inductive AR where
 |val (a:AA)
 |tup (l:List AA)
def AA.v:AA->AV
 | .one c=> .one c
 | .agg cs=> .agg cs
def AR.v:AR->AV
 | .val a=>a.v
 | .tup l=> .tup (l.map AA.v)
def mh(w:World)(Z:Nat->Prop)(ρ:Nat->Value)(pre:List (Nat×AO)):bV:=⟨w,λb=>∃id o,bA pre id=some o/\bQ (ρ id)=some b,Z⟩
structure d5 (E:bB) (f:FuncId) (args:List AA) (pre post:List (Nat×AO)) (keep:List Nat) (res:AR):Prop where
 enter:∀(us:Array Value) w,(callFunc f us).run E.P w= .ok (.enter f us) w
 run:∀(Z:Nat->Prop) (w:World) (ρ:Nat->Value) (us:List Value),WS E.W (mh w Z ρ pre) Z w ρ pre->us.length=args.length->(∀(i:Nat) x u,args[i]? =some x->us[i]? =some u->bX Z w ρ x.v u)->
  Calls E.P f us.toArray w λe w'=>∃v Z' ρ',e= .returned v/\WS E.W (mh w Z ρ pre) Z' w' ρ' post/\(∀id∈keep,ρ' id=ρ id)/\bX Z' w' ρ' res.v v
def iD:List (Nat×AO)->Nat->Bool
 |[],_=>false
 |(k,_)::r,i=>match Nat.beq k i with
  |true=>true
  |false=>iD r i
theorem fA:∀{l:List (Nat×AO)} {i:Nat},iD l i=true↔∃o,bA l i=some o
 |[],i=>by simp[iD,bA]
 |(k,o)::r,i=>by
  simp only[iD,bA];cases e:Nat.beq k i with
  |true=>rw[if_pos (Nat.eq_of_beq_eq_true e)];simp
  |false=>rw[if_neg (Nat.ne_of_beq_eq_false e)];exact fA
theorem Pi{l:List (Nat×AO)}{i:Nat}(h:iD l i=false):bA l i=none:=by
 cases e:bA l i with
 |none=>rfl
 |some o=>rw[fA.2 ⟨o,e⟩]at h;cases h
def AU(post ob:List (Nat×AO))(c:AC)(K:AC->Prop):Prop:=
 match c with
 | .own id=>match iD post id with
  |true=>K (.own id)
  |false=>aOb ob id λo=>match o with
   | .row _ _ xs=>K (.d (.sl xs))
   |_=>False
 | .ref id k s off=>match iD post id with
  |true=>K (.ref id k s off)
  |false=>False
 |c=>K c
def KW(post ob:List (Nat×AO)):List AC->(List AC->Prop)->Prop
 |[],K=>K []
 |c::r,K=>AU post ob c λc=>KW post ob r λr=>K (c::r)
def Pn(post ob:List (Nat×AO))(x:AV)(K:AA->Prop):Prop:=
 match x with
 | .one c=>AU post ob c λc=>K (.one c)
 | .agg cs=>KW post ob cs λcs=>K (.agg cs)
 | .tup _=>False
def zI(Z:Nat->Prop)(ρ:Nat->Value)(ob post:List (Nat×AO))(b:Nat):Prop:=Z b\/∃id o,bA ob id=some o/\iD post id=false/\bQ (ρ id)=some b
section
variable {T:World->Prop} {S:bV} {Z:Nat->Prop} {w:World} {ρ:Nat->Value} {ob post:List (Nat×AO)}
theorem Ei(h:WS T S Z w ρ ob){c:AC}{K:AC->Prop}{v:Value}(hv:dW Z w ρ c v)(hk:AU post ob c K):∃c',dW (zI Z ρ ob post) w ρ c' v/\K c':=by
 have upb:∀b,Z b->zI Z ρ ob post b:=λb hb=> .inl hb;have up:∀{d:AD} {v:Value},bR Z w d v->bR (zI Z ρ ob post) w d v:=λhd=>hd.mono upb λ_ _=>rfl;cases c with
 |own id=>
  cases e:iD post id with
  |true=>simp only[AU,e]at hk;exact⟨.own id,hv,hk⟩
  |false=>
   simp only[AU,e]at hk;obtain⟨o,ho,hk⟩:=co hk;split at hk
   ·rename_i e' s xs;obtain⟨us,h0,hl,hxs,hus,hown,hd⟩:=h.obj id _ ho;refine⟨.d (.sl xs),?_,hk⟩;have hv:v=ρ id:=hv.1;subst hv;show bR (zI Z ρ ob post) w (.sl xs) (ρ id);rcases hown.2 with⟨hv,hn⟩|⟨g,cap,cur,hv,_,hg,h1,h2,h3,h4⟩
    ·have:xs=[]:=List.eq_nil_of_length_eq_zero hn;subst this;rw[hv];exact .sl [] none 0 0 [] (Nat.le_refl _) (Nat.zero_le _) rfl aj aj (.inl rfl) aj
    ·rw[hv];refine .sl xs _ cap s us h1 h2 hl hxs hus (.inr ⟨g,0,rfl,.inr ⟨id,_,ho,e,by rw[hv];rfl⟩,λi u hu=>?_⟩) λi j x u a b e1 e2 e3 e4=>up (hd i j x u a b e1 e2 e3 e4);rw[Nat.zero_add];exact lO hown (by rw[hv];rfl) hu
   ·exact hk.elim
 |ref id k s off=>
  cases e:iD post id with
  |true=>simp only[AU,e]at hk;exact⟨.ref id k s off,hv,hk⟩
  |false=>simp only[AU,e]at hk
 |_=>exact⟨_,dW.mono upb (λ_ _=>rfl) hv,hk⟩
theorem AX(h:WS T S Z w ρ ob):∀{cs:List AC} {us:List Value} {K:List AC->Prop},Aj Z w ρ cs us->KW post ob cs K->∃ds,us.length=ds.length/\(∀(i:Nat) d u,ds[i]? =some d->us[i]? =some u->dW (zI Z ρ ob post) w ρ d u)/\K ds
 |[],us,K,hr,hk=>⟨[],hr.1,by simp,hk⟩
 |c::r,[],K,hr,hk=>by have:=hr.1;simp at this
 |c::r,u::us,K,hr,hk=>by
  obtain⟨d,hd,hk⟩:=Ei h (hr.2 0 c u rfl rfl) hk;obtain⟨ds,hl,hds,hk⟩:=AX h (cs:=r) (us:=us) ⟨by simpa using hr.1,λi c u h1 h2=>hr.2 (i+1) c u (by simpa using h1) (by simpa using h2)⟩ hk;refine⟨d::ds,by simp[hl],λi x y h1 h2=>?_,hk⟩;cases i with
  |zero=>simp at h1 h2;subst h1 h2;exact hd
  |succ i=>exact hds i x y (by simpa using h1) (by simpa using h2)
theorem Ej(h:WS T S Z w ρ ob){x:AV}{K:AA->Prop}{v:Value}(hv:bX Z w ρ x v)(hk:Pn post ob x K):∃p,bX (zI Z ρ ob post) w ρ p.v v/\K p:=by
 cases hv with
 |one c v hv=>obtain⟨d,hd,hk⟩:=Ei (K:=λc=>K (.one c)) h hv hk;exact⟨.one d,.one _ _ hd,hk⟩
 |agg cs us hl hr=>obtain⟨ds,h1,h2,hk⟩:=AX (K:=λcs=>K (.agg cs)) h ⟨hl,hr⟩ hk;exact⟨.agg ds,.agg _ _ h1 h2,hk⟩
 |tup vs us hl hr=>exact hk.elim
theorem WS.out(h:WS T S Z w ρ ob)(hs:aL ob post):WS T S (zI Z ρ ob post) w ρ post:=by
 have h':=h.sub hs;refine⟨h.os,h.tape,h.output,h.size,h.old,?_,λid o b ho hb=>⟨?_,(h'.mine id o b ho hb).2⟩,h'.sep,λid o ho=>(h'.obj id o ho).mono (λb hb=> .inl hb) (λ_ _=>rfl) λ_ _=>rfl,⟨λid P Q ho=>⟨λb hb=>?_,(h.many.ok id P Q (hs _ _ ho)).2⟩,λi j P Q P' Q' hi hj=>h.many.sep i j P Q P' Q' (hs _ _ hi) (hs _ _ hj)⟩,?_,λb hb=> .inl (h.z0 b hb),?_⟩
 ·rintro b (hb|⟨id,o,ho,_,hb⟩)
  ·exact h.zlt b hb
  ·exact h.lt ho hb
 ·rintro(hz|⟨id2,o2,ho2,hn,hb2⟩)
  ·exact(h'.mine id o b ho hb).1 hz
  ·refine h.sep id id2 o o2 b (hs id o ho) ho2 (λe=>?_) hb hb2;subst e;rw[fA.2 ⟨o,ho⟩]at hn;cases hn
 ·obtain⟨h1,h2,h3,h4⟩:=(h.many.ok id P Q (hs _ _ ho)).1 b hb;refine⟨h1,?_,h3,λj o hj=>h4 j o (hs _ _ hj)⟩;rintro(hz|⟨id2,o2,ho2,_,hb2⟩)
  ·exact h2 hz
  ·exact h4 id2 o2 ho2 hb2
 ·obtain⟨w1,g1,g2,g3⟩:=h.g;exact⟨w1,g1,g2,λb hb=> .inl (g3 b hb)⟩
 ·rintro b (hb|⟨id,o,ho,_,hb⟩)
  ·exact h.znew b hb
  ·exact .inr (h.mine id o b ho hb).2
end
section
variable {E:bB} {S:bV} {st:ASt}
def KX(E:bB)(st:ASt)(post:List (Nat×AO))(r:ResultVar)(K:AA->Prop):Prop:=
 match r with
 | .tmp t=>aTm st.tm t λv=>Pn post st.ob v K
 | .cell t ty=>aTm st.tm t λx=>rS E st ty x λv=>Pn post st.ob v K
def KY(E:bB)(st:ASt)(post:List (Nat×AO)):List ResultVar->(List AA->Prop)->Prop
 |[],K=>K []
 |r::rs,K=>KX E st post r λp=>KY E st post rs λps=>K (p::ps)
def Er(E:bB)(st:ASt)(post:List (Nat×AO))(rs:List ResultVar)(K:AR->Prop):Prop:=
 match rs with
 |[r]=>KX E st post r λp=>K (.val p)
 |rs=>KY E st post rs λps=>K (.tup ps)
def H8(ob:List (Nat×AO)):List (Nat×AO)->Prop
 |[]=>True
 |(i,o)::r=>aOb ob i λo'=>o'=o/\H8 ob r
theorem xK{ob:List (Nat×AO)}:∀{l:List (Nat×AO)},H8 ob l->aL ob l
 |[],_=>X4
 |(i,o)::r,h=>by
  obtain⟨o',ho,rfl,hr⟩:=co h;exact X0 ho (xK hr)
def gT(keep:List Nat):List AV:=keep.map λid=> .one (.ref id 0 0 0)
def Wv(E:bB)(rs:List ResultVar)(post:List (Nat×AO))(keep:List Nat)(pv:List Value)(res:AR):Exit->ASt->Prop
 | .ret,st=>Er E st post rs λv=>v=res/\H8 st.ob ((9999,.frame (gT keep) pv)::post)
 | .normal,st=>Er E st post rs λv=>v=res/\H8 st.ob ((9999,.frame (gT keep) pv)::post)
 |_,_=>False
theorem A9(he:E.Ok){post:List (Nat×AO)}{Z:Nat->Prop}{ρ:Nat->Value}{a:Act}{w:World}(h:Sim E.W S Z ρ st a w){r:ResultVar}{K:AA->Prop}(hk:KX E st post r K):
  ∃(v:Value) (p:AA),(dZ a.tmps r).run E.P w= .ok v w/\bX (zI Z ρ st.ob post) w ρ p.v v/\K p:=by
 cases r with
 |tmp t=>
  obtain⟨x,hx,hk⟩:=iY hk;have hlt:t<a.tmps.size:=by rw[h.len];exact(List.getElem?_eq_some_iff.1 hx).1
  obtain⟨p,hp,hk⟩:=Ej h.ws (h.tm t x _ hx (Array.getElem?_eq_getElem hlt)) hk;exact⟨a.tmps[t],p,by simp[dZ,hlt],hp,hk⟩
 |cell t ty=>
  obtain⟨x,hx,hk⟩:=iY hk;have hlt:t<a.tmps.size:=by rw[h.len];exact(List.getElem?_eq_some_iff.1 hx).1
  obtain⟨b,off,v,y,e,hr,hy,hk⟩:=pg he h (h.tm t x _ hx (Array.getElem?_eq_getElem hlt)) hk;obtain⟨p,hp,hk⟩:=Ej h.ws hy hk;refine⟨v,p,?_,hp,hk⟩;simp[dZ,hlt,e,asAddr,hr]
theorem Ba(he:E.Ok){post:List (Nat×AO)}{Z:Nat->Prop}{ρ:Nat->Value}{a:Act}{w:World}(h:Sim E.W S Z ρ st a w):∀{rs:List ResultVar} {K:List AA->Prop},KY E st post rs K->
  ∃(vs:List Value) (ps:List AA),(rs.mapM (dZ a.tmps)).run E.P w= .ok vs w/\vs.length=ps.length/\(∀(i:Nat) p u,ps[i]? =some p->vs[i]? =some u->bX (zI Z ρ st.ob post) w ρ p.v u)/\ps.length=rs.length/\K ps
 |[],K,hk=>⟨[],[],rfl,rfl,by simp,rfl,hk⟩
 |r::rs,K,hk=>by
  obtain⟨v,p,h1,h2,hk⟩:=A9 he h hk;obtain⟨vs,ps,h3,h4,h5,h6,hk⟩:=Ba he h (rs:=rs) hk;refine⟨v::vs,p::ps,?_,by simp[h4],λi q u h7 h8=>?_,by simp[h6],hk⟩
  ·rw[List.mapM_cons,Sem.run_bind,h1];simp only[Result.andThen_ok];rw[Sem.run_bind,h3];rfl
  ·cases i with
   |zero=>simp at h7 h8;subst h7 h8;exact h2
   |succ i=>exact h5 i q u (by simpa using h7) (by simpa using h8)
theorem Es(he:E.Ok){post:List (Nat×AO)}{Z:Nat->Prop}{ρ:Nat->Value}{a:Act}{w:World}(h:Sim E.W S Z ρ st a w){fn:Func}{K:AR->Prop}(hk:Er E st post fn.results.toList K):
  ∃v p,(results fn a.tmps).run E.P w= .ok v w/\bX (zI Z ρ st.ob post) w ρ p.v v/\K p:=by
 unfold Er at hk;have hres:∀vs:List Value,(fn.results.toList.mapM (dZ a.tmps)).run E.P w= .ok vs w->(results fn a.tmps).run E.P w= .ok (if h:vs.toArray.size=1 then vs.toArray[0]else .tuple vs.toArray) w:=by
  intro vs hvs;have e:results fn a.tmps=(do let vs<-fn.results.mapM (dZ a.tmps);pure (if h:vs.size=1 then vs[0]else .tuple vs)):=rfl;rw[e,Sem.run_bind,Array.mapM_eq_mapM_toList,Sem.run_map,hvs];rfl
 split at hk
 ·rename_i r hr;obtain⟨v,p,h1,h2,hk⟩:=A9 he h hk;refine⟨v,.val p,?_,h2,hk⟩;have:=hres [v] (by rw[hr,List.mapM_cons,Sem.run_bind,h1];rfl);rw[this];rfl
 ·rename_i hne;obtain⟨vs,ps,h1,h2,h3,h4,hk⟩:=Ba he h hk;refine⟨_,.tup ps,hres vs h1,?_,hk⟩;have:¬vs.toArray.size=1:=by
   intro e;have:fn.results.toList.length=1:=by simp at e;omega
   obtain⟨r,hr⟩:=List.length_eq_one_iff.1 this;exact hne r hr
  rw[dif_neg this];refine .tup _ vs (by simp[h2]) λi x u hx hu=>?_;rw[getElem?_map]at hx;obtain⟨p,hp,rfl⟩:=map_eq_some_iff.1 hx;exact h3 i p u hp hu
end
def Ez(p:AA)(K:AV->Prop):Prop:=
 match p with
 | .one c=>K (.one c)
 | .agg cs=>K (.agg cs)
theorem xQ{p:AA}{K:AV->Prop}(h:Ez p K):K p.v:=by cases p<;>exact h
def KP:List AA->Nat->(List AV->Prop)->Prop
 |[],n,K=>Ij n K
 |_::_,0,_=>False
 |p::r,n+1,K=>Ez p λv=>KP r n λtm=>K (v::tm)
theorem AG:∀{args:List AA} {n:Nat} {K:List AV->Prop},KP args n K->args.length<=n/\K (args.map AA.v++List.replicate (n-args.length) (.one .und))
 |[],n,K,h=>⟨Nat.zero_le _,by simpa using tS h⟩
 |_::_,0,_,h=>h.elim
 |p::r,n+1,K,h=>by
  obtain⟨h1,h2⟩:=AG (args:=r) (n:=n) (K:=λtm=>K (p.v::tm)) (xQ h);refine⟨by simp;omega,?_⟩;simpa[Nat.succ_sub_succ]using h2
def isCells(ob:List (Nat×AO))(i:Nat):Bool:=match bA ob i with
 |some (.cells _ _)=>true
 |_=>false
def TA(id:Nat):AA->Bool
 | .one c=>qN id c
 | .agg cs=>cs.all (qN id)
theorem Sv{id:Nat}{a:AA}(h:TA id a=true):vj id a.v=true:=by cases a<;>exact h
def TB(args:List AA)(pre post:List (Nat×AO))(keep:List Nat):Bool:=
 args.all (TA 9999)&&pre.all (λp=>Fj 9999 p.2)&& !iD pre 9999&&keep.all (λi=>isCells pre i&&isCells post i)
theorem sX{ob:List (Nat×AO)}{i:Nat}(h:isCells ob i=true):∃t cs,bA ob i=some (.cells t cs):=by
 unfold isCells at h;split at h
 ·rename_i t cs e;exact⟨t,cs,e⟩
 ·cases h
theorem cR{E:bB}(he:E.Ok){f:FuncId}{fn:Func}{c:Code}{n:Nat}{rs:List ResultVar}{args:List AA}{pre post:List (Nat×AO)}{keep:List Nat}{res:AR}(hf:E.P.funcs[f]? =some fn)(hb:fn.body=some c)
  (enter:∀(us:Array Value) w,(callFunc f us).run E.P w= .ok (.enter f us) w) (hn:fn.ntmps=n) (hrs:fn.results.toList=rs)
  (hck:TB args pre post keep=true)
  (h:∀S pv,KP args n λtm=>AWP E S c (Wv E rs post keep pv res) ⟨tm,(9999,.frame (gT keep) pv)::pre⟩):d5 E f args pre post keep res:=by
 refine⟨enter,λZ w ρ us hws hl hr=>?_⟩;subst hn hrs;simp only[TB,Bool.and_eq_true,all_eq_true,Bool.not_eq_true']at hck;obtain⟨⟨⟨hna,hnp⟩,hnh⟩,hkk⟩:=hck;have hp9:=Pi hnh;obtain⟨hle,hk⟩:=AG (h (mh w Z ρ pre) (keep.map ρ));have relV:∀{x:AV} {v:Value},vj 9999 x=true->bX Z w ρ x v->bX Z w (λi=>if i=9999 then undef else ρ i) x v:=by
  intro x v hn hv;have:=lg (id:=9999) (y:=undef) hv;rwa[ng hn]at this
 have hs:Sim E.W (mh w Z ρ pre) Z (λi=>if i=9999 then undef else ρ i) ⟨args.map AA.v++List.replicate (fn.ntmps-args.length) (.one .und),(9999,.frame (gT keep) (keep.map ρ))::pre⟩ {tmps:=us.toArray++Array.replicate (fn.ntmps-us.toArray.size) undef,defers:=[]} w:=by
  have key:∀id o,bA ((9999,AO.frame (gT keep) (keep.map ρ))::pre) id=some o->(id=9999/\o= .frame (gT keep) (keep.map ρ))\/(id≠9999/\bA pre id=some o):=by
   intro id o ho;unfold bA at ho;split at ho
   ·rename_i e;subst e;injection ho with ho;exact .inl ⟨rfl,ho.symm⟩
   ·rename_i e;exact .inr ⟨λe'=>e e'.symm,ho⟩
  refine⟨⟨hws.os,hws.tape,hws.output,hws.size,hws.old,hws.zlt,λid o b ho hb=>?_,λi j oi oj b hi hj hij hbi hbj=>?_,λid o ho=>?_,⟨λid P Q ho=>?_,λi j P Q P' Q' hi hj=>?_⟩,hws.g,hws.z0,hws.znew⟩,by simp[hl],λi x v hx hv=>?_,rfl⟩
  ·rcases key id o ho with⟨rfl,rfl⟩|⟨hne,ho⟩
   ·simp only[if_true]at hb;cases hb
   ·simp only[if_neg hne]at hb;exact hws.mine id o b ho hb
  ·rcases key i oi hi with⟨rfl,rfl⟩|⟨hne,hi⟩
   ·simp only[if_true]at hbi;cases hbi
   ·rcases key j oj hj with⟨rfl,rfl⟩|⟨hne2,hj⟩
    ·simp only[if_true]at hbj;cases hbj
    ·simp only[if_neg hne]at hbi;simp only[if_neg hne2]at hbj;exact hws.sep i j oi oj b hi hj hij hbi hbj
  ·rcases key id o ho with⟨rfl,rfl⟩|⟨hne,ho⟩
   ·refine⟨by simp,by simp[gT],λi x u hx hu=>?_⟩;simp only[gT,getElem?_map]at hx hu;obtain⟨k,hk1,rfl⟩:=map_eq_some_iff.1 hx;rw[hk1]at hu;simp only[Option.map_some]at hu;injection hu with hu
    subst hu;have hkm:=hkk k (mem_of_getElem? hk1);obtain⟨t,cs,hc⟩:=sX hkm.1;obtain⟨b,us',hp,_⟩:=hws.obj k _ hc;have hk9:k≠9999:=by rintro rfl;rw[hp9]at hc;cases hc
    refine .one _ _ ⟨b,by simp only[if_neg hk9];rw[hp];rfl,by rw[hp]⟩
   ·have hob:=hws.obj id o ho;have hnk:=v5 (hnp (id,o) (gS ho));cases o with
    |many P Q=>
     show(if id=9999 then undef else ρ id)=undef;rw[if_neg hne];exact hob
    |cells t cs=>
     have:=jb (id:=9999) (y:=undef) hne (show cQ Z w ρ id (.cells t cs)from hob);rw[hnk]at this;exact this
    |row e s xs=>
     have:=jb (id:=9999) (y:=undef) hne (show cQ Z w ρ id (.row e s xs)from hob);rw[hnk]at this;exact this
    |frame vs us=>
     have:=jb (id:=9999) (y:=undef) hne (show cQ Z w ρ id (.frame vs us)from hob);rw[hnk]at this;exact this
    |any Q=>
     have:=jb (id:=9999) (y:=undef) hne (show cQ Z w ρ id (.any Q)from hob);rw[hnk]at this;exact this
  ·rcases key id _ ho with⟨_,h0⟩|⟨hne,ho⟩
   ·cases h0
   ·obtain⟨h1,h2⟩:=hws.many.ok id P Q ho;refine⟨λb hb=>⟨(h1 b hb).1,(h1 b hb).2.1,(h1 b hb).2.2.1,λj o hj=>?_⟩,h2⟩;rcases key j o hj with⟨rfl,_⟩|⟨hne,hj⟩
    ·simp only[if_true];intro h0;cases h0
    ·simp only[if_neg hne];exact(h1 b hb).2.2.2 j o hj
  ·rcases key i _ hi with⟨_,h0⟩|⟨_,hi⟩
   ·cases h0
   ·rcases key j _ hj with⟨_,h0⟩|⟨_,hj⟩
    ·cases h0
    ·exact hws.many.sep i j P Q P' Q' hi hj
  ·simp only at hx hv;have hv':(us++List.replicate (fn.ntmps-us.length) undef)[i]? =some v:=by
    have:=hv;rw[<-Array.getElem?_toList]at this;simpa using this
   by_cases hi:i<us.length
   ·rw[List.getElem?_append_left (by simpa[hl]using hi),getElem?_map]at hx;obtain⟨p,hp,rfl⟩:=map_eq_some_iff.1 hx;rw[List.getElem?_append_left hi]at hv';exact relV (Sv (hna p (mem_of_getElem? hp))) (hr i p v hp hv')
   ·rw[List.getElem?_append_right al]at hx;rw[List.getElem?_append_right ac]at hv';have e1:=List.eq_of_mem_replicate (mem_of_getElem? hx);have e2:=List.eq_of_mem_replicate (mem_of_getElem? hv');subst e1 e2;exact .one _ _ (show dW Z w _ .und undef from rfl)
 refine calls_of_wp hf hb (wp_mono (hk.run _ w ⟨Z,_,hs⟩) λe a' w' h'=>?_);obtain⟨st',⟨Z',ρ',hs'⟩,hk'⟩:=h';have fin:(Er E st' post fn.results.toList λv=>v=res/\H8 st'.ob ((9999,.frame (gT keep) (keep.map ρ))::post))->a'.defers=[]/\∃v,(results fn a'.tmps).run E.P w'= .ok v w'/\∃v0 Z' ρ',Ending.returned v= .returned v0/\WS E.W (mh w Z ρ pre) Z' w' ρ' post/\(∀id∈keep,ρ' id=ρ id)/\bX Z' w' ρ' res.v v0:=by
  intro hr;obtain⟨v,p,h1,h2,h3,h4⟩:=Es he hs' hr;subst h3;have hsub:=xK h4;have hsubp:aL st'.ob post:=by
   obtain⟨_,_,_,h5⟩:=co h4;exact xK h5
  refine⟨hs'.df,v,h1,v,zI Z' ρ' st'.ob post,ρ',rfl,hs'.ws.out hsubp,λid hid=>?_,h2⟩;have hkm:=hkk id hid;obtain⟨t,cs,hc⟩:=sX hkm.1;obtain⟨t',cs',hc'⟩:=sX hkm.2;obtain⟨b,us1,hp,_⟩:=hws.obj id _ hc;obtain⟨b',us2,hp',_⟩:=hs'.ws.obj id _ (hsubp id _ hc');obtain⟨_,hfl,hfr⟩:=hs'.ws.obj 9999 _ (hsub 9999 (.frame (gT keep) (keep.map ρ)) (by simp[bA]));obtain⟨i,hi,hid'⟩:=List.getElem_of_mem hid;have hx:(gT keep)[i]? =some (.one (.ref id 0 0 0)):=by simp[gT,hi,hid']
  have hu:(keep.map ρ)[i]? =some (ρ id):=by simp[hi,hid']
  cases hfr i _ _ hx hu with
  |one _ _ hrel=>
   obtain⟨b2,hb2,hv2⟩:=hrel;rw[hp']at hb2;injection hb2 with hb2
   rw[hp',hv2,<-hb2]
 cases e with
 |normal=>exact fin hk'
 |ret=>exact fin hk'
 |_=>exact hk'.elim
end
section
open Go.RowKit
def ct:List (Nat×Nat)->Nat->Nat
 |[],i=>i
 |(a,b)::r,i=>match Nat.beq a i with
  |true=>b
  |false=>ct r i
def AM:List (Nat×Nat)->Nat->(Nat->Prop)->Prop
 |[],i,K=>K i
 |(a,b)::r,i,K=>match Nat.beq a i with
  |true=>K b
  |false=>AM r i K
theorem tO{K:Nat->Prop}{i:Nat}:∀{m:List (Nat×Nat)},AM m i K->K (ct m i)
 |[],h=>h
 |(a,b)::r,h=>by
  unfold AM at h;unfold ct;cases e:Nat.beq a i with
  |true=>rw[e]at h;exact h
  |false=>rw[e]at h;exact tO (m:=r) h
def DQ(m:Nat->Nat):AC->AC
 | .own i=> .own (m i)
 | .ref i k s off=> .ref (m i) k s off
 |c=>c
def CO(m:Nat->Nat):AA->AA
 | .one c=> .one (DQ m c)
 | .agg cs=> .agg (cs.map (DQ m))
def Ox(m:Nat->Nat):AR->AR
 | .val a=> .val (CO m a)
 | .tup ls=> .tup (ls.map (CO m))
def pq(m:Nat->Nat):AO->AO
 | .cells t cs=> .cells t (cs.map (DQ m))
 |o=>o
def Pq(m:List (Nat×Nat))(c:AC)(K:AC->Prop):Prop:=
 match c with
 | .own i=>AM m i λi=>K (.own i)
 | .ref i k s off=>AM m i λi=>K (.ref i k s off)
 |c=>K c
theorem Em{m:List (Nat×Nat)}{c:AC}{K:AC->Prop}(h:Pq m c K):K (DQ (ct m) c):=by
 cases c with
 |own i=>exact tO (K:=λi=>K (.own i)) h
 |ref i k s off=>exact tO (K:=λi=>K (.ref i k s off)) h
 |_=>exact h
def Gx(m:List (Nat×Nat)):List AC->(List AC->Prop)->Prop
 |[],K=>K []
 |c::r,K=>Pq m c λc=>Gx m r λr=>K (c::r)
theorem vF{m:List (Nat×Nat)}:∀{l:List AC} {K:List AC->Prop},Gx m l K->K (l.map (DQ (ct m)))
 |[],_,h=>h
 |c::r,K,h=>vF (l:=r) (K:=λr=>K (DQ (ct m) c::r)) (Em h)
def Pp(m:List (Nat×Nat))(a:AA)(K:AA->Prop):Prop:=
 match a with
 | .one c=>Pq m c λc=>K (.one c)
 | .agg cs=>Gx m cs λcs=>K (.agg cs)
theorem Ek{m:List (Nat×Nat)}{a:AA}{K:AA->Prop}(h:Pp m a K):K (CO (ct m) a):=by
 cases a with
 |one c=>exact Em (K:=λc=>K (.one c)) h
 |agg cs=>exact vF (K:=λcs=>K (.agg cs)) h
def A4(m:List (Nat×Nat)):List AA->(List AV->Prop)->Prop
 |[],K=>K []
 |c::r,K=>Pp m c λc=>Ez c λc=>A4 m r λr=>K (c::r)
theorem A5{m:List (Nat×Nat)}:∀{l:List AA} {K:List AV->Prop},A4 m l K->K (l.map λa=>(CO (ct m) a).v)
 |[],_,h=>h
 |c::r,K,h=>A5 (l:=r) (K:=λr=>K ((CO (ct m) c).v::r)) (xQ (K:=λc=>A4 m r λr=>K (c::r)) (Ek (K:=λc=>Ez c λc=>A4 m r λr=>K (c::r)) h))
def Ps(m:List (Nat×Nat))(r:AR)(K:AV->Prop):Prop:=
 match r with
 | .val a=>Pp m a λa=>Ez a K
 | .tup ls=>A4 m ls λl=>K (.tup l)
theorem NG{m:List (Nat×Nat)}{r:AR}{K:AV->Prop}(h:Ps m r K):K (Ox (ct m) r).v:=by
 cases r with
 |val a=>exact xQ (Ek (K:=λa=>Ez a K) h)
 |tup ls=>
  have:=A5 (K:=λl=>K (.tup l)) h;have e:(Ox (ct m) (.tup ls)).v= .tup (ls.map λa=>(CO (ct m) a).v):=by simp[Ox,AR.v,Function.comp_def]
  rw[e];exact this
def Pr(m:List (Nat×Nat))(o:AO)(K:AO->Prop):Prop:=
 match o with
 | .cells t cs=>Gx m cs λcs=>K (.cells t cs)
 |o=>K o
theorem NF{m:List (Nat×Nat)}{o:AO}{K:AO->Prop}(h:Pr m o K):K (pq (ct m) o):=by
 cases o with
 |cells t cs=>exact vF (K:=λcs=>K (.cells t cs)) h
 |_=>exact h
section
variable {Z:Nat->Prop} {w:World} {ρ ρ1:Nat->Value} {m:Nat->Nat}
theorem HA{c:AC}{v:Value}(h:dW Z w ρ (DQ m c) v):dW Z w (λi=>ρ (m i)) c v:=by cases c<;>exact h
theorem SE{a:AA}{v:Value}(h:bX Z w ρ (CO m a).v v):bX Z w (λi=>ρ (m i)) a.v v:=by
 cases a with
 |one c=>cases h with|one _ _ h=>exact .one _ _ (HA h)
 |agg cs=>
  cases h with
  |agg _ us hl h=>
   refine .agg _ _ (by simpa using hl) λi c u hc hu=>HA (h i _ u ?_ hu);rw[getElem?_map,hc];rfl
def qp:AO->Bool
 | .frame _ _=>false
 | .many _ _=>false
 |_=>true
theorem SF{id:Nat}{o:AO}(hf:qp o=true)(h:cQ Z w ρ (m id) (pq m o)):cQ Z w (λi=>ρ (m i)) id o:=by
 cases o with
 |cells t cs=>
  obtain⟨b,us,hp,hg,hl,hc⟩:=h;refine⟨b,us,hp,hg,by simpa using hl,λi c u h1 h2=>HA (hc i _ u ?_ h2)⟩;rw[getElem?_map,h1];rfl
 |row e s xs=>exact h
 |frame vs us=>cases hf
 |any Q=>exact h
 |many P Q=>cases hf
def inC(post:List (Nat×AO)):AC->Bool
 | .own i=>iD post i
 | .ref i _ _ _=>iD post i
 |_=>true
def inA(post:List (Nat×AO)):AA->Bool
 | .one c=>inC post c
 | .agg cs=>cs.all (inC post)
def inR(post:List (Nat×AO)):AR->Bool
 | .val a=>inA post a
 | .tup ls=>ls.all (inA post)
def inO(post:List (Nat×AO)):AO->Bool
 | .cells _ cs=>cs.all (inC post)
 | .row _ _ _=>true
 | .frame [] []=>true
 | .frame _ _=>false
 | .any _=>false
 | .many _ _=>false
variable {post:List (Nat×AO)}
theorem yj(hag:∀i,iD post i=true->ρ1 (m i)=ρ i){c:AC}{v:Value}(hin:inC post c=true)(h:dW Z w ρ c v):dW Z w ρ1 (DQ m c) v:=by
 cases c with
 |own i=>simpa only[DQ,dW,hag i hin]using h
 |ref i k s off=>simpa only[DQ,dW,hag i hin]using h
 |_=>exact h
theorem Fu(hag:∀i,iD post i=true->ρ1 (m i)=ρ i){a:AA}{v:Value}(hin:inA post a=true)(h:bX Z w ρ a.v v):bX Z w ρ1 (CO m a).v v:=by
 cases a with
 |one c=>cases h with|one _ _ h=>exact .one _ _ (yj hag hin h)
 |agg cs=>
  cases h with
  |agg _ us hl h=>
   refine .agg _ _ (by simpa using hl) λi c u hc hu=>?_;rw[getElem?_map]at hc;obtain⟨c0,h0,rfl⟩:=map_eq_some_iff.1 hc;exact yj hag (all_eq_true.1 hin c0 (mem_of_getElem? h0)) (h i c0 u h0 hu)
theorem Oy(hag:∀i,iD post i=true->ρ1 (m i)=ρ i){r:AR}{v:Value}(hin:inR post r=true)(h:bX Z w ρ r.v v):bX Z w ρ1 (Ox m r).v v:=by
 cases r with
 |val a=>exact Fu hag hin h
 |tup ls=>
  cases h with
  |tup _ us hl h=>
   refine .tup _ _ (by simpa using hl) λi c u hc hu=>?_;rw[map_map,getElem?_map]at hc;obtain⟨c0,h0,rfl⟩:=map_eq_some_iff.1 hc;refine Fu hag (all_eq_true.1 hin c0 (mem_of_getElem? h0)) (h i _ u ?_ hu);rw[getElem?_map,h0];rfl
theorem Ow(hag:∀i,iD post i=true->ρ1 (m i)=ρ i){id:Nat}(hid:iD post id=true){o:AO}(hin:inO post o=true)(h:cQ Z w ρ id o):cQ Z w ρ1 (m id) (pq m o):=by
 cases o with
 |cells t cs=>
  obtain⟨b,us,hp,hg,hl,hc⟩:=h;refine⟨b,us,(hag id hid).trans hp,hg,by simpa using hl,λi c u h1 h2=>?_⟩;rw[getElem?_map]at h1;obtain⟨c0,h0,rfl⟩:=map_eq_some_iff.1 h1;exact yj hag (all_eq_true.1 hin c0 (mem_of_getElem? h0)) (hc i c0 u h0 h2)
 |row e s xs=>
  obtain⟨us,hs,hl,hx,hu,hown,hd⟩:=h;refine⟨us,hs,hl,hx,hu,?_,hd⟩;rw[hag id hid];exact hown
 |frame vs us=>
  have:vs=[]/\us=[]:=by
   revert hin;unfold inO;split<;>simp_all
  obtain⟨rfl,rfl⟩:=this;exact⟨(hag id hid).trans h.1,rfl,by simp⟩
 |any Q=>cases hin
 |many P Q=>cases hin
theorem SD{id:Nat}{o:AO}(hf:qp o=true)(h:jJ Z w ρ id o):cQ Z w ρ id o:=by cases o<;>first|exact h|cases hf
theorem JF(f:Nat->Nat)(o:AO):qp (pq f o)=qp o:=by cases o<;>rfl
theorem QR{id:Nat}{o:AO}(hf:inO post o=true)(h:jJ Z w ρ id o):cQ Z w ρ id o:=by
 cases o<;>first|exact h|cases hf
theorem QQ{f:Nat->Nat}{id:Nat}{o:AO}(hf:inO post o=true)(h:cQ Z w ρ id (pq f o)):jJ Z w ρ id (pq f o):=by
 cases o<;>first|exact h|cases hf
theorem QP{id:Nat}{o:AO}(hf:qp o=true)(h:cQ Z w ρ id o):jJ Z w ρ id o:=by cases o<;>first|exact h|cases hf
end
def vZ(ks:List Nat)(x:AV):AV:=ks.foldl (λx k=>ku k x) x
def vY(ks:List Nat)(o:AO):AO:=ks.foldl (λo k=>na k o) o
section
variable {Z:Nat->Prop} {w:World} {ρ1:Nat->Value}
theorem Ch:∀{ks:List Nat} {ρ:Nat->Value} {x:AV} {v:Value},(∀i,i∉ks->ρ1 i=ρ i)->bX Z w ρ x v->bX Z w ρ1 (vZ ks x) v
 |[],ρ,x,v,hag,h=>by
  have:ρ1=ρ:=funext λi=>hag i aj;subst this;exact h
 |k::r,ρ,x,v,hag,h=>by
  refine Ch (ks:=r) (λi hi=>?_) (lg (id:=k) (y:=ρ1 k) h);by_cases e:i=k
  ·subst e;simp
  ·simp only[if_neg e];exact hag i (by simp[e,hi])
theorem nc:∀{ks:List Nat} {ρ:Nat->Value} {j:Nat} {o:AO},j∉ks->(∀i,i∉ks->ρ1 i=ρ i)->cQ Z w ρ j o->cQ Z w ρ1 j (vY ks o)
 |[],ρ,j,o,_,hag,h=>by
  have:ρ1=ρ:=funext λi=>hag i aj;subst this;exact h
 |k::r,ρ,j,o,hj,hag,h=>by
  refine nc (ks:=r) (λe=>hj (by simp[e])) (λi hi=>?_) (jb (id:=k) (λe=>hj (by simp[e])) (y:=ρ1 k) h);by_cases e:i=k
  ·subst e;simp
  ·simp only[if_neg e];exact hag i (by simp[e,hi])
theorem jW:∀{ks:List Nat} {o:AO} {P:Nat->Prop} {Q:World->Prop},vY ks o= .many P Q->o= .many P Q
 |[],o,P,Q,h=>h
 |k::r,o,P,Q,h=>by
  have h2:=jW (ks:=r) (o:=na k o) h;cases o<;>first|exact h2|(simp[na]at h2;done)
theorem xe:∀(ks:List Nat) (P:Nat->Prop) (Q:World->Prop),vY ks (.many P Q)= .many P Q
 |[],P,Q=>rfl
 |k::r,P,Q=>xe r P Q
theorem xk{ρ:Nat->Value}{id:Nat}{o:AO}(hn:∀P Q,o≠ .many P Q)(h:cQ Z w ρ id o):jJ Z w ρ id o:=by
 cases o<;>first|exact h|exact absurd rfl (hn _ _)
theorem Je{ks:List Nat}{ρ:Nat->Value}{j:Nat}{o:AO}(hj:j∉ks)(hag:∀i,i∉ks->ρ1 i=ρ i)(h:jJ Z w ρ j o):jJ Z w ρ1 j (vY ks o):=by
 cases o with
 |many P Q=>rw[xe];exact(hag j hj).trans h
 |cells t cs=>exact xk (λP Q e=>by cases jW e) (nc hj hag (show cQ Z w ρ j (.cells t cs)from h))
 |row e s xs=>exact xk (λP Q e=>by cases jW e) (nc hj hag (show cQ Z w ρ j (.row e s xs)from h))
 |frame vs us=>exact xk (λP Q e=>by cases jW e) (nc hj hag (show cQ Z w ρ j (.frame vs us)from h))
 |any R=>exact xk (λP Q e=>by cases jW e) (nc hj hag (show cQ Z w ρ j (.any R)from h))
end
def v6(ks:List Nat)(ob:List (Nat×AO)):List (Nat×AO):=ks.foldl (λob k=>pi k ob) ob
theorem ze:∀{ks:List Nat} {ob:List (Nat×AO)} {j:Nat},bA (v6 ks ob) j=(bA ob j).map (vY ks)
 |[],ob,j=>by
  have:vY []=id:=rfl;simp[v6,this]
 |k::r,ob,j=>by
  have:=ze (ks:=r) (ob:=pi k ob) (j:=j);rw[ni,Option.map_map]at this;exact this
def wm:List Nat->ASt->(ASt->Prop)->Prop
 |[],st,K=>K st
 |k::r,st,K=>AJ k st.tm λtm=>lW k st.ob λob=>wm r ⟨tm,ob⟩ K
theorem LU(k:Nat)(r:List Nat)(l:List AV):(l.map (ku k)).map (vZ r)=l.map (vZ (k::r)):=by
 rw[map_map];rfl
theorem yt:∀{ks:List Nat} {st:ASt} {K:ASt->Prop},wm ks st K->K ⟨st.tm.map (vZ ks),v6 ks st.ob⟩
 |[],st,K,h=>by
  have:vZ []=id:=rfl;rw[this,List.map_id];exact h
 |k::r,st,K,h=>by
  have h1:=jB (K:=λob=>wm r ⟨st.tm.map (ku k),ob⟩ K) (pJ (K:=λtm=>lW k st.ob λob=>wm r ⟨tm,ob⟩ K) h);have h2:=yt (ks:=r) h1;simp only[LU]at h2;exact h2
def CA(ob l:List (Nat×AO)):List (Nat×AO):=l.foldl (λob p=>fj ob p.1 p.2) ob
def xP(m:List (Nat×Nat)):List (Nat×AO)->List (Nat×AO)->(List (Nat×AO)->Prop)->Prop
 |ob,[],K=>K ob
 |ob,(i,o)::r,K=>Pr m o λo=>AM m i λi=>gH i o ob λob=>xP m ob r K
theorem Bh{m:List (Nat×Nat)}:∀{l ob:List (Nat×AO)} {K:List (Nat×AO)->Prop},xP m ob l K->K (CA ob (l.map λp=>(ct m p.1,pq (ct m) p.2)))
 |[],ob,K,h=>h
 |(i,o)::r,ob,K,h=>Bh (l:=r) (dl (K:=λob=>xP m ob r K) (tO (K:=λi=>gH i (pq (ct m) o) ob λob=>xP m ob r K) (NF (K:=λo=>AM m i λi=>gH i o ob λob=>xP m ob r K) h)))
theorem Ht{l:List (Nat×AO)}{k:Nat}(h:k∉l.map (·.1)):bA l k=none:=by
 cases e:bA l k with
 |none=>rfl
 |some o=>exact absurd (mem_map.2 ⟨(k,o),gS e,rfl⟩) h
theorem Cy:∀{l ob:List (Nat×AO)} {i:Nat},(l.map (·.1)).Nodup->bA (CA ob l) i=match bA l i with|some o=>some o|none=>bA ob i
 |[],ob,i,_=>rfl
 |(k,o)::r,ob,i,hn=>by
  obtain⟨h1,h2⟩:=nodup_cons.1 (by rw[map_cons]at hn;exact hn);have:=Cy (l:=r) (ob:=fj ob k o) (i:=i) h2;rw[cz]at this;show bA (CA (fj ob k o) r) i=_;rw[this];simp only[bA];by_cases e:k=i
  ·subst e;simp only[if_true,Ht h1]
  ·simp only[if_neg e]
theorem nX:∀{l:List (Nat×AO)} {i:Nat} {o:AO},(l.map (·.1)).Nodup->(i,o)∈l->bA l i=some o
 |[],_,_,_,h=>by cases h
 |(k,x)::r,i,o,hn,h=>by
  obtain⟨h1,h2⟩:=nodup_cons.1 (by rw[map_cons]at hn;exact hn);unfold bA;rcases mem_cons.1 h with h|h
  ·injection h with e1 e2;subst e1 e2;simp
  ·have:k≠i:=by rintro rfl;exact h1 (mem_map.2 ⟨_,h,rfl⟩)
   rw[if_neg this];exact nX h2 h
theorem xj{α β:Type}{f:α->β}:∀{l:List α},(l.map f).Nodup->l.Nodup
 |[],_=>List.nodup_nil
 |x::r,h=>by
  obtain⟨h1,h2⟩:=nodup_cons.1 (by rw[map_cons]at h;exact h);exact nodup_cons.2 ⟨λhm=>h1 (mem_map.2 ⟨x,hm,rfl⟩),xj h2⟩
theorem vT{α β:Type}{f:α->β}:∀{l:List α},(l.map f).Nodup->∀{x y:α},x∈l->y∈l->f x=f y->x=y
 |[],_,_,_,h,_,_=>by cases h
 |a::r,h,x,y,hx,hy,e=>by
  obtain⟨h1,h2⟩:=nodup_cons.1 (by rw[map_cons]at h;exact h);rcases mem_cons.1 hx with ex|hx'
  ·rcases mem_cons.1 hy with ey|hy'
   ·rw[ex,ey]
   ·rw[ex]at e;exact absurd (mem_map.2 ⟨y,hy',e.symm⟩) h1
  ·rcases mem_cons.1 hy with ey|hy'
   ·rw[ey]at e;exact absurd (mem_map.2 ⟨x,hx',e⟩) h1
   ·exact vT h2 hx' hy' e
def yd(m:List (Nat×Nat))(pre post:List (Nat×AO))(res:AR):Bool:=
 nodupB (post.map λp=>ct m p.1)&&pre.all (λp=>iD post p.1&&qp p.2)&&post.all (λp=>inO post p.2)&&inR post res
where nodupB:List Nat->Bool
 |[]=>true
 |x::r=> !r.any (Nat.beq x)&&nodupB r
theorem Cw:∀{l:List Nat},yd.nodupB l=true->l.Nodup
 |[],_=>List.nodup_nil
 |x::r,h=>by
  simp only[yd.nodupB,Bool.and_eq_true,Bool.not_eq_true',List.any_eq_false]at h;refine nodup_cons.2 ⟨λhm=>h.1 x hm (Nat.beq_refl x),Cw h.2⟩
def Hp(m:List (Nat×Nat))(post:List (Nat×AO))(keep:List Nat):List Nat:=(post.filter λp=> !keep.any (Nat.beq p.1)).map λp=>ct m p.1
def TX(m:List (Nat×Nat))(ob:List (Nat×AO)):List (Nat×AO)->Prop->Prop
 |[],X=>X
 |(i,o)::r,X=>aOb ob (ct m i) λo'=>o'=pq (ct m) o/\TX m ob r X
theorem Ib{m:List (Nat×Nat)}{ob:List (Nat×AO)}{X:Prop}:∀{l:List (Nat×AO)},TX m ob l X->(∀i o,(i,o)∈l->bA ob (ct m i)=some (pq (ct m) o))/\X
 |[],h=>⟨by simp,h⟩
 |(i,o)::r,h=>by
  obtain⟨o',ho,rfl,hr⟩:=co h;obtain⟨h1,h2⟩:=Ib hr;refine⟨λj x hx=>?_,h2⟩;rcases mem_cons.1 hx with e|hx
  ·injection e with e1 e2;subst e1 e2;exact ho
  ·exact h1 j x hx
def QU(m:Nat->Nat)(ids:List Nat)(ρ' ρ:Nat->Value)(j:Nat):Value:=match ids.find? (λc=>Nat.beq (m c) j)with
 |some c=>ρ' c
 |none=>ρ j
theorem SG{m:Nat->Nat}{ids:List Nat}{ρ' ρ:Nat->Value}(hn:(ids.map m).Nodup){c:Nat}(hc:c∈ids):QU m ids ρ' ρ (m c)=ρ' c:=by
 unfold QU;cases e:ids.find? (λx=>Nat.beq (m x) (m c))with
 |none=>exact absurd (Nat.beq_refl (m c)) (List.find?_eq_none.1 e c hc)
 |some d=>
  have h1:=List.mem_of_find?_eq_some e;have h2:=List.find?_some (p:=λx=>Nat.beq (m x) (m c)) e;rw[vT hn h1 hc (Nat.eq_of_beq_eq_true h2)]
theorem QV{m:Nat->Nat}{ids:List Nat}{ρ' ρ:Nat->Value}{j:Nat}(hj:j∉ids.map m):QU m ids ρ' ρ j=ρ j:=by
 unfold QU;cases e:ids.find? (λx=>Nat.beq (m x) j)with
 |none=>rfl
 |some d=>exact absurd (mem_map.2 ⟨d,List.mem_of_find?_eq_some e,Nat.eq_of_beq_eq_true (List.find?_some (p:=λx=>Nat.beq (m x) j) e)⟩) hj
def Un(m:List (Nat×Nat))(st:ASt)(pre post:List (Nat×AO))(keep:List Nat)(res:AR)(K:AV->ASt->Prop):Prop:=
 TX m st.ob pre (wm (Hp m post keep) st λst=>xP m st.ob post λob=>Ps m res λr=>K r ⟨st.tm,ob⟩)
theorem aab{E:bB}{S:bV}{st:ASt}{f:FuncId}{args:List AA}{pre post:List (Nat×AO)}{keep:List Nat}{res:AR}{K:AV->ASt->Prop}{cargs:List AV}(hc:d5 E f args pre post keep res)(m:List (Nat×Nat))
  (hck:yd m pre post res=true) (hargs:(args.map λa=>(CO (ct m) a).v)=cargs) (hpre:∀i o,(i,o)∈pre->bA st.ob (ct m i)=some (pq (ct m) o))
  (hk:K (Ox (ct m) res).v ⟨st.tm.map (vZ (Hp m post keep)),CA (v6 (Hp m post keep) st.ob) (post.map λp=>(ct m p.1,pq (ct m) p.2))⟩):aG E S f cargs st K:=by
 subst hargs;refine⟨hc.enter,λZ ρ a w us hs hl hr=>?_⟩;simp only[yd,Bool.and_eq_true,all_eq_true]at hck;obtain⟨⟨⟨hnd,hpp⟩,hpo⟩,hres⟩:=hck;have hnd:=Cw hnd;have hnd1:((post.map (·.1)).map (ct m)).Nodup:=by rw[map_map];exact hnd
 have hnd2:(post.map (·.1)).Nodup:=xj hnd1;have hndm:((post.map λp=>(ct m p.1,pq (ct m) p.2)).map (·.1)).Nodup:=by rw[map_map];exact hnd
 have hinj:∀{i j},iD post i=true->iD post j=true->ct m i=ct m j->i=j:=by
  intro i j hi hj e;obtain⟨oi,hoi⟩:=fA.1 hi;obtain⟨oj,hoj⟩:=fA.1 hj;exact vT hnd1 (mem_map.2 ⟨_,gS hoi,rfl⟩) (mem_map.2 ⟨_,gS hoj,rfl⟩) e
 have hhas:∀{i},iD post i=true↔i∈post.map (·.1):=by
  intro i;rw[fA];constructor
  ·rintro⟨o,ho⟩;exact mem_map.2 ⟨_,gS ho,rfl⟩
  ·intro h;obtain⟨p,hp,rfl⟩:=mem_map.1 h;exact⟨p.2,nX hnd2 hp⟩
 have hget:∀i o,bA pre i=some o->bA st.ob (ct m i)=some (pq (ct m) o)/\iD post i=true/\qp o=true:=by
  intro i o ho;have:=hpp _ (gS ho);simp only[Bool.and_eq_true]at this;exact⟨hpre i o (gS ho),this.1,this.2⟩
 have hws0:WS E.W (mh w Z (λi=>ρ (ct m i)) pre) Z w (λi=>ρ (ct m i)) pre:=by
  refine⟨rfl,rfl,rfl,Nat.le_refl _,λ_ _ _=>rfl,hs.ws.zlt,λid o b ho hb=>⟨(hs.ws.mine _ _ b (hget id o ho).1 hb).1,.inr ⟨id,o,ho,hb⟩⟩,λi j oi oj b hi hj hij hbi hbj=>?_,λid o ho=>QP (hget id o ho).2.2 (SF (hget id o ho).2.2 (SD (by rw[JF];exact(hget id o ho).2.2) (hs.ws.obj _ _ (hget id o ho).1))),ZU (λid P Q ho=>by have:=(hget id _ ho).2.2;cases this),hs.ws.g,λb hb=>hb,λb hb=> .inl hb⟩;exact hs.ws.sep _ _ _ _ b (hget i oi hi).1 (hget j oj hj).1 (λe=>hij (hinj (hget i oi hi).2.1 (hget j oj hj).2.1 e)) hbi hbj
 refine(hc.run Z w (λi=>ρ (ct m i)) us hws0 (by simpa using hl) λi p u h3 h4=>?_).mono ?_
 ·refine SE (hr i _ u ?_ h4);rw[getElem?_map,h3];rfl
 rintro e w' ⟨v,Z',ρ',rfl,hw,hkeep,hv⟩;let ids:=post.map (·.1)
 let ρ1:=QU (ct m) ids ρ' ρ
 let ks:=Hp m post keep
 have hin:∀i,iD post i=true->ρ1 (ct m i)=ρ' i:=λi hi=>SG hnd1 (hhas.1 hi);have hout:∀j,j∉ids.map (ct m)->ρ1 j=ρ j:=λj hj=>QV hj;have hag:∀i,i∉ks->ρ1 i=ρ i:=by
  intro i hi;by_cases h:i∈ids.map (ct m)
  ·obtain⟨c,hc1,rfl⟩:=mem_map.1 h;rw[hin c (hhas.2 hc1)];refine hkeep c ?_;obtain⟨p,hp,rfl⟩:=mem_map.1 hc1;refine Classical.byContradiction λhn=>hi (mem_map.2 ⟨p,List.mem_filter.2 ⟨hp,?_⟩,rfl⟩);simp only[Bool.not_eq_true',List.any_eq_false];intro k hk2 e;rw[Nat.eq_of_beq_eq_true e]at hn;exact hn hk2
  ·exact hout i h
 have hksub:∀i,i∈ks->i∈ids.map (ct m):=by
  intro i hi;obtain⟨p,hp,rfl⟩:=mem_map.1 hi;exact mem_map.2 ⟨p.1,mem_map.2 ⟨p,(List.mem_filter.1 hp).1,rfl⟩,rfl⟩
 have hob:∀j o,bA (CA (v6 ks st.ob) (post.map λp=>(ct m p.1,pq (ct m) p.2))) j=some o->
   (∃c o',bA post c=some o'/\j=ct m c/\o=pq (ct m) o')\/(j∉ids.map (ct m)/\∃o',bA st.ob j=some o'/\o=vY ks o'):=by
  intro j o ho;rw[Cy hndm]at ho;split at ho
  ·rename_i o1 h1;injection ho with ho
   subst ho;obtain⟨p,hp,e⟩:=mem_map.1 (gS h1);injection e with e1 e2
   exact .inl ⟨p.1,p.2,nX hnd2 hp,e1.symm,e2.symm⟩
  ·rename_i h1;rw[ze]at ho;obtain⟨o',h2,rfl⟩:=map_eq_some_iff.1 ho;refine .inr ⟨λhm=>?_,o',h2,rfl⟩;obtain⟨c,hc1,rfl⟩:=mem_map.1 hm;obtain⟨p,hp,rfl⟩:=mem_map.1 hc1;rw[nX hndm (mem_map.2 ⟨p,hp,rfl⟩)]at h1;cases h1
 have hmany:∀j P Q,bA (CA (v6 ks st.ob) (post.map λp=>(ct m p.1,pq (ct m) p.2))) j=some (.many P Q)->j∉ids.map (ct m)/\bA st.ob j=some (.many P Q):=by
  intro j P Q ho;rcases hob j _ ho with⟨c,o',hc1,_,e⟩|⟨hj,o',ho',e⟩
  ·have:=hpo _ (gS hc1);cases o'<;>first|(cases e;done)|(cases this;done)
  ·exact⟨hj,by rw[ho',jW e.symm]⟩
 have hO:∀b,(mh w Z (λi=>ρ (ct m i)) pre).O b->∃i o,bA st.ob (ct m i)=some o/\iD post i=true/\bQ (ρ (ct m i))=some b:=by
  rintro b ⟨i,o,ho,hb⟩;exact⟨i,_,(hget i o ho).1,(hget i o ho).2.1,hb⟩
 have hfar:∀j o b,j∉ids.map (ct m)->bA st.ob j=some o->bQ (ρ j)=some b->¬(mh w Z (λi=>ρ (ct m i)) pre).O b:=by
  intro j o b hj ho hb hOb;obtain⟨i,o2,ho2,hi,hb2⟩:=hO b hOb;refine hs.ws.sep j (ct m i) o o2 b ho ho2 (λe=>hj ?_) hb hb2;rw[e];exact mem_map.2 ⟨i,hhas.1 hi,rfl⟩
 have hsame:∀b,b<w.heap.size->¬(mh w Z (λi=>ρ (ct m i)) pre).O b->w'.heap[b]? =w.heap[b]? :=hw.old;have hzn:∀b,Z b->w'.heap[b]? =w.heap[b]? :=by
  intro b hb;refine hsame b (hs.ws.zlt b hb) λhOb=>?_;obtain⟨i,o2,ho2,_,hb2⟩:=hO b hOb;exact(hs.ws.mine _ _ b ho2 hb2).1 hb
 have hsz:w.heap.size<=w'.heap.size:=hw.size;have hobase:∀b,(mh w Z (λi=>ρ (ct m i)) pre).O b->S.w0.heap.size<=b\/S.O b:=by
  intro b hOb;obtain⟨i,o2,ho2,_,hb2⟩:=hO b hOb;exact(hs.ws.mine _ _ b ho2 hb2).2
 refine⟨v,(Ox (ct m) res).v,⟨st.tm.map (vZ ks),CA (v6 ks st.ob) (post.map λp=>(ct m p.1,pq (ct m) p.2))⟩,Z',ρ1,rfl,⟨?_,by simp[hs.len],λi x u hx hu=>?_,hs.df⟩,Oy hin hres hv,hk⟩
 ·refine⟨hw.os.trans hs.ws.os,hw.tape.trans hs.ws.tape,hw.output.trans hs.ws.output,Nat.le_trans hs.ws.size hsz,λb hb hno=>?_,hw.zlt,λj o b ho hb=>?_,λi j oi oj b hi hj hij hbi hbj=>?_,λj o ho=>?_,⟨λid P Q ho=>?_,λi j P Q P' Q' hi hj=>?_⟩,hw.g,λb hb=>hw.z0 b (hs.ws.z0 b hb),λb hb=>?_⟩
  ·refine(hsame b (Nat.lt_of_lt_of_le hb hs.ws.size) λhOb=>?_).trans (hs.ws.old b hb hno);rcases hobase b hOb with h|h
   ·omega
   ·exact hno h
  ·rcases hob j o ho with⟨c,o',hc1,rfl,rfl⟩|⟨hj,o',ho',rfl⟩
   ·have hcp:=fA.2 ⟨o',hc1⟩;rw[hin c hcp]at hb;obtain⟨h1,h2⟩:=hw.mine c o' b hc1 hb;refine⟨h1,?_⟩;rcases h2 with h2|h2
    ·exact .inl (Nat.le_trans hs.ws.size h2)
    ·exact hobase b h2
   ·rw[hout j hj]at hb;obtain⟨h1,h2⟩:=hs.ws.mine j o' b ho' hb;refine⟨λhz=>?_,h2⟩;rcases hw.znew b hz with h3|h3|h3
    ·exact h1 h3
    ·have:=hs.ws.lt ho' hb;exact absurd (show w.heap.size<=b from h3) ac
    ·exact hfar j o' b hj ho' hb h3
  ·rcases hob i oi hi with⟨c,o',hc1,rfl,rfl⟩|⟨hi',o',ho',rfl⟩
   ·have hcp:=fA.2 ⟨o',hc1⟩;rw[hin c hcp]at hbi;rcases hob j oj hj with⟨c2,o2,hc2,rfl,rfl⟩|⟨hj',o2,ho2,rfl⟩
    ·have hcp2:=fA.2 ⟨o2,hc2⟩;rw[hin c2 hcp2]at hbj;exact hw.sep c c2 o' o2 b hc1 hc2 (λe=>hij (by rw[e])) hbi hbj
    ·rw[hout j hj']at hbj;rcases(hw.mine c o' b hc1 hbi).2 with h|h
     ·have:=hs.ws.lt ho2 hbj;exact absurd (show w.heap.size<=b from h) ac
     ·exact hfar j o2 b hj' ho2 hbj h
   ·rw[hout i hi']at hbi;rcases hob j oj hj with⟨c2,o2,hc2,rfl,rfl⟩|⟨hj',o2,ho2,rfl⟩
    ·have hcp2:=fA.2 ⟨o2,hc2⟩;rw[hin c2 hcp2]at hbj;rcases(hw.mine c2 o2 b hc2 hbj).2 with h|h
     ·have:=hs.ws.lt ho' hbi;exact absurd (show w.heap.size<=b from h) ac
     ·exact hfar i o' b hi' ho' hbi h
    ·rw[hout j hj']at hbj;exact hs.ws.sep i j o' o2 b ho' ho2 hij hbi hbj
  ·rcases hob j o ho with⟨c,o',hc1,rfl,rfl⟩|⟨hj,o',ho',rfl⟩
   ·have hcp:=fA.2 ⟨o',hc1⟩;exact QQ (hpo _ (gS hc1)) (Ow hin hcp (hpo _ (gS hc1)) (QR (hpo _ (gS hc1)) (hw.obj c o' hc1)))
   ·refine Je (λh=>hj (hksub j h)) hag ?_;refine(hs.ws.obj j o' ho').mono hw.z0 hzn λb hb=>hsame b (hs.ws.lt ho' hb) (hfar j o' b hj ho' hb)
  ·obtain⟨hj,ho'⟩:=hmany id P Q ho;obtain⟨h1,h2⟩:=hs.ws.many.ok id P Q ho';have hnO:∀b,P b->¬(mh w Z (λi=>ρ (ct m i)) pre).O b:=by
    intro b hb hOb;obtain⟨i,o2,ho2,_,hb2⟩:=hO b hOb;exact(h1 b hb).2.2.2 _ _ ho2 hb2
   refine⟨λb hb=>⟨Nat.lt_of_lt_of_le (h1 b hb).1 hsz,λhz=>?_,(h1 b hb).2.2.1,λj o hjo hbj=>?_⟩,λw2 hw2=>h2 w2 λb hb=>(hw2 b hb).trans (hsame b (h1 b hb).1 (hnO b hb))⟩
   ·rcases hw.znew b hz with h3|h3|h3
    ·exact(h1 b hb).2.1 h3
    ·have:=(h1 b hb).1;exact absurd (show w.heap.size<=b from h3) ac
    ·exact hnO b hb h3
   ·rcases hob j o hjo with⟨c,o',hc1,rfl,rfl⟩|⟨hj',o',ho2,rfl⟩
    ·rw[hin c (fA.2 ⟨o',hc1⟩)]at hbj;rcases(hw.mine c o' b hc1 hbj).2 with h3|h3
     ·have:=(h1 b hb).1;exact absurd (show w.heap.size<=b from h3) ac
     ·exact hnO b hb h3
    ·rw[hout j hj']at hbj;exact(h1 b hb).2.2.2 j o' ho2 hbj
  ·exact hs.ws.many.sep i j P Q P' Q' (hmany i P Q hi).2 (hmany j P' Q' hj).2
  ·rcases hw.znew b hb with h|h|h
   ·exact hs.ws.znew b h
   ·exact .inr (.inl (Nat.le_trans hs.ws.size h))
   ·exact .inr (hobase b h)
 ·simp only[getElem?_map]at hx;obtain⟨x0,h0,rfl⟩:=map_eq_some_iff.1 hx;exact Ch hag ((hs.tm i x0 u h0 hu).mono hw.z0 hzn)
theorem Yb{E:bB}{S:bV}{st:ASt}{f:FuncId}{args:List AA}{pre post:List (Nat×AO)}{keep:List Nat}{res:AR}{K:AV->ASt->Prop}{cargs:List AV}(hc:d5 E f args pre post keep res)(m:List (Nat×Nat))
  (hck:yd m pre post res=true) (hargs:(args.map λa=>(CO (ct m) a).v)=cargs) (hk:Un m st pre post keep res K):aG E S f cargs st K:=by
 obtain⟨hpre,hk⟩:=Ib hk;have hk:=NG (Bh (yt hk));exact aab hc m hck hargs hpre hk
end
section
open Go.RowKit
theorem aG.upd{E:bB}{S:bV}{tm:List AV}{ob:List (Nat×AO)}{f:FuncId}{args:List AA}{o o':AO}{res:AR}{K:AV->ASt->Prop}{cargs:List AV}(hc:d5 E f args [(1000,o)] [(1000,o')] [1000] res)(id:Nat)
  (hck:yd [(1000,id)] [(1000,o)] [(1000,o')] res=true) (hargs:(args.map λa=>(CO (ct [(1000,id)]) a).v)=cargs) (hob:bA ob id=some (pq (ct [(1000,id)]) o))
  (hk:Pr [(1000,id)] o' λo'=>gH id o' ob λob=>Ps [(1000,id)] res λr=>K r ⟨tm,ob⟩):aG E S f cargs ⟨tm,ob⟩ K:=
 Yb hc [(1000,id)] hck hargs (show aOb ob id λo1=>o1=pq (ct [(1000,id)]) o/\_ from KV hob ⟨rfl,hk⟩)
end
section
open Go.RowKit
structure Wj (E:bB) (f:FuncId) (args:List AV) (c:Nat) (o0 o1:AO) (r:AV):Prop where
 h:∀{S:bV} {tm:List AV} {ob:List (Nat×AO)} {K:AV->ASt->Prop},bA ob c=some o0->K r ⟨tm,fj ob c o1⟩->aG E S f args ⟨tm,ob⟩ K
section
variable {E:bB} {S:bV} {Z:Nat->Prop} {ρ:Nat->Value} {P:ASt} {tm:List AV} {ob:List (Nat×AO)} {a:Act} {w:World} {o:Oper} {c:Nat} {o0 o1:AO} {r:AV}
end
section
variable {E:bB} {S:bV} {ops:List Oper} {D:List (List Nat)} {R:List (AV×Option AO)} {n0:Nat} {st0:ASt}
end
section
variable {E:bB} {S:bV} {ops:Array Oper} {n0:Nat} {st0:ASt} {R:List (AV×Option AO)} {K:ASt->Prop} {Q:Exit->Act->World->Prop}
end
end
end
open Go.RowKit
def Gt:List AV->Nat->(List AV->Prop)->Prop
 |[],n,K=>Ij n K
 |_::_,0,_=>False
 |p::r,n+1,K=>Gt r n λtm=>K (p::tm)
theorem vE:∀{args:List AV} {n:Nat} {K:List AV->Prop},Gt args n K->args.length<=n/\K (args++List.replicate (n-args.length) (.one .und))
 |[],n,K,h=>⟨Nat.zero_le _,by simpa using tS h⟩
 |_::_,0,_,h=>h.elim
 |p::r,n+1,K,h=>by
  obtain⟨h1,h2⟩:=vE (args:=r) (n:=n) (K:=λtm=>K (p::tm)) h;refine⟨by simp;omega,?_⟩;simpa[Nat.succ_sub_succ]using h2
def Pg(E:bB)(rs:List ResultVar)(fid:Nat)(us:List Value)(K:AV->ASt->Prop)(st:ASt):Prop:=
 Er E st st.ob rs λv=>aOb st.ob fid λo=>match o with
  | .frame vs us'=>And (us'=us) (K v.v ⟨vs,st.ob⟩)
  |_=>False
def Wu(E:bB)(rs:List ResultVar)(fid:Nat)(us:List Value)(K:AV->ASt->Prop):Exit->ASt->Prop
 | .ret,st=>Pg E rs fid us K st
 | .normal,st=>Pg E rs fid us K st
 |_,_=>False
theorem Pa{Z:Nat->Prop}{ρ:Nat->Value}{ob:List (Nat×AO)}{b:Nat}(h:zI Z ρ ob ob b):Z b:=by
 rcases h with h|⟨id,o,ho,hn,_⟩
 ·exact h
 ·rw[fA.2 ⟨o,ho⟩]at hn;cases hn
theorem YS{E:bB}(he:E.Ok){S:bV}(fid:Nat){f:FuncId}{fn:Func}{c:Code}{n:Nat}{rs:List ResultVar}{args:List AV}{tm:List AV}{ob:List (Nat×AO)}{K:AV->ASt->Prop}(hf:E.P.funcs[f]? =some fn)(hb:fn.body=some c)
  (enter:∀(us:Array Value) w,(callFunc f us).run E.P w= .ok (.enter f us) w) (hn:fn.ntmps=n) (hrs:fn.results.toList=rs)
  (hk:args.all (vj fid)=true)
  (h:∀us,wq ⟨tm,ob⟩ fid (.frame (tm.map (ku fid)) us) λst=>Gt args n λtm'=>AWP E S c (Wu E rs fid us K) ⟨tm',st.ob⟩):aG E S f args ⟨tm,ob⟩ K:=by
 subst hn hrs;refine⟨enter,λZ ρ a w us hs hl hr=>?_⟩;have h1:=io (h a.tmps.toList);obtain⟨hle,h2⟩:=vE h1;have hfr:cQ Z w (λi=>if i=fid then undef else ρ i) fid (.frame (tm.map (ku fid)) a.tmps.toList):=by
  refine⟨by simp,by simp[hs.len],λi x u hx hu=>?_⟩;rw[List.getElem?_map]at hx;obtain⟨y,hy,rfl⟩:=Option.map_eq_some_iff.1 hx;exact lg (hs.tm i y u hy (by simpa using hu))
 have hws:=hs.ws.renew fid undef (.frame (tm.map (ku fid)) a.tmps.toList) (row:=none) (World.grownBy.refl w _) aj (λb hb=>by cases hb) hfr;have hcal:Sim E.W S Z (λi=>if i=fid then undef else ρ i) ⟨args++List.replicate (fn.ntmps-args.length) (.one .und),fj (fv fid ⟨tm,ob⟩).ob fid (.frame (tm.map (ku fid)) a.tmps.toList)⟩ {tmps:=us.toArray++Array.replicate (fn.ntmps-us.toArray.size) undef,defers:=[]} w:=by
  refine⟨hws,by simp[hl],λi x v hx hv=>?_,rfl⟩;simp only at hx hv;have hv':(us++List.replicate (fn.ntmps-us.length) undef)[i]? =some v:=by
   rw[<-Array.getElem?_toList]at hv;simpa using hv
  by_cases hi:i<us.length
  ·rw[List.getElem?_append_left ac]at hx;rw[List.getElem?_append_left hi]at hv';have:=lg (id:=fid) (y:=undef) (hr i x v hx hv');rwa[ng (List.all_eq_true.1 hk x (List.mem_of_getElem? hx))]at this
  ·rw[List.getElem?_append_right ac]at hx;rw[List.getElem?_append_right ac]at hv';have e1:=List.eq_of_mem_replicate (List.mem_of_getElem? hx);have e2:=List.eq_of_mem_replicate (List.mem_of_getElem? hv');subst e1 e2;exact .one _ _ (show dW Z w _ .und undef from rfl)
 refine calls_of_wp hf hb (wp_mono (h2.run _ w ⟨Z,_,hcal⟩) λe a' w' h'=>?_);obtain⟨st',⟨Z',ρ',hs'⟩,hk'⟩:=h';have fin:Pg E fn.results.toList fid a.tmps.toList K st'->a'.defers=[]/\∃v,(results fn a'.tmps).run E.P w'= .ok v w'/\∃v0 r st2 Z2 ρ2,Ending.returned v= .returned v0/\Sim E.W S Z2 ρ2 st2 a w'/\bX Z2 w' ρ2 r v0/\K r st2:=by
  intro hb;obtain⟨v,p,hv,hrel,hob⟩:=Es he hs' hb;obtain⟨o,ho,hob⟩:=co hob;split at hob
  ·rename_i vs us';obtain⟨rfl,hK⟩:=hob;obtain⟨g1,g2,g3⟩:=hs'.ws.obj fid _ ho;refine⟨hs'.df,v,hv,v,p.v,⟨vs,st'.ob⟩,Z',ρ',rfl,⟨hs'.ws,?_,λi x u hx hu=>?_,hs.df⟩,hrel.mono (λb hb=>Pa hb) (λ_ _=>rfl),hK⟩
   ·simpa using g2
   ·exact g3 i x u hx (by simpa using hu)
  ·exact hob.elim
 cases e with
 |normal=>exact fin hk'
 |ret=>exact fin hk'
 |_=>exact hk'.elim
section
def RG(f:FuncId)(p:AP1):(Nat->Prop)->World->Value->Prop:=λZ w v=>∃u,v= .func (.func f) #[u] #[]/\dE Z w p u
def IfR(t:TypeId)(p:AP1):(Nat->Prop)->World->Value->Prop:=λZ w v=>∃u,v= .iface t u/\dE Z w p u
theorem dE.mono{Z Z':Nat->Prop}{w w':World}(hz:∀b,Z b->Z' b)(hb:∀b,Z b->w'.heap[b]? =w.heap[b]?){p:AP1}{v:Value}(h:dE Z w p v):dE Z' w' p v:=by
 cases p with
 |one d=>exact bR.mono hz hb h
 |agg ds=>
  obtain⟨us,e,hl,hr⟩:=h;exact⟨us,e,hl,λi d u h1 h2=>(hr i d u h1 h2).mono hz hb⟩
theorem JX{Z:Nat->Prop}{w:World}{ρ:Nat->Value}{p:AP1}{u:Value}(h:bX Z w ρ p.v u):dE Z w p u:=by
 cases p with
 |one d=>cases h with|one _ _ h=>exact h
 |agg ds=>
  cases h with
  |agg _ us hl hr=>exact⟨us,rfl,by simpa using hl,λi d u h1 h2=>hr i (.d d) u (by rw[List.getElem?_map,h1];rfl) h2⟩
section
variable {E:bB} {S:bV} {o:Oper} {st:ASt} {K:ASt->Prop}
theorem Nt{Z:Nat->Prop}{w:World}{ρ:Nat->Value}{R:(Nat->Prop)->World->Value->Prop}{v:Value}(h:bX Z w ρ (.one (.d (.x R))) v):R Z w v:=by
 cases h with
 |one _ _ hx=>
  have hx:bR Z w (.x R) v:=hx;cases hx with
  |x _ _ h1 hR=>exact hR Z w (λ_ h=>h) λ_ _=>rfl
theorem Ze{f:FuncId}{r:Operand}{p:AP1}(ho:o.op= .makeFunc (.func f) #[r] #[])(hr:aEv st r λv=>v=p.v)(hk:dR st o.dst (.one (.d (.x (RG f p)))) K):AOp E S o st K:=by
 refine⟨λa w Q hsx=>?_⟩;obtain⟨Z,ρ,h⟩:=hsx;obtain⟨x,hx,rfl⟩:=bn h hr;have hp:=JX hx;have hrun:(execOp a.eval o).run E.P w= .ok (.value (.func (.func f) #[a.eval r] #[])) w:=by
  simp only[execOp,ho];simp[Instr.makeFunc]
 exact ie h ⟨.one (.d (.x (RG f p))),_,.one _ _ (show bR Z w (.x (RG f p)) _ from .x _ _ rfl λZ' w' hz hb=>⟨_,rfl,hp.mono hz hb⟩),hrun,hk⟩ Q
theorem YU{c:Call}{fo:Operand}{f:FuncId}{p:AP1}(ho:o.op= .call c)(hcal:c.callee= .value fo)(hfv:aEv st fo λv=>v= .one (.d (.x (RG f p))))(hk:Aw st c.args.toList λvs=>aG E S f (p.v::vs) st λr st=>dR st o.dst r K):AOp E S o st K:=by
 refine⟨λa w Q hsx=>?_⟩;obtain⟨Z,ρ,h⟩:=hsx;obtain⟨x,hx,rfl⟩:=bn h hfv;obtain⟨vs,hl,hv,hk⟩:=mN h hk;obtain⟨u,e1,hp⟩:=Nt hx;refine xZ h (us:=u::c.args.toList.map a.eval) (by simp[hl]) (λi x v hx hv2=>?_) ?_ hk Q
 ·cases i with
  |zero=>simp at hx hv2;subst hx hv2;exact hp.v
  |succ i=>
   simp only[List.getElem?_cons_succ,List.getElem?_map]at hx hv2;obtain⟨y,hy,rfl⟩:=Option.map_eq_some_iff.1 hv2;exact hv i y x hy hx
 ·simp only[execOp,ho,resolve,hcal,e1,Deferred.ofValue,Sem.run_bind,Sem.run_pure,Result.andThen_ok,invoke,my c.args a.eval];simp
theorem aaH{t:TypeId}{x:Operand}{p:AP1}(ho:o.op= .makeInterface t x)(hs:∀u w,(Instr.makeInterface t u).run E.P w= .ok (.iface t u) w)(hx:aEv st x λv=>v=p.v)(hk:dR st o.dst (.one (.d (.x (IfR t p)))) K):AOp E S o st K:=by
 refine⟨λa w Q hsx=>?_⟩;obtain⟨Z,ρ,h⟩:=hsx;obtain⟨y,hy,rfl⟩:=bn h hx;have hp:=JX hy;have hrun:(execOp a.eval o).run E.P w= .ok (.value (.iface t (a.eval x))) w:=by
  simp only[execOp,ho];simp[hs]
 exact ie h ⟨.one (.d (.x (IfR t p))),_,.one _ _ (show bR Z w (.x (IfR t p)) _ from .x _ _ rfl λZ' w' hz hb=>⟨_,rfl,hp.mono hz hb⟩),hrun,hk⟩ Q
theorem aaw{x:Operand}{X A:TypeId}{p:AP1}(ho:o.op= .typeAssert x X A true)(hs:∀u w,(Instr.typeAssert (.iface A u) X A true).run E.P w= .ok (.tuple #[u,.bool true]) w)(hx:aEv st x λv=>v= .one (.d (.x (IfR A p))))(hk:dR st o.dst (.tup [p.v,vB true]) K):AOp E S o st K:=by
 refine⟨λa w Q hsx=>?_⟩;obtain⟨Z,ρ,h⟩:=hsx;obtain⟨y,hy,rfl⟩:=bn h hx;obtain⟨u,e,hp⟩:=Nt hy;have hrun:(execOp a.eval o).run E.P w= .ok (.value (.tuple #[u,.bool true])) w:=by
  simp only[execOp,ho,e];simp[hs]
 refine ie h ⟨_,_,.tup _ [u,.bool true] rfl λi x v h1 h2=>?_,hrun,hk⟩ Q;match i,h1,h2 with
 |0,h1,h2=>simp at h1 h2;subst h1 h2;exact hp.v
 |1,h1,h2=>simp at h1 h2;subst h1 h2;exact .one _ _ (.pv _ rfl)
theorem aac{x:Operand}{X A t:TypeId}{p q:AP1}(z:Value)(ho:o.op= .typeAssert x X A true)(hs:∀u w,(Instr.typeAssert (.iface t u) X A true).run E.P w= .ok (.tuple #[z,.bool false]) w)(hz:∀Z w,dE Z w q z)(hx:aEv st x λv=>v= .one (.d (.x (IfR t p))))(hk:dR st o.dst (.tup [q.v,vB false]) K):AOp E S o st K:=by
 refine⟨λa w Q hsx=>?_⟩;obtain⟨Z,ρ,h⟩:=hsx;obtain⟨y,hy,rfl⟩:=bn h hx;obtain⟨u,e,hp⟩:=Nt hy;have hrun:(execOp a.eval o).run E.P w= .ok (.value (.tuple #[z,.bool false])) w:=by
  simp only[execOp,ho,e];simp[hs]
 refine ie h ⟨_,_,.tup _ [z,.bool false] rfl λi x v h1 h2=>?_,hrun,hk⟩ Q;match i,h1,h2 with
 |0,h1,h2=>simp at h1 h2;subst h1 h2;exact(hz Z w).v
 |1,h1,h2=>simp at h1 h2;subst h1 h2;exact .one _ _ (.pv _ rfl)
theorem aS.plain{P:Program}{t:TypeId}{i:TI}(h:aS P t i)(hk:i.kind≠ .oth):∃d,P.underlying t=some d/\qg d=i.kind/\∀m,d≠ .interface m:=by
 obtain⟨d,h1,h2⟩:=Option.map_eq_some_iff.1 h.kd;refine⟨d,h1,h2,?_⟩;rintro m rfl;exact hk h2.symm
def Gw(k:TK)(X:Prop):Prop:=match k with
 | .oth=>False
 |_=>X
theorem yy{k:TK}{X:Prop}(h:Gw k X):k≠ .oth/\X:=by
 cases k<;>first|exact h.elim|exact⟨nofun,h⟩
theorem YK(he:E.Ok){t:TypeId}{x:Operand}(p:AP1)(ho:o.op= .makeInterface t x)(hx:aEv st x λv=>v=p.v)(hk:aTI E.T t λi=>Gw i.kind (dR st o.dst (.one (.d (.x (IfR t p)))) K)):AOp E S o st K:=by
 obtain⟨i,hi,hk⟩:=bN he hk;obtain⟨h1,h2⟩:=yy hk;obtain⟨d,h3,_,h5⟩:=hi.plain h1;refine aaH ho (λu w=>?_) hx h2;unfold Instr.makeInterface;simp only[underlying,Sem.run_bind,run_program,Result.andThen_ok,h3];cases d<;>first|exact((h5 _) rfl).elim|rfl
def Wm(E:bB)(A t:TypeId)(p:AP1)(K:AV->Prop):Prop:=
 aTI E.T A fun i => Gw i.kind (match Nat.beq t A with
  |true=>K (.tup [p.v,vB true])
  |false=>match i.zero with
   | .agg cs=>And (cs.toList.all Value.oneCell'=true) (K (.tup [.agg (cs.toList.map λv=> .d (.pv v)),vB false]))
   |v=>And (v.oneCell'=true) (K (.tup [.one (.d (.pv v)),vB false])))
theorem Y4(he:E.Ok){x:Operand}{X A t:TypeId}{p:AP1}(ho:o.op= .typeAssert x X A true)(hx:aEv st x λv=>v= .one (.d (.x (IfR t p))))(hk:Wm E A t p λv=>dR st o.dst v K):AOp E S o st K:=by
 obtain⟨i,hi,hk⟩:=bN he hk;obtain⟨h1,hk2⟩:=yy hk;clear hk;obtain⟨d,h3,_,h5⟩:=hi.plain h1;cases e:Nat.beq t A with
 |true=>
  rw[e]at hk2;have e2:t=A:=Nat.eq_of_beq_eq_true e;subst e2;refine aaw ho (λu w=>?_) hx hk2;unfold Instr.typeAssert;simp only[underlying,Sem.run_bind,run_program,Result.andThen_ok,h3];cases d<;>first|exact((h5 _) rfl).elim|(simp;done)|(simp[Sem.run_pure];rfl)
 |false=>
  rw[e]at hk2;have hk:=hk2;have hne:t≠A:=Nat.ne_of_beq_eq_false e;have hs:∀u w,(Instr.typeAssert (.iface t u) X A true).run E.P w= .ok (.tuple #[i.zero,.bool false]) w:=by
   intro u w;unfold Instr.typeAssert;simp only[underlying,Sem.run_bind,run_program,Result.andThen_ok,h3];cases d<;>first|exact((h5 _) rfl).elim|(simp[hne,hi.zr];done)
  simp only at hk;split at hk
  ·rename_i cs hz;obtain⟨g1,g2⟩:=hk;rw[hz]at hs;refine aac (q:= .agg (cs.toList.map .pv)) (.agg cs) ho hs (λZ w=>⟨cs.toList,by simp,by simp,λj a u h6 h7=>?_⟩) hx ?_
   ·rw[List.getElem?_map,h7]at h6;injection h6 with h6
    subst h6;exact .pv _ (List.all_eq_true.1 g1 u (List.mem_of_getElem? h7))
   ·rw[show AP1.v (.agg (cs.toList.map .pv))= .agg (cs.toList.map λv=> .d (.pv v))by simp[AP1.v]];exact g2
  ·obtain⟨g1,g2⟩:=hk;exact aac (q:= .one (.pv i.zero)) i.zero ho hs (λZ w=> .pv _ g1) hx g2
theorem YL{c:Call}{r:Operand}{name:String}{t:TypeId}{f:FuncId}{p:AP1}(ho:o.op= .call c)(hcal:c.callee= .invoke r name)(hr:aEv st r λv=>v= .one (.d (.x (IfR t p))))(hm:∀u args w,(callMethod (.iface t u) name args).run E.P w=(callFunc f (#[u]++args)).run E.P w)(hk:Aw st c.args.toList λvs=>aG E S f (p.v::vs) st λr st=>dR st o.dst r K):AOp E S o st K:=by
 refine⟨λa w Q hsx=>?_⟩;obtain⟨Z,ρ,h⟩:=hsx;obtain⟨x,hx,rfl⟩:=bn h hr;obtain⟨vs,hl,hv,hk⟩:=mN h hk;obtain⟨u,e1,hp⟩:=Nt hx;refine xZ h (us:=u::c.args.toList.map a.eval) (by simp[hl]) (λi x v hx hv2=>?_) ?_ hk Q
 ·cases i with
  |zero=>simp at hx hv2;subst hx hv2;exact hp.v
  |succ i=>
   simp only[List.getElem?_cons_succ,List.getElem?_map]at hx hv2;obtain⟨y,hy,rfl⟩:=Option.map_eq_some_iff.1 hv2;exact hv i y x hy hx
 ·simp only[execOp,ho,resolve,hcal,e1,Sem.run_bind,Sem.run_pure,Result.andThen_ok,invoke,my c.args a.eval];simp only[List.size_toArray,List.length_map,Array.size_append];simp[hm];rw[List.take_of_length_le aj]
end
end
section
def yu(ob:List (Nat×AO)):List AC->List AD->List Nat->(List AD->List AD->Prop)->Prop
 |[],ds,_,K=>match ds with
  |[]=>K [] []
  |_=>False
 | .own id::r,ds,L,K=>match ds with
  | .sl ys::q=>match inL L id with
   |true=>False
   |false=>aOb ob id λo=>match o with
    | .row _ s xs=>And (ys.length=xs.length) (And (∀y∈ys,y.length=s) (yu ob r q (id::L) λC D=>K (xs.flatten++C) (ys.flatten++D)))
    |_=>False
  |_=>False
 | .d x::r,ds,L,K=>match ds with
  |d::q=>yu ob r q L λC D=>K (x::C) (d::D)
  |_=>False
 | .nil::r,ds,L,K=>match ds with
  |d::q=>And (d= .sl []\/d= .pv (.slice none 0 0)) (yu ob r q L K)
  |_=>False
 |_::_,_,_,_=>False
def Eg:List AV->(List AC->Prop)->Prop
 |[],K=>K []
 | .one c::r,K=>Eg r λcs=>K (c::cs)
 | .agg xs::r,K=>Eg r λcs=>K (xs++cs)
 | .tup _::_,_=>False
def shp:List AV->List AP1->Bool
 |[],[]=>true
 | .one _::r,.one _::q=>shp r q
 | .agg cs::r,.agg ds::q=>Nat.beq cs.length ds.length&&shp r q
 |_,_=>false
def uR(ob:List (Nat×AO))(n:Nat)(xs:List AV)(ps:List AP1):Prop:=
 And (shp xs ps=true) (Eg xs λcs=>yu ob cs (gU ps) [] λC D=>∃lo hi:Nat,n<=lo/\Fam lo hi C D)
def zJ(E:bB)(st:ASt):List ResultVar->(List AV->Prop)->Prop
 |[],K=>K []
 | .tmp t::r,K=>aTm st.tm t λv=>zJ E st r λvs=>K (v::vs)
 | .cell t ty::r,K=>aTm st.tm t λx=>rS E st ty x λv=>zJ E st r λvs=>K (v::vs)
def Ue(E:bB)(rs:List ResultVar)(n:Nat)(ps:List AP1):Exit->ASt->Prop
 | .ret,st=>zJ E st rs λxs=>uR st.ob n xs ps
 | .normal,st=>zJ E st rs λxs=>uR st.ob n xs ps
 |_,_=>False
section
variable {E:bB} {S:bV} {Z:Nat->Prop} {ρ:Nat->Value} {w:World} {ob:List (Nat×AO)}
theorem sZ(h:WS E.W S Z w ρ ob):∀{cs:List AC} {ds:List AD} {us:List Value} {L:List Nat} {K:List AD->List AD->Prop},us.length=cs.length->(∀(i:Nat) c u,cs[i]? =some c->us[i]? =some u->dW Z w ρ c u)->yu ob cs ds L K->
  ∃C D uu,K C D/\uu.length=C.length/\(∀(i:Nat) c u,C[i]? =some c->uu[i]? =some u->bR Z w c u)/\∀P:Nat->Prop,(∀b,P b->Z b)->cV w P D uu->cV w (λb=>P b\/H3 ρ ob L b) ds us
 |[],ds,[],L,K,_,_,hk=>by
  cases ds with
  |nil=>exact⟨[],[],[],hk,rfl,by simp,λP _ _=>cV.nil⟩
  |cons d q=>exact hk.elim
 |[],_,_::_,_,_,hl,_,_=>by simp at hl
 |_::_,_,[],_,_,hl,_,_=>by simp at hl
 |c::r,ds,u::us,L,K,hl,hr,hk=>by
  have hl':us.length=r.length:=by simpa using hl
  have hr':∀(i:Nat) c u,r[i]? =some c->us[i]? =some u->dW Z w ρ c u:=λi x y h1 h2=>hr (i+1) x y (by simpa using h1) (by simpa using h2);have h0:dW Z w ρ c u:=hr 0 c u rfl rfl;cases c with
  |own id=>
   cases ds with
   |nil=>exact hk.elim
   |cons d q=>
    cases d with
    |sl ys=>
     simp only[yu]at hk;split at hk
     ·exact hk.elim
     ·rename_i hin;obtain⟨o,ho,hk⟩:=co hk;split at hk
      ·rename_i e s xs;obtain⟨hyl,hys,hk⟩:=hk;have hu:u=ρ id:=h0.1;subst hu;obtain⟨C,D,uu,hK,h1,h2,h3⟩:=sZ h hl' hr' hk;obtain⟨ur,hs,hul,hxs,hus,hown,hd⟩:=h.obj id _ ho;have hlx:xs.flatten.length=xs.length*s:=eh hxs;have hlu:ur.flatten.length=xs.flatten.length:=by rw[eh hus,hlx,hul]
       refine⟨xs.flatten++C,ys.flatten++D,ur.flatten++uu,hK,by simp only[List.length_append,hlu,h1],λi c u hc hu=>?_,λP hP hf=>?_⟩
       ·by_cases hi:i<xs.flatten.length
        ·rw[List.getElem?_append_left hi]at hc;rw[List.getElem?_append_left ac]at hu;rw[hlx]at hi;have hdm:i=i/s*s+i % s:=(Nat.div_add_mod' i s).symm;have hrm:i % s<s:=Nat.mod_lt _ hs;have hkk:i/s<xs.length:=Nat.div_lt_of_lt_mul (by rw[Nat.mul_comm];exact hi);rw[hdm,dy hxs (List.getElem?_eq_getElem hkk) hrm]at hc;rw[hdm,dy hus (List.getElem?_eq_getElem ac) hrm]at hu;exact hd _ _ _ _ c u (List.getElem?_eq_getElem hkk) (List.getElem?_eq_getElem ac) hc hu
        ·rw[List.getElem?_append_right ac]at hc;rw[List.getElem?_append_right ac,hlu]at hu;exact h2 _ c u hc hu
       ·obtain⟨u1,u2,P1,P2,eu,dj,a1,a2,f1,f2⟩:=cV.split hf;have hl1:u1.length=ur.flatten.length:=by rw[f1.1,hlu,hlx,eh hys,hyl]
        obtain⟨rfl,rfl⟩:=List.append_inj eu hl1.symm;obtain⟨lF,Q,qq,eQ,rQ⟩:=f1;have hrel:bW w (λb=>bQ (ρ id)=some b\/P1 b) (.sl ys) (ρ id):=by
         refine .sl _ ys e s ur _ Q hs (by rw[hul,hyl]) hys hus (by rw[hyl];exact hown) (λb hb=>⟨.inl hb,λi hq=>(h.mine id _ b ho hb).1 (hP b (a1 b (qq i b hq)))⟩) (λi b hb=> .inr (qq i b hb)) eQ rQ
        refine cV.append (d1:=[.sl ys]) (P:=λb=>P b\/H3 ρ ob L b) (cV.one hrel) (h3 P2 (λb hb=>hP b (a2 b hb)) f2) (λb q1 q2=>?_) (λb q=>?_) (λb q=>?_)
        ·rcases q1 with q1|q1
         ·rcases q2 with q2|⟨id2,o2,hin2,ho2,hb2⟩
          ·exact(h.mine id _ b ho q1).1 (hP b (a2 b q2))
          ·exact h.sep id2 id o2 _ b ho2 ho (pc hin2).2 hb2 q1
         ·rcases q2 with q2|⟨id2,o2,hin2,ho2,hb2⟩
          ·exact dj b q1 q2
          ·exact(h.mine id2 _ b ho2 hb2).1 (hP b (a1 b q1))
        ·rcases q with q|q
         ·exact .inr ⟨id,_,hin,ho,q⟩
         ·exact .inl (a1 b q)
        ·exact q.imp (a2 b) fun⟨id2,o2,a,b,c⟩=>⟨id2,o2,(pc a).1,b,c⟩
      ·exact hk.elim
    |pv _=>exact hk.elim
    |x _=>exact hk.elim
  |d x=>
   cases ds with
   |nil=>exact hk.elim
   |cons d q=>
    obtain⟨C,D,uu,hK,h1,h2,h3⟩:=sZ h hl' hr' (show yu ob r q L λC D=>K (x::C) (d::D)from hk);refine⟨x::C,d::D,u::uu,hK,by simp[h1],λi c v hc hv=>?_,λP hP hf=>?_⟩
    ·cases i with
     |zero=>simp at hc hv;subst hc hv;exact h0
     |succ i=>exact h2 i c v (by simpa using hc) (by simpa using hv)
    ·obtain⟨u1,u2,P1,P2,eu,dj,a1,a2,f1,f2⟩:=cV.split (d1:=[d]) (d2:=D) hf;have hu1:u1=[u]/\u2=uu:=by
      have:=f1.1;match u1,this with
      |[y],_=>injection eu with e1 e2;exact⟨by rw[e1],e2.symm⟩
     obtain⟨rfl,rfl⟩:=hu1;refine cV.append (d1:=[d]) (P:=λb=>P b\/H3 ρ ob L b) f1 (h3 P2 (λb hb=>hP b (a2 b hb)) f2) (λb q1 q2=>?_) (λb q=> .inl (a1 b q)) (λb q=>q.imp (a2 b) id);rcases q2 with q2|⟨id2,o2,_,ho2,hb2⟩
     ·exact dj b q1 q2
     ·exact(h.mine id2 _ b ho2 hb2).1 (hP b (a1 b q1))
  |nil=>
   cases ds with
   |nil=>exact hk.elim
   |cons d q=>
    obtain⟨e1,hk2⟩:=(show And (d= .sl []\/d= .pv (.slice none 0 0)) (yu ob r q L K)from hk);have hu:u= .slice none 0 0:=h0;subst hu;obtain⟨C,D,uu,hK,h1,h2,h3⟩:=sZ h hl' hr' hk2;refine⟨C,D,uu,hK,h1,h2,λP hP hf=>?_⟩;exact cV.append (d1:=[d]) (u1:=[.slice none 0 0]) (P1:=λ_=>False) (cV.one (by rcases e1 with rfl|rfl;exact .emp _ _ _ (Nat.zero_le _);exact .pv _ _ rfl)) (h3 P hP hf) (λ_ h=>h.elim) (λ_ h=>h.elim) λb q=>q
  |dead=>exact hk.elim
  |und=>exact hk.elim
  |ref _ _ _ _=>exact hk.elim
  |ptr _=>exact hk.elim
theorem tM:∀{xs:List AV} {vs:List Value} {ps:List AP1} {K:List AC->Prop},vs.length=xs.length->(∀(i:Nat) x v,xs[i]? =some x->vs[i]? =some v->bX Z w ρ x v)->shp xs ps=true->Eg xs K->
  ∃cs us,K cs/\us.length=cs.length/\(∀(i:Nat) c u,cs[i]? =some c->us[i]? =some u->dW Z w ρ c u)/\jA ps vs us
 |[],[],ps,K,_,_,hs,hk=>by
  cases ps with
  |nil=>exact⟨[],[],hk,rfl,by simp,.nil⟩
  |cons p q=>cases hs
 |[],_::_,_,_,hl,_,_,_=>by simp at hl
 |_::_,[],_,_,hl,_,_,_=>by simp at hl
 |x::r,v::vs,ps,K,hl,hr,hs,hk=>by
  have hl':vs.length=r.length:=by simpa using hl
  have hr':∀(i:Nat) x v,r[i]? =some x->vs[i]? =some v->bX Z w ρ x v:=λi x y h1 h2=>hr (i+1) x y (by simpa using h1) (by simpa using h2);have h0:bX Z w ρ x v:=hr 0 x v rfl rfl;cases h0 with
  |one c v h0=>
   match ps,hs with
   | .one d::q,hs=>
    obtain⟨cs,us,hK,h1,h2,h3⟩:=tM hl' hr' (show shp r q=true from hs) (show Eg r λcs=>K (c::cs)from hk);refine⟨c::cs,v::us,hK,by simp[h1],λi a b ha hb=>?_,.one d v h3⟩;cases i with
    |zero=>simp at ha hb;subst ha hb;exact h0
    |succ i=>exact h2 i a b (by simpa using ha) (by simpa using hb)
  |agg az ws hl2 h0=>
   match ps,hs with
   | .agg ds::q,hs=>
    simp only[shp,Bool.and_eq_true]at hs;have e:=Nat.eq_of_beq_eq_true hs.1;obtain⟨cs,us,hK,h1,h2,h3⟩:=tM hl' hr' hs.2 (show Eg r λcs=>K (az++cs)from hk);refine⟨az++cs,ws++us,hK,by simp[h1,hl2],λi a b ha hb=>?_,.agg ds ws (by rw[hl2,e]) h3⟩;by_cases hi:i<az.length
    ·rw[List.getElem?_append_left hi]at ha;rw[List.getElem?_append_left ac]at hb;exact h0 i a b ha hb
    ·rw[List.getElem?_append_right ac]at ha;rw[List.getElem?_append_right ac,hl2]at hb;exact h2 _ a b ha hb
  |tup az ws hl2 h0=>exact hk.elim
theorem Bz{st:ASt}(h:WS E.W S Z w ρ st.ob)(hO:∀b,¬S.O b){xs:List AV}{vs:List Value}{ps:List AP1}(hl:vs.length=xs.length)(hr:∀(i:Nat) x v,xs[i]? =some x->vs[i]? =some v->bX Z w ρ x v)(hk:uR st.ob S.w0.heap.size xs ps):
  ∃us,jA ps vs us/\cV w (λb=>S.w0.heap.size<=b/\b<w.heap.size) (gU ps) us:=by
 obtain⟨hs,hk⟩:=hk;obtain⟨cs,us,hk,h1,h2,h3⟩:=tM hl hr hs hk;obtain⟨C,D,uu,⟨lo,hi,hn,hF⟩,h4,h5,h6⟩:=sZ h h1 h2 hk;refine⟨us,h3,(h6 _ (λb hb=>hb.2.2) (hF.2 Z w uu h4 h5)).mono λb hb=>?_⟩;rcases hb with hb|⟨id,o,_,ho,hb⟩
 ·exact⟨ac,h.zlt b hb.2.2⟩
 ·exact⟨(h.mine id o b ho hb).2.resolve_right (hO b),h.lt ho hb⟩
theorem rR(he:E.Ok){st:ASt}{a:Act}(h:Sim E.W S Z ρ st a w):∀{rs:List ResultVar} {K:List AV->Prop},zJ E st rs K->
  ∃(vs:List Value) (xs:List AV),(rs.mapM (dZ a.tmps)).run E.P w= .ok vs w/\vs.length=xs.length/\vs.length=rs.length/\(∀(i:Nat) x v,xs[i]? =some x->vs[i]? =some v->bX Z w ρ x v)/\K xs
 |[],K,hk=>⟨[],[],rfl,rfl,rfl,by simp,hk⟩
 |r::rs,K,hk=>by
  obtain⟨v,x,h1,h2,hk⟩:∃v x,(dZ a.tmps r).run E.P w= .ok v w/\bX Z w ρ x v/\zJ E st rs λvs=>K (x::vs):=by
   cases r with
   |tmp t=>
    obtain⟨x,hx,hk⟩:=iY hk;have hlt:t<a.tmps.size:=by rw[h.len];exact(List.getElem?_eq_some_iff.1 hx).1
    exact⟨a.tmps[t],x,by simp[dZ,hlt],h.tm t x _ hx (Array.getElem?_eq_getElem hlt),hk⟩
   |cell t ty=>
    obtain⟨x,hx,hk⟩:=iY hk;have hlt:t<a.tmps.size:=by rw[h.len];exact(List.getElem?_eq_some_iff.1 hx).1
    obtain⟨b,off,v,y,e,hrl,hy,hk⟩:=pg he h (h.tm t x _ hx (Array.getElem?_eq_getElem hlt)) hk;exact⟨v,y,by simp[dZ,hlt,e,asAddr,hrl],hy,hk⟩
  obtain⟨vs,xs,h3,h4,h5,h6,hk⟩:=rR he h hk;refine⟨v::vs,x::xs,?_,by simp[h4],by simp[h5],λi y u hy hu=>?_,hk⟩
  ·rw[List.mapM_cons,Sem.run_bind,h1];simp only[Result.andThen_ok];rw[Sem.run_bind,h3];rfl
  ·cases i with
   |zero=>simp at hy hu;subst hy hu;exact h2
   |succ i=>exact h6 i y u (by simpa using hy) (by simpa using hu)
theorem Q8{T:World->Prop}{Z:Nat->Prop}{w:World}{us:List Value}{args:List AP1}{k:Nat}(hz:∀b,Z b->b<w.heap.size)(hg:GZ T Z w)(hl:us.length=args.length)(hr:∀(i:Nat) p u,args[i]? =some p->us[i]? =some u->dE Z w p u)(hle:args.length<=k):
  Sim T ⟨w,λ_=>False,Z⟩ Z (λ_=>undef) ⟨args.map AP1.v++List.replicate (k-args.length) (.one .und),[(9997,cH w.heap.size w.heap.size)]⟩ {tmps:=us.toArray++Array.replicate (k-us.toArray.size) undef,defers:=[]} w:=by
 have hw0:WS T ⟨w,λ_=>False,Z⟩ Z w (λ_=>undef) []:=⟨rfl,rfl,rfl,Nat.le_refl _,λ_ _ _=>rfl,hz,λid o b ho _=>(by cases ho),λi j oi oj b hi _ _ _ _=>(by cases hi),λid o ho=>(by cases ho),jI.nil,hg,λb hb=>hb,λb hb=> .inl hb⟩;refine⟨hw0.reframe (id:=9997) (je rfl (.inl (Nat.le_refl _))),by simp[hl],λi x v hx hv=>?_,rfl⟩;simp only at hx hv;have hv':(us++List.replicate (k-us.length) undef)[i]? =some v:=by
  have:=hv;rw[<-Array.getElem?_toList]at this;simpa using this
 by_cases hi:i<us.length
 ·rw[List.getElem?_append_left (by simpa[hl]using hi),List.getElem?_map]at hx;obtain⟨p,hp,rfl⟩:=Option.map_eq_some_iff.1 hx;rw[List.getElem?_append_left hi]at hv';exact(hr i p v hp hv').v
 ·rw[List.getElem?_append_right al]at hx;rw[List.getElem?_append_right ac]at hv';have e1:=List.eq_of_mem_replicate (List.mem_of_getElem? hx);have e2:=List.eq_of_mem_replicate (List.mem_of_getElem? hv');subst e1 e2;exact .one _ _ (show dW Z w (λ_=>undef) .und undef from rfl)
theorem oa{fn:Func}{tmps:Array Value}{P:Program}{w:World}{vs:List Value}(h:(fn.results.toList.mapM (dZ tmps)).run P w= .ok vs w):(results fn tmps).run P w= .ok (if h:vs.toArray.size=1 then vs.toArray[0]else .tuple vs.toArray) w:=by
 have e:results fn tmps=(do let vs<-fn.results.mapM (dZ tmps);pure (if h:vs.size=1 then vs[0]else .tuple vs)):=rfl;rw[e,Sem.run_bind,Array.mapM_eq_mapM_toList,Sem.run_map,h];rfl
theorem mz(he:E.Ok){f:FuncId}{fn:Func}{c:Code}{n:Nat}{rs:List ResultVar}{args:List AP1}{res:AP1}(hf:E.P.funcs[f]? =some fn)(hb:fn.body=some c)
  (enter:∀(us:Array Value) w,(callFunc f us).run E.P w= .ok (.enter f us) w) (hn:fn.ntmps=n) (hrs:fn.results.toList=rs)
  (h:∀S:bV,uS args n λtm=>AWP E S c (Ue E rs S.w0.heap.size [res]) ⟨tm,[(9997,cH S.w0.heap.size S.w0.heap.size)]⟩):ce E f args res:=by
 refine⟨enter,λZ w us hz hg hl hr=>?_⟩;subst hn hrs;obtain⟨hle,hk⟩:=jL (h ⟨w,λ_=>False,Z⟩);refine calls_of_wp hf hb (wp_mono (hk.run _ w ⟨Z,_,Q8 hz hg hl hr hle⟩) λe a' w' h'=>?_);obtain⟨st',⟨Z',ρ',hs'⟩,hk'⟩:=h';have fin:zJ E st' fn.results.toList (λxs=>uR st'.ob w.heap.size xs [res])->a'.defers=[]/\∃v,(results fn a'.tmps).run E.P w'= .ok v w'/\∃v0,Ending.returned v= .returned v0/\Below w.heap.size w w'/\zH w.heap.size w'.heap.size w' res v0:=by
  intro hr;obtain⟨vs,xs,h1,h2,h3,h4,h5⟩:=rR he hs' hr;obtain⟨us',h6,h7⟩:=Bz (S:=⟨w,λ_=>False,Z⟩) hs'.ws (λb h=>h) h2 h4 h5;have h8:=h6.len.1;match vs,h8,h6,h1 with
  |[v],_,h6,h1=>
   refine⟨hs'.df,v,by rw[oa h1];rfl,v,rfl,⟨hs'.ws.os,hs'.ws.tape,hs'.ws.output,hs'.ws.size,λb hb=>hs'.ws.old b hb (λh=>h)⟩,?_⟩;cases h6 with
   |one d _ h9=>cases h9;exact h7
   |agg ds ws hl9 h9=>cases h9;simp only[gU,List.append_nil]at h7;exact⟨ws,rfl,h7⟩
 cases e with
 |normal=>exact fin hk'
 |ret=>exact fin hk'
 |_=>exact hk'.elim
theorem bq(he:E.Ok){f:FuncId}{fn:Func}{c:Code}{n:Nat}{rs:List ResultVar}{args:List AP1}{res:List AP1}(hf:E.P.funcs[f]? =some fn)(hb:fn.body=some c)
  (enter:∀(us:Array Value) w,(callFunc f us).run E.P w= .ok (.enter f us) w) (hn:fn.ntmps=n) (hrs:fn.results.toList=rs) (h1:Nat.beq rs.length 1=false)
  (h:∀S:bV,uS args n λtm=>AWP E S c (Ue E rs S.w0.heap.size res) ⟨tm,[(9997,cH S.w0.heap.size S.w0.heap.size)]⟩):fC E f args res:=by
 refine⟨enter,λZ w us hz hg hl hr=>?_⟩;subst hn hrs;obtain⟨hle,hk⟩:=jL (h ⟨w,λ_=>False,Z⟩);refine calls_of_wp hf hb (wp_mono (hk.run _ w ⟨Z,_,Q8 hz hg hl hr hle⟩) λe a' w' h'=>?_);obtain⟨st',⟨Z',ρ',hs'⟩,hk'⟩:=h';have fin:zJ E st' fn.results.toList (λxs=>uR st'.ob w.heap.size xs res)->a'.defers=[]/\∃v,(results fn a'.tmps).run E.P w'= .ok v w'/\∃v0,Ending.returned v= .returned v0/\Below w.heap.size w w'/\Tu w.heap.size w'.heap.size w' res v0:=by
  intro hr;obtain⟨vs,xs,h2,h3,h4,h5,h6⟩:=rR he hs' hr;obtain⟨us',h7,h8⟩:=Bz (S:=⟨w,λ_=>False,Z⟩) hs'.ws (λb h=>h) h3 h5 h6;have hn1:¬vs.toArray.size=1:=by
   have:=Nat.ne_of_beq_eq_false h1;simpa[h4]using this
  exact⟨hs'.df,_,oa h2,_,rfl,⟨hs'.ws.os,hs'.ws.tape,hs'.ws.output,hs'.ws.size,λb hb=>hs'.ws.old b hb (λh=>h)⟩,vs,us',by rw[dif_neg hn1],h7,h8⟩
 cases e with
 |normal=>exact fin hk'
 |ret=>exact fin hk'
 |_=>exact hk'.elim
end
end
section
def dx(R:Nat->(Nat->Prop)->World->Value->Prop):Nat->List (List AD)->List (List AD)
 |_,[]=>[]
 |k,x::r=>bS R k x::dx R (k+x.length) r
section
variable (R:Nat->(Nat->Prop)->World->Value->Prop)
theorem eY:∀(xs:List (List AD)) (k:Nat),(dx R k xs).length=xs.length
 |[],_=>rfl
 |x::r,k=>by simp[dx,eY r]
theorem mv:∀(xs:List (List AD)) (k:Nat),(dx R k xs).flatten=bS R k xs.flatten
 |[],_=>rfl
 |x::r,k=>by simp[dx,mv r,nk]
theorem lN{s:Nat}:∀{xs:List (List AD)} {k:Nat},(∀x∈xs,x.length=s)->∀x∈dx R k xs,x.length=s
 |[],_,_,x,hx=>by simp[dx]at hx
 |y::r,k,h,x,hx=>by
  rcases List.mem_cons.1 (show x∈bS R k y::dx R (k+y.length) r from hx)with rfl|hx
  ·rw[dq];exact h y aj
  ·exact lN (λz hz=>h z (by simp[hz])) x hx
theorem th{s:Nat}:∀{xs:List (List AD)} {k i:Nat},(∀x∈xs,x.length=s)->(dx R k xs)[i]? =(xs[i]?).map (bS R (k+i*s))
 |[],_,_,_=>by simp[dx]
 |y::r,k,0,h=>by simp[dx]
 |y::r,k,i+1,h=>by
  have ih:=th (xs:=r) (k:=k+y.length) (i:=i) λz hz=>h z (by simp[hz]);have e:k+y.length+i*s=k+(i+1)*s:=by rw[h y aj,Nat.succ_mul];omega
  rw[e]at ih;simpa[dx]using ih
end
theorem Mw(P:Nat->Prop)(lo:Nat):∀n:Nat,∃hi,lo<=hi/\hi<=lo+n/\(∀b,P b->lo<=b->b<lo+n->b<hi)/\(hi=lo\/∃k,hi=k+1/\P k/\lo<=k)
 |0=>⟨lo,Nat.le_refl _,Nat.le_refl _,λb _ h1 h2=>by omega,.inl rfl⟩
 |n+1=>by
  by_cases h:P (lo+n)
  ·exact⟨lo+n+1,ac,ac,λb _ _ h=>h,.inr ⟨lo+n,rfl,h,ac⟩⟩
  ·obtain⟨hi,h1,h2,h3,h4⟩:=Mw P lo n;refine⟨hi,h1,ac,λb hb h5 h6=>?_,h4⟩;rcases Nat.lt_or_ge b (lo+n)with h7|h7
   ·exact h3 b hb h5 h7
   ·have:b=lo+n:=ac;subst this;exact(h hb).elim
theorem Cz(i:Nat)(a b:AO):∀l:List (Nat×AO),fj (fj l i a) i b=fj l i b
 |[]=>by simp[fj]
 |(k,x)::r=>by
  by_cases h:k=i
  ·simp[fj,h]
  ·simp[fj,h,Cz i a b r]
def Am(Z:Nat->Prop)(n n' g:Nat):Nat->Prop:=λb=>Z b\/(n<=b/\b<n'/\b≠g)
section
variable {E:bB} {S:bV}
theorem Sim.freshOwn{Z:Nat->Prop}{ρ:Nat->Value}{tm:List AV}{ob:List (Nat×AO)}{a:Act}{w w':World}(hs:Sim E.W S Z ρ ⟨tm,ob⟩ a w)(hb:Below w.heap.size w w'){m id:Nat}(hm:bA ob 9997=some (cH S.w0.heap.size m))(hid:id≠9997){v:Value}{g:Nat}(hg:bQ v=some g)(hg1:w.heap.size<=g)
  {QL:Nat->Nat->Prop} (hQ:∀i b,QL i b->w.heap.size<=b/\b<w'.heap.size/\b≠g) (eQ:∀i j b,QL i b->QL j b->i=j) {D:List AD} {uL:List Value} (hlen:uL.length=D.length) (rQ:∀(i:Nat) a u,D[i]? =some a->uL[i]? =some u->bW w' (QL i) a u):
  ∃R lo hi,m<=lo/\lo<=hi/\cJ lo hi (bS R 0 D) D/\(∀(i:Nat) c u,(bS R 0 D)[i]? =some c->uL[i]? =some u->bR (Am Z w.heap.size w'.heap.size g) w' c u)/\
   ∀(e:TypeId) (s:Nat) (xs:List (List AD)) (us:List (List Value)),0<s->us.length=xs.length->(∀x∈xs,x.length=s)->(∀u∈us,u.length=s)->w'.ownsRow 0 e s v xs.length us.flatten->(∀(i j:Nat) x u a b,xs[i]? =some x->us[i]? =some u->x[j]? =some a->u[j]? =some b->bR (Am Z w.heap.size w'.heap.size g) w' a b)->
    Sim E.W S (Am Z w.heap.size w'.heap.size g) (λi=>if i=id then v else ρ i) ⟨(fv id ⟨tm,ob⟩).tm,fj (fj (fv id ⟨tm,ob⟩).ob id (.row e s xs)) 9997 (cH S.w0.heap.size hi)⟩ a w':=by
 have hsz:=hb.size;have hgr:=dL hb;have hmark:=td (hs.ws.obj 9997 _ hm);have hρ:ρ 9997=undef:=(hs.ws.obj 9997 _ hm).1;have hmle:m<=w.heap.size:=by
  rcases hmark with h|⟨k,e,h⟩
  ·exact Nat.le_trans h hs.ws.size
  ·have:=hs.ws.zlt k h;omega
 let R:Nat->(Nat->Prop)->World->Value->Prop:=λi Zx wx u=>(∀b,QL i b->Zx b)/\∃a,D[i]? =some a/\bW wx (QL i) a u
 have hcell:∀(i:Nat) c u,(bS R 0 D)[i]? =some c->uL[i]? =some u->bR (Am Z w.heap.size w'.heap.size g) w' c u:=by
  intro i c u hc hu;obtain⟨d,hd,h⟩:=iS R hc;have ht:=rQ i d u hd hu;rcases h with⟨x,rfl,rfl⟩|h
  ·cases ht with|pv _ _ h1=>exact .pv _ h1
  ·rw[Nat.zero_add]at h;subst h;refine .x _ _ ht.one λZx wx hzx hbx=>⟨λb hb=>hzx b (.inr (hQ i b hb)),d,hd,ht.keep λb hb=>hbx b (.inr (hQ i b hb))⟩
 have hfam:∀lo hi:Nat,(∀i b,QL i b->lo<=b/\b<hi)->cJ lo hi (bS R 0 D) D:=by
  intro lo hi hlh;refine⟨dq R _ _,QL,hlh,eQ,λi c a hc ha Zx wx u hrel=>?_⟩;obtain⟨d,hd,h⟩:=iS R hc;rw[ha]at hd;injection hd with hd
  subst hd;rcases h with⟨x,e1,e2⟩|h
  ·rw[e2]at hrel;rw[e1];cases hrel with|pv _ h1=>exact .pv _ _ h1
  ·rw[h,Nat.zero_add]at hrel;cases hrel with
   |x _ _ h1 hR=>
    obtain⟨hz,a',ha',ht⟩:=hR Zx wx (λ_ h=>h) λ_ _=>rfl;rw[ha]at ha';injection ha' with ha'
    subst ha';exact ht.mono λb hb=>⟨hb,hz b hb⟩
 have hsim:∀hi:Nat,(hi<=S.w0.heap.size\/∃k,hi=k+1/\Am Z w.heap.size w'.heap.size g k)->∀(e:TypeId) (s:Nat) (xs:List (List AD)) (us:List (List Value)),0<s->us.length=xs.length->(∀x∈xs,x.length=s)->(∀u∈us,u.length=s)->w'.ownsRow 0 e s v xs.length us.flatten->(∀(i j:Nat) x u a b,xs[i]? =some x->us[i]? =some u->x[j]? =some a->u[j]? =some b->bR (Am Z w.heap.size w'.heap.size g) w' a b)->
    Sim E.W S (Am Z w.heap.size w'.heap.size g) (λi=>if i=id then v else ρ i) ⟨(fv id ⟨tm,ob⟩).tm,fj (fj (fv id ⟨tm,ob⟩).ob id (.row e s xs)) 9997 (cH S.w0.heap.size hi)⟩ a w':=by
  intro hi hh e s xs us h0 hul hxs hus hown hrd;let xs0:List (List AD):=xs.map λx=>x.map λ_=>AD.x λ_ _ _=>True
  have rel0:cQ Z w' (λi=>if i=id then v else ρ i) id (.row e s xs0):=by
   refine⟨us,h0,by simp[xs0,hul],λx hx=>?_,hus,by simpa[xs0]using hown,λi j x u a b e1 e2 e3 e4=>?_⟩
   ·obtain⟨y,hy,rfl⟩:=List.mem_map.1 hx;simpa using hxs y hy
   ·rw[getElem?_map]at e1;obtain⟨y,hy,rfl⟩:=Option.map_eq_some_iff.1 e1;rw[getElem?_map]at e3;obtain⟨c,hc,rfl⟩:=Option.map_eq_some_iff.1 e3;exact .x _ _ (hrd i j y u c b hy e2 hc e4).one λ_ _ _ _=>trivial
  have h1:=hs.renew id v (.row e s xs0) (row:=none) hgr aj (λb hb=> .inr (by rw[hg]at hb;injection hb with hb;omega)) rel0;have old:∀j o,j≠id->bA (fj (fv id ⟨tm,ob⟩).ob id (.row e s xs0)) j=some o->∃o0,bA ob j=some o0/\o=na id o0:=by
   intro j o hj ho;rw[cz,if_neg (λe=>hj e.symm)]at ho;simp only[fv,ni]at ho;obtain⟨o0,h0,h1⟩:=Option.map_eq_some_iff.1 ho;exact⟨o0,h0,h1.symm⟩
  have h2:Sim E.W S (Am Z w.heap.size w'.heap.size g) (λi=>if i=id then v else ρ i) ⟨(fv id ⟨tm,ob⟩).tm,fj (fv id ⟨tm,ob⟩).ob id (.row e s xs0)⟩ a w':=by
   refine⟨h1.ws.widen (λb hb=> .inl hb) λb hb=>?_,h1.len,λi x y hx hy=>(h1.tm i x y hx hy).mono (λb hb=> .inl hb) λ_ _=>rfl,h1.df⟩;rcases hb with hb|⟨e1,e2,e3⟩
   ·exact .inl hb
   ·refine .inr ⟨e2,Nat.le_trans hs.ws.size e1,λi o ho hbi=>?_,λi P Q' ho hp=>?_⟩
    ·by_cases hi:i=id
     ·subst hi;simp only[if_true,hg]at hbi;injection hbi with hbi;exact e3 hbi.symm
     ·simp only[if_neg hi]at hbi;obtain⟨o0,h3,_⟩:=old i o hi ho;have:=hs.ws.lt h3 hbi;omega
    ·have hi:i≠id:=by
      rintro rfl;rw[cz,if_pos rfl]at ho;cases ho
     obtain⟨o0,h3,e4⟩:=old i _ hi ho;have h5:bA ob i=some (.many P Q'):=by rw[h3,vX e4.symm]
     have:=((hs.ws.many.ok i P Q' h5).1 b hp).1;omega
  have h3:=h2.upd id (.row e s xs0) (.row e s xs) (g:=g) (by rw[cz,if_pos rfl]) (by simpa using hg) (World.grownBy.refl w' _) ⟨us,h0,hul,hxs,hus,by simpa using hown,hrd⟩;rw[Cz]at h3;have hρ':(λi=>if i=id then v else ρ i) 9997=undef:=by
   show(if 9997=id then v else ρ 9997)=undef;rw[if_neg (λe=>hid e.symm)];exact hρ
  exact⟨h3.ws.reframe (je hρ' hh),h3.len,h3.tm,h3.df⟩
 obtain⟨hi,t1,t2,t3,t4⟩:=Mw (λb=>∃i,QL i b) w.heap.size (w'.heap.size-w.heap.size);have t3':∀i b,QL i b->b<hi:=λi b hb=>t3 b ⟨i,hb⟩ (hQ i b hb).1 (by have:=(hQ i b hb).2.1;omega);rcases t4 with t4|⟨k,t4,⟨i0,t5⟩,t6⟩
 ·refine⟨R,m,m,Nat.le_refl _,Nat.le_refl _,hfam m m λi b hb=>?_,hcell,hsim m ?_⟩
  ·have:=t3' i b hb;have:=hQ i b hb;omega
  ·rcases hmark with h|⟨k,e,h⟩
   ·exact .inl h
   ·exact .inr ⟨k,e,.inl h⟩
 ·exact⟨R,w.heap.size,hi,hmle,t1,hfam _ _ λi b hb=>⟨(hQ i b hb).1,t3' i b hb⟩,hcell,hsim hi (.inr ⟨k,t4,.inr (hQ i0 k t5)⟩)⟩
theorem Fs{w:World}{P:Nat->Prop}{xs:List (List AD)}{v:Value}{s:Nat}(hne:xs≠ [])(hxs:∀x∈xs,x.length=s)(h:bW w P (.sl xs) v):
  ∃(e:TypeId) (us:List (List Value)) (g:Nat) (Q:Nat->Nat->Prop),0<s/\us.length=xs.length/\(∀u∈us,u.length=s)/\w.ownsRow 0 e s v xs.length us.flatten/\bQ v=some g/\P g/\(∀i,¬Q i g)/\(∀i b,Q i b->P b)/\(∀i j b,Q i b->Q j b->i=j)/\∀(i:Nat) a u,xs.flatten[i]? =some a->us.flatten[i]? =some u->bW w (Q i) a u:=by
 cases h with
 |emp=>exact absurd rfl hne
 |sl _ xs e s' us v Q hs hl hx hu hown hbk hQ hd h=>
  have:s'=s:=by
   cases xs with
   |nil=>exact absurd rfl hne
   |cons x r=>rw[<-hx x aj,hxs x aj]
  subst this;rcases hown.2 with⟨_,hn⟩|⟨g,cap,cur,hv,_⟩
  ·exact absurd (List.eq_nil_of_length_eq_zero hn) hne
  ·have hg:bQ v=some g:=by rw[hv];rfl
   exact⟨e,us,g,Q,hs,hl,hu,hown,hg,(hbk g hg).1,(hbk g hg).2,hQ,hd,h⟩
theorem CQ{Z:Nat->Prop}{w:World}{R:Nat->(Nat->Prop)->World->Value->Prop}{xs:List (List AD)}{us:List (List Value)}{s k:Nat}(hs:0<s)(hl:us.length=xs.length)(hxs:∀x∈xs,x.length=s)(hus:∀u∈us,u.length=s)
  (h:∀(i:Nat) c u,(bS R k xs.flatten)[i]? =some c->us.flatten[i]? =some u->bR Z w c u):∀(i j:Nat) x u a b,(dx R k xs)[i]? =some x->us[i]? =some u->x[j]? =some a->u[j]? =some b->bR Z w a b:=by
 intro i j x u a b e1 e2 e3 e4;have hr:=lN R (k:=k) hxs;have hj:j<s:=by rw[<-hr x (List.mem_of_getElem? e1)];exact(List.getElem?_eq_some_iff.1 e3).1
 exact h (i*s+j) a b (by rw[<-mv,dy hr e1 hj];exact e3) (by rw[dy hus e2 hj];exact e4)
structure Gj (E:bB) (f:FuncId) (args:List AP1) (d1:List AD) (xs:List (List AD)) (d3:List AD) (T:TypeId->Prop):Prop where
 enter:∀(us:Array Value) w,(callFunc f us).run E.P w= .ok (.enter f us) w
 run:∀(Z:Nat->Prop) (w:World) (us:List Value),(∀b,Z b->b<w.heap.size)->GZ E.W Z w->us.length=args.length->(∀(i:Nat) p u,args[i]? =some p->us[i]? =some u->dE Z w p u)->
  Calls E.P f us.toArray w λe w'=>∃v,e= .returned v/\Below w.heap.size w w'/\zH w.heap.size w'.heap.size w' (.agg (d1++ .sl xs::d3)) v/\∀(us':List Value) (u:Value) (b:Nat) (cur:Array Value) (t:TypeId) (k:Nat×Nat),v= .agg us'.toArray->us'[d1.length]? =some u->bQ u=some b->w'.heap[b]? =some (.cells cur t k)->T t
theorem Zj{f:FuncId}{args:List AV}{tm:List AV}{ob:List (Nat×AO)}{K:AV->ASt->Prop}{ps:List AP1}{m:Nat}(id s:Nat)(d1 d3:List AD)(xs:List (List AD)){T:TypeId->Prop}(hc:Gj E f ps d1 xs d3 T)(hps:aRs ob args (· =ps))(hm:aOb ob 9997 λo=>o=cH S.w0.heap.size m)
  (hid:id≠9997) (hne:xs≠ []) (hxs:∀x∈xs,x.length=s)
  (hk:∀R lo hi e,T e->m<=lo->lo<=hi->cJ lo hi (bS R 0 (d1++(xs.flatten++d3))) (d1++(xs.flatten++d3))->wq ⟨tm,ob⟩ id (.row e s (dx R d1.length xs)) λst=>gH 9997 (cH S.w0.heap.size hi) st.ob λob=>K (.agg ((bS R 0 d1).map .d++ .own id::(bS R (d1.length+xs.flatten.length) d3).map .d)) ⟨st.tm,ob⟩):aG E S f args ⟨tm,ob⟩ K:=by
 refine⟨hc.enter,λZ ρ a w us hs hl hr=>?_⟩;obtain⟨ps',h1,h2,rfl⟩:=fX hs.ws hl hr hps;obtain⟨o,ho,rfl⟩:=co hm;refine(hc.run (gG Z ρ ob) w us (gG.lt hs.ws) ?_ h1 h2).mono ?_
 ·obtain⟨w1,g1,g2,g3⟩:=hs.ws.g;exact⟨w1,g1,g2,λb hb=> .inl (g3 b hb)⟩
 ·rintro en w' ⟨v,rfl,hb,⟨us',rfl,lF,Q,q,eQ,rQ⟩,hTy⟩;have hlen:us'.length=d1.length+(d3.length+1):=by rw[lF];simp
  have hjl:d1.length<us'.length:=ac;have ht:=rQ d1.length (.sl xs) us'[d1.length] aj (List.getElem?_eq_getElem hjl);generalize hv:us'[d1.length]=v at ht;have hv1:v.oneCell'=true:=ht.one;obtain⟨e,ur,g,Qx,h0,hul,hus,hown,hg,hPg,hng,hQx,eQx,rQx⟩:=Fs hne hxs ht;have hTe:T e:=by
   rcases hown.2 with⟨h9,_⟩|⟨g9,cap9,cur9,hv9,_,hg9,_⟩
   ·rw[h9]at hg;cases hg
   ·exact hTy us' v g9 cur9 e (0,0) rfl (by rw[List.getElem?_eq_getElem hjl,hv]) (by rw[hv9];rfl) hg9
  have hlx:ur.flatten.length=xs.flatten.length:=by rw[eh hus,eh hxs,hul]
  let n1:=d1.length
  let nx:=xs.flatten.length
  let QL:Nat->Nat->Prop:=λi b=>if i<n1 then Q i b else if i<n1+nx then Qx (i-n1) b else Q (i-nx+1) b
  have cell1:∀i,i<n1->(d1++ .sl xs::d3)[i]? =d1[i]? :=λi hi=>getElem?_append_left hi;have cell3:∀i,(d1++ .sl xs::d3)[n1+1+i]? =d3[i]? :=λi=>by
   rw[getElem?_append_right (by show d1.length<=n1+1+i;omega),show n1+1+i-d1.length=i+1 by show n1+1+i-n1=_;omega,List.getElem?_cons_succ]
  obtain⟨R,lo,hi,m1,m2,hF,hcell,hsim⟩:=hs.freshOwn (id:=id) hb ho hid hg (q _ _ hPg).1 (QL:=QL) (D:=d1++(xs.flatten++d3)) (uL:=us'.take n1++(ur.flatten++us'.drop (n1+1))) (λi b hb=>by
    simp only[QL]at hb;split at hb
    ·rename_i hi;exact⟨(q i b hb).1,(q i b hb).2,λe=>by subst e;have:=eQ _ _ _ hb hPg;omega⟩
    ·split at hb
     ·have:=hQx _ b hb;exact⟨(q _ b this).1,(q _ b this).2,λe=>by subst e;exact hng _ hb⟩
     ·rename_i hi _ hi2;refine⟨(q _ b hb).1,(q _ b hb).2,λe=>?_⟩;subst e;have:=eQ _ _ _ hb hPg;simp only[nx,n1]at*
      omega) (λi j b hb hb'=>by
    simp only[QL]at hb hb';split at hb
    ·split at hb'
     ·exact eQ _ _ b hb hb'
     ·split at hb'
      ·have:=eQ _ _ b hb (hQx _ b hb');omega
      ·have:=eQ _ _ b hb hb';omega
    ·split at hb
     ·split at hb'
      ·have:=eQ _ _ b hb' (hQx _ b hb);omega
      ·split at hb'
       ·have:=eQx _ _ b hb hb';omega
       ·have:=eQ _ _ b hb' (hQx _ b hb);omega
     ·split at hb'
      ·have:=eQ _ _ b hb hb';omega
      ·split at hb'
       ·have:=eQ _ _ b hb (hQx _ b hb');omega
       ·have:=eQ _ _ b hb hb';omega) (by simp only[List.length_append,List.length_take,List.length_drop,hlx,hlen,n1];omega) λi a u ha hu=>by
    have hl1:(us'.take n1).length=n1:=by rw[List.length_take];simp only[n1];omega
    by_cases hi:i<n1
    ·simp only[QL,if_pos hi];rw[getElem?_append_left hi]at ha;rw[getElem?_append_left ac,List.getElem?_take,if_pos hi]at hu;exact rQ i a u (by rw[cell1 i hi];exact ha) hu
    ·rw[getElem?_append_right (by show n1<=i;omega),show i-d1.length=i-n1 from rfl]at ha;rw[getElem?_append_right ac,hl1]at hu;by_cases hi2:i<n1+nx
     ·simp only[QL,if_neg hi,if_pos hi2];rw[getElem?_append_left (by show i-n1<nx;omega)]at ha;rw[getElem?_append_left (by rw[hlx];show i-n1<nx;omega)]at hu;exact rQx _ a u ha hu
     ·simp only[QL,if_neg hi,if_neg hi2];rw[getElem?_append_right (by show nx<=i-n1;omega),show i-n1-xs.flatten.length=i-n1-nx from rfl]at ha;rw[getElem?_append_right (by rw[hlx];show nx<=i-n1;omega),hlx,List.getElem?_drop,show n1+1+(i-n1-xs.flatten.length)=i-nx+1 by show n1+1+(i-n1-nx)=_;omega]at hu;refine rQ _ a u ?_ hu;rw[show i-nx+1=n1+1+(i-n1-nx)by omega,cell3];exact ha
  have e1:bS R 0 (d1++(xs.flatten++d3))=bS R 0 d1++(bS R n1 xs.flatten++bS R (n1+nx) d3):=by rw[nk,nk,Nat.zero_add]
  rw[e1]at hcell;have ho1:(bS R 0 d1).length=n1:=dq R _ _;have ho2:(bS R n1 xs.flatten).length=nx:=dq R _ _;have hl1:(us'.take n1).length=n1:=by rw[List.length_take];simp only[n1];omega
  have hrow:=hsim e s (dx R n1 xs) ur h0 (by rw[eY,hul]) (lN R hxs) hus (by rw[eY];exact hown) (CQ h0 hul hxs hus λi c u hc hu=>by
   have hic:i<nx:=by rw[<-ho2];exact(List.getElem?_eq_some_iff.1 hc).1
   refine hcell (n1+i) c u ?_ ?_
   ·rw[getElem?_append_right ac,ho1,show n1+i-n1=i by omega,getElem?_append_left ac];exact hc
   ·rw[getElem?_append_right ac,hl1,show n1+i-n1=i by omega,getElem?_append_left (by rw[hlx];exact hic)];exact hu)
  have hval:bX (Am Z w.heap.size w'.heap.size g) w' (λi=>if i=id then v else ρ i) (.agg ((bS R 0 d1).map .d++ .own id::(bS R (d1.length+xs.flatten.length) d3).map .d)) (.agg us'.toArray):=by
   refine .agg _ us' (by simp[dq,hlen]) λi c u hc hu=>?_;by_cases hi:i<n1
   ·rw[getElem?_append_left (by simpa[dq]using hi),getElem?_map]at hc;obtain⟨d,hd,rfl⟩:=Option.map_eq_some_iff.1 hc;refine hcell i d u ?_ ?_
    ·rw[getElem?_append_left ac];exact hd
    ·rw[getElem?_append_left ac,List.getElem?_take,if_pos hi];exact hu
   ·rw[getElem?_append_right (by simp only[List.length_map,ho1];omega),List.length_map,ho1]at hc;by_cases hi2:i=n1
    ·subst hi2;rw[Nat.sub_self]at hc;simp at hc;subst hc;have:u=v:=by
      have h5:=List.getElem?_eq_getElem hjl;rw[show us'[n1]? =us'[d1.length]? from rfl,h5,hv]at hu;injection hu with hu
      exact hu.symm
     subst this;exact⟨by simp,hv1⟩
    ·obtain⟨k,rfl⟩:∃k,i=n1+1+k:=⟨i-(n1+1),ac⟩;rw[show n1+1+k-n1=k+1 by omega,List.getElem?_cons_succ,getElem?_map]at hc;obtain⟨d,hd,rfl⟩:=Option.map_eq_some_iff.1 hc;refine hcell (n1+nx+k) d u ?_ ?_
     ·rw[getElem?_append_right ac,ho1,show n1+nx+k-n1=nx+k by omega,getElem?_append_right ac,ho2,show nx+k-nx=k by omega];exact hd
     ·rw[getElem?_append_right ac,hl1,show n1+nx+k-n1=nx+k by omega,getElem?_append_right (by rw[hlx];show nx<=nx+k;omega),hlx,List.getElem?_drop,show n1+1+(nx+k-xs.flatten.length)=n1+1+k by show n1+1+(nx+k-nx)=_;omega];exact hu
  exact⟨_,_,_,_,_,rfl,hrow,hval,dl (K:=λob=>K _ ⟨_,ob⟩) (io (hk R lo hi e hTe m1 m2 hF))⟩
theorem Z1{f:FuncId}{args:List AV}{tm:List AV}{ob:List (Nat×AO)}{K:AV->ASt->Prop}{ps:List AP1}{m:Nat}(id s:Nat)(xs ys:List (List AD))(hc:ce E f ps (.agg [.sl xs,.sl ys]))(hps:aRs ob args (· =ps))(hm:aOb ob 9997 λo=>o=cH S.w0.heap.size m)
  (hid:id≠9997) (hne:xs≠ []) (hxs:∀x∈xs,x.length=s)
  (hk:∀R lo hi e,m<=lo->lo<=hi->cJ lo hi (bS R 0 (xs.flatten++ys.flatten)) (xs.flatten++ys.flatten)->wq ⟨tm,ob⟩ id (.row e s (dx R 0 xs)) λst=>gH 9997 (cH S.w0.heap.size hi) st.ob λob=>K (.agg [.own id,.d (.sl (dx R xs.flatten.length ys))]) ⟨st.tm,ob⟩):aG E S f args ⟨tm,ob⟩ K:=by
 refine⟨hc.enter,λZ ρ a w us hs hl hr=>?_⟩;obtain⟨ps',h1,h2,rfl⟩:=fX hs.ws hl hr hps;obtain⟨o,ho,rfl⟩:=co hm;refine(hc.run (gG Z ρ ob) w us (gG.lt hs.ws) ?_ h1 h2).mono ?_
 ·obtain⟨w1,g1,g2,g3⟩:=hs.ws.g;exact⟨w1,g1,g2,λb hb=> .inl (g3 b hb)⟩
 ·rintro en w' ⟨v,rfl,hb,us',rfl,lF,Q,q,eQ,rQ⟩;match us',lF with
  |[v,y],lF=>
   have ht:=rQ 0 (.sl xs) v rfl rfl;have hy:=rQ 1 (.sl ys) y rfl rfl;have hv1:v.oneCell'=true:=ht.one;obtain⟨e,ur,g,Qx,h0,hul,hus,hown,hg,hPg,hng,hQx,eQx,rQx⟩:=Fs hne hxs ht;have hlx:ur.flatten.length=xs.flatten.length:=by rw[eh hus,eh hxs,hul]
   obtain⟨uy,Qy,hly,hQy,eQy,rQy,hyD⟩:∃(uy:List (List Value)) (Qy:Nat->Nat->Prop),uy.flatten.length=ys.flatten.length/\(∀i b,Qy i b->Q 1 b)/\(∀i j b,Qy i b->Qy j b->i=j)/\(∀(i:Nat) a u,ys.flatten[i]? =some a->uy.flatten[i]? =some u->bW w' (Qy i) a u)/\
     ∀(Z':Nat->Prop) R k,(∀b,Q 1 b->Z' b)->(∀(i:Nat) c u,(bS R k ys.flatten)[i]? =some c->uy.flatten[i]? =some u->bR Z' w' c u)->bR Z' w' (.sl (dx R k ys)) y:=by
    cases hy with
    |emp _ A cap hm=>exact⟨[],λ_ _=>False,rfl,λ_ _ h=>h.elim,λ_ _ _ h=>h.elim,λi a u ha=>by simp at ha,λZ' R k _ _=> .sl [] A cap 1 [] (Nat.zero_le _) hm rfl aj aj (.inl rfl) aj⟩
    |sl _ _ e2 s2 uy v2 Qy hs2 hl2 hx2 hu2 hown2 hbk2 hQ2 hd2 h2=>
     refine⟨uy,Qy,by rw[eh hu2,eh hx2,hl2],hQ2,hd2,h2,λZ' R k hz hc=>?_⟩;rcases hown2.2 with⟨hv,hn⟩|⟨g2,cap,cur,hv,_,hg2,h3,h4,h5,h6⟩
     ·have:ys=[]:=List.eq_nil_of_length_eq_zero hn;subst this hv;exact .sl [] none 0 0 [] (Nat.le_refl _) (Nat.zero_le _) rfl aj aj (.inl rfl) aj
     ·subst hv;have hol:=eY R ys k;have:=bR.sl (Z:=Z') (w:=w') (dx R k ys) (some ⟨g2,0,none⟩) cap s2 uy (by rw[hol];exact h3) h4 (by rw[hol,hl2]) (lN R hx2) hu2 (.inr ⟨g2,0,rfl,hz g2 (hbk2 g2 rfl).1,λi u hu=>by rw[Nat.zero_add];exact lO hown2 rfl hu⟩) (CQ hs2 hl2 hx2 hu2 hc);rw[hol]at this;exact this
   let nx:=xs.flatten.length
   let QL:Nat->Nat->Prop:=λi b=>if i<nx then Qx i b else Qy (i-nx) b
   obtain⟨R,lo,hi,m1,m2,hF,hcell,hsim⟩:=hs.freshOwn (id:=id) hb ho hid hg (q _ _ hPg).1 (QL:=QL) (D:=xs.flatten++ys.flatten) (uL:=ur.flatten++uy.flatten) (λi b hb=>by
     simp only[QL]at hb;split at hb
     ·have:=hQx _ b hb;exact⟨(q _ b this).1,(q _ b this).2,λe=>by subst e;exact hng _ hb⟩
     ·have:=hQy _ b hb;exact⟨(q _ b this).1,(q _ b this).2,λe=>by subst e;have:=eQ _ _ _ this hPg;omega⟩) (λi j b hb hb'=>by
     simp only[QL]at hb hb';split at hb
     ·split at hb'
      ·exact eQx _ _ b hb hb'
      ·have:=eQ _ _ b (hQx _ b hb) (hQy _ b hb');omega
     ·split at hb'
      ·have:=eQ _ _ b (hQx _ b hb') (hQy _ b hb);omega
      ·have:=eQy _ _ b hb hb';omega) (by simp[hlx,hly]) λi a u ha hu=>by
     by_cases hi:i<nx
     ·simp only[QL,if_pos hi];rw[getElem?_append_left hi]at ha;rw[getElem?_append_left (by rw[hlx];exact hi)]at hu;exact rQx i a u ha hu
     ·simp only[QL,if_neg hi];rw[getElem?_append_right (by show nx<=i;omega)]at ha;rw[getElem?_append_right (by rw[hlx];show nx<=i;omega),hlx]at hu;exact rQy _ a u ha hu
   have ho1:(bS R 0 xs.flatten).length=nx:=dq R _ _;have e1:bS R 0 (xs.flatten++ys.flatten)=bS R 0 xs.flatten++bS R nx ys.flatten:=by rw[nk,Nat.zero_add]
   rw[e1]at hcell;have hrow:=hsim e s (dx R 0 xs) ur h0 (by rw[eY,hul]) (lN R hxs) hus (by rw[eY];exact hown) (CQ h0 hul hxs hus λi c u hc hu=>by
    have hic:i<nx:=by rw[<-ho1];exact(List.getElem?_eq_some_iff.1 hc).1
    refine hcell i c u ?_ ?_
    ·rw[getElem?_append_left ac];exact hc
    ·rw[getElem?_append_left (by rw[hlx];exact hic)];exact hu)
   have hyR:=hyD (Am Z w.heap.size w'.heap.size g) R nx (λb hb=> .inr ⟨(q 1 b hb).1,(q 1 b hb).2,λe=>by subst e;have:=eQ _ _ _ hb hPg;omega⟩) λi c u hc hu=>by
    refine hcell (nx+i) c u ?_ ?_
    ·rw[getElem?_append_right ac,ho1,show nx+i-nx=i by omega];exact hc
    ·rw[getElem?_append_right (by rw[hlx];show nx<=nx+i;omega),hlx,show nx+i-xs.flatten.length=i by show nx+i-nx=i;omega];exact hu
   have hval:bX (Am Z w.heap.size w'.heap.size g) w' (λi=>if i=id then v else ρ i) (.agg [.own id,.d (.sl (dx R xs.flatten.length ys))]) (.agg [v,y].toArray):=by
    refine .agg _ [v,y] rfl λi c u hc hu=>?_;match i,hc,hu with
    |0,hc,hu=>simp at hc hu;subst hc hu;exact⟨by simp,hv1⟩
    |1,hc,hu=>
     injection hc with hc
     injection hu with hu
     subst hc hu;exact hyR
    |i+2,hc,_=>simp at hc
   exact⟨_,_,_,_,_,rfl,hrow,hval,dl (K:=λob=>K _ ⟨_,ob⟩) (io (hk R lo hi e m1 m2 hF))⟩
  |[],lF=>simp at lF
  |[_],lF=>simp at lF
  |_::_::_::_,lF=>simp at lF
end
end
theorem aG.freeze{E:bB}{S:bV}{f:FuncId}{args:List AV}{tm:List AV}{ob:List (Nat×AO)}{K:AV->ASt->Prop}(id:Nat)(e:TypeId)(s:Nat)(xs:List (List AD))(ho:aOb ob id λo=>o= .row e s xs)
  (h:Ay id xs tm λtm=>Ay id xs args λargs=>iM id xs ob λob=>aG E S f args ⟨tm,ob⟩ K):aG E S f args ⟨tm,ob⟩ K:=by
 obtain⟨o,hob,rfl⟩:=co ho;have h1:=oJ (K:=λtm=>Ay id xs args λargs=>iM id xs ob λob=>aG E S f args ⟨tm,ob⟩ K) h;have h2:=oJ (K:=λargs=>iM id xs ob λob=>aG E S f args ⟨_,ob⟩ K) h1;have h3:=fR (K:=λob=>aG E S f _ ⟨_,ob⟩ K) h2;refine⟨h3.enter,λZ ρ a w us hs hl hr=>?_⟩;have hrel:cQ Z w ρ id (.row e s xs):=hs.ws.obj id _ hob;refine h3.run (Dz Z ρ id) ρ a w us ⟨hs.ws.freeze hob,by simp[hs.len],λi x v hx hv=>?_,hs.df⟩ (by simp[hl]) λi x u hx hu=>?_
 ·simp only[List.getElem?_map]at hx;obtain⟨x0,h0,rfl⟩:=Option.map_eq_some_iff.1 hx;exact wR hrel (hs.tm i x0 v h0 hv)
 ·simp only[List.getElem?_map]at hx;obtain⟨x0,h0,rfl⟩:=Option.map_eq_some_iff.1 hx;exact wR hrel (hr i x0 u h0 hu)
section
variable {Z Z':Nat->Prop}{v:Value}{w w':World}
def AD.flat:AD->Bool
 | .pv _=>true
 | .sl []=>true
 |_=>false
def AP1.flat:AP1->Bool
 | .one d=>d.flat
 | .agg ds=>ds.all AD.flat
def AP.flat:AP->Bool
 | .val p=>p.flat
 | .tup ps=>ps.all AP1.flat
theorem bR.flat{d:AD}(hs:d.flat=true)(h:bR Z w d v):bR Z' w' d v:=by
 cases d with
 |pv u=>cases h with|pv _ h1=>exact .pv _ h1
 |x R=>cases hs
 |sl xs=>
  cases xs with
  |cons a b=>cases hs
  |nil=>
   cases h with
   |sl _ A cap s us hc hm hl hx hu hr h=>
    have e:us=[]:=List.length_eq_zero_iff.1 hl;subst e;exact .sl [] A cap s [] hc hm rfl hx hu (.inl rfl) λi j x u a b h1=>by simp at h1
theorem dE.flat{p:AP1}(hs:p.flat=true)(h:dE Z w p v):dE Z' w' p v:=by
 cases p with
 |one d=>exact bR.flat hs h
 |agg ds=>
  obtain⟨us,e,hl,hr⟩:=h;exact⟨us,e,hl,λi d u h1 h2=>bR.flat (List.all_eq_true.1 hs d (List.mem_of_getElem? h1)) (hr i d u h1 h2)⟩
theorem xF.flat{p:AP}(hs:p.flat=true)(h:xF Z w p v):xF Z' w' p v:=by
 cases p with
 |val p=>exact dE.flat hs h
 |tup ps=>
  obtain⟨us,rfl,hl,hr⟩:=h;refine⟨us,rfl,hl,λi p u h1 h2=>?_⟩;exact dE.flat (List.all_eq_true.1 hs p (List.mem_of_getElem? h1)) (hr i p u h1 h2)
theorem aad{E:bB}{S:bV}{st:ASt}{f:FuncId}{args:List AV}{K:AV->ASt->Prop}{ps:List AP1}{res:AP}(hc:aM E f ps res)(hps:aRs st.ob args (· =ps))(hsc:res.flat=true)(hk:K res.v st):aG E S f args st K:=by
 refine⟨hc.enter,λZ ρ a w us hs hl hr=>?_⟩;obtain⟨ps',h1,h2,rfl⟩:=fX hs.ws hl hr hps;refine(hc.run (gG Z ρ st.ob) w us (gG.lt hs.ws) ?_ h1 h2).mono ?_
 ·obtain⟨w1,g1,g2,g3⟩:=hs.ws.g;exact⟨w1,g1,g2,λb hb=> .inl (g3 b hb)⟩
 ·rintro e w' ⟨v,Z',rfl,hb,hz,hz2,hv⟩;exact⟨v,res.v,st,Z,ρ,rfl,hs.grow (dL hb) (λ_ h=>h) (λ_ h=> .inl h),(hv.flat hsc).v,hk⟩
end
section
def Pz(ob:List (Nat×AO))(j:Nat)(T:TypeId):List AV->Prop
 |[.agg cs]=>ov cs j λc=>match c with
  | .own id=>aOb ob id λo=>match o with
   | .row e _ _=>e=T
   |_=>False
  |_=>False
 |_=>False
def UF(E:bB)(rs:List ResultVar)(n:Nat)(ds:List AD)(j:Nat)(T:TypeId):Exit->ASt->Prop
 | .ret,st=>zJ E st rs λxs=>And (Pz st.ob j T xs) (uR st.ob n xs [.agg ds])
 | .normal,st=>zJ E st rs λxs=>And (Pz st.ob j T xs) (uR st.ob n xs [.agg ds])
 |_,_=>False
section
variable {E:bB} {S:bV}
theorem EQ(he:E.Ok){f:FuncId}{fn:Func}{c:Code}{n:Nat}{rs:List ResultVar}{args:List AP1}{d1 d3:List AD}{xs:List (List AD)}{T:TypeId}(hf:E.P.funcs[f]? =some fn)(hb:fn.body=some c)
  (enter:∀(us:Array Value) w,(callFunc f us).run E.P w= .ok (.enter f us) w) (hn:fn.ntmps=n) (hrs:fn.results.toList=rs)
  (h:∀S:bV,uS args n λtm=>AWP E S c (UF E rs S.w0.heap.size (d1++ .sl xs::d3) d1.length T) ⟨tm,[(9997,cH S.w0.heap.size S.w0.heap.size)]⟩):Gj E f args d1 xs d3 (· =T):=by
 refine⟨enter,λZ w us hz hg hl hr=>?_⟩;subst hn hrs;obtain⟨hle,hk⟩:=jL (h ⟨w,λ_=>False,Z⟩);refine calls_of_wp hf hb (wp_mono (hk.run _ w ⟨Z,_,Q8 hz hg hl hr hle⟩) λe a' w' h'=>?_);obtain⟨st',⟨Z',ρ',hs'⟩,hk'⟩:=h';have fin:(zJ E st' fn.results.toList λys=>And (Pz st'.ob d1.length T ys) (uR st'.ob w.heap.size ys [.agg (d1++ .sl xs::d3)]))->a'.defers=[]/\∃v,(results fn a'.tmps).run E.P w'= .ok v w'/\∃v0,Ending.returned v= .returned v0/\Below w.heap.size w w'/\zH w.heap.size w'.heap.size w' (.agg (d1++ .sl xs::d3)) v0/\∀(us':List Value) (u:Value) (b:Nat) (cur:Array Value) (t:TypeId) (k:Nat×Nat),v0= .agg us'.toArray->us'[d1.length]? =some u->bQ u=some b->w'.heap[b]? =some (.cells cur t k)->t=T:=by
  intro hr;obtain⟨vs,xs',h1,h2,h3,h4,hty,h5⟩:=rR he hs' hr;obtain⟨us',h6,h7⟩:=Bz (S:=⟨w,λ_=>False,Z⟩) hs'.ws (λb h=>h) h2 h4 h5;have h8:=h6.len.1;match vs,h8,h6,h1,h2,h4 with
  |[v],_,h6,h1,h2,h4=>
   refine⟨hs'.df,v,by rw[oa h1];rfl,v,rfl,⟨hs'.ws.os,hs'.ws.tape,hs'.ws.output,hs'.ws.size,λb hb=>hs'.ws.old b hb (λh=>h)⟩,?_⟩;cases h6 with
   |agg ds ws hl9 h9=>
    cases h9;simp only[gU,List.append_nil]at h7;refine⟨⟨ws,rfl,h7⟩,λus2 u b cur t k ev hu hbk hheap=>?_⟩;match xs',hty,h2,h4 with
    |[.agg cs],hty,h2,h4=>
     have hv:=h4 0 (.agg cs) _ rfl rfl;cases hv with
     |agg _ _ hl3 hc3=>
      have e2:us2=ws:=by
       injection ev with ev
       have:=congrArg Array.toList ev;simpa using this.symm
      subst e2;obtain⟨c,hc,hty⟩:=fD (show ov cs d1.length _ from hty);have hrel:=hc3 _ c u hc hu;split at hty
      ·rename_i id;obtain⟨o,ho,hty⟩:=co hty;split at hty
       ·rename_i e9 s9 xs9;have hobj:=hs'.ws.obj id _ ho;obtain⟨us4,_,_,_,_,hown,_⟩:=(show cQ Z' w' ρ' id (.row e9 s9 xs9)from hobj);have hu2:ρ' id=u:=hrel.1.symm;rw[hu2]at hown;rcases hown.2 with⟨h9,_⟩|⟨g9,cap9,cur9,hv9,_,hg9,_⟩
        ·rw[h9]at hbk;cases hbk
        ·have:g9=b:=by rw[hv9]at hbk;simpa[bQ]using hbk
         subst this;rw[hg9]at hheap;injection hheap with hheap
         injection hheap with _ h10 _
         rw[<-h10];exact hty
       ·exact hty.elim
      ·exact hty.elim
 cases e with
 |normal=>exact fin hk'
 |ret=>exact fin hk'
 |_=>exact hk'.elim
end
end
def AP1.aa:AP1->AA
 | .one d=> .one (.d d)
 | .agg ds=> .agg (ds.map .d)
theorem aax(p:AP1):p.aa.v=p.v:=by cases p<;>rfl
def Up(ob:List (Nat×AO))(r:AR)(K:AP->Prop):Prop:=
 match r with
 | .val a=>yz ob a.v λp=>K (.val p)
 | .tup l=>aRs ob (l.map AA.v) λps=>K (.tup ps)
theorem d5.data{E:bB}{f:FuncId}{args:List AA}{post:List (Nat×AO)}{r:AR}{ps:List AP1}{res:AP}(hc:d5 E f args [] post [] r)(ha:args=ps.map AP1.aa)(hres:Up post r (· =res)):aM E f ps res:=by
 subst ha;refine⟨hc.enter,λZ w us hz hg hl hr=>?_⟩;have hw0:WS E.W (mh w Z (λ_=>undef) []) Z w (λ_=>undef) []:=
  ⟨rfl,rfl,rfl,Nat.le_refl _,λ_ _ _=>rfl,hz,λ_ _ _ h=>(by cases h),λ_ _ _ _ _ h=>(by cases h),λ_ _ h=>(by cases h),jI.nil,hg,λ_ h=>h,λ_ h=> .inl h⟩
 refine(hc.run Z w (λ_=>undef) us hw0 (by simpa using hl) λi x u hx hu=>?_).mono ?_
 ·rw[List.getElem?_map]at hx;obtain⟨p,hp,rfl⟩:=Option.map_eq_some_iff.1 hx;rw[aax];exact(hr i p u hp hu).v
 ·rintro e w' ⟨v,Z',ρ',rfl,hw,_,hv⟩;have hO:∀b,¬(mh w Z (λ_=>undef) []).O b:=by
   rintro b ⟨id,o,h,_⟩;cases h
  refine⟨v,gG Z' ρ' post,rfl,⟨hw.os,hw.tape,hw.output,hw.size,λb hb=>hw.old b hb (hO b)⟩,λb hb=> .inl (hw.z0 b hb),λb hb=>?_,?_⟩
  ·have hlt:=gG.lt hw b hb;rcases hb with hb|⟨id,o,ho,hb⟩
   ·rcases hw.znew b hb with h|h|h
    ·exact .inl h
    ·exact .inr ⟨h,hlt⟩
    ·exact(hO b h).elim
   ·rcases(hw.mine id o b ho hb).2 with h|h
    ·exact .inr ⟨h,hlt⟩
    ·exact(hO b h).elim
  ·cases r with
   |val a=>
    obtain⟨p,hp,hk⟩:=tQ (K:=λp=>AP.val p=res) hw hv hres;subst hk;exact hp
   |tup l=>
    cases hv with
    |tup _ us' hl' h'=>
     obtain⟨ps',h1,h2,hk⟩:=fX (E:=E) (S:=mh w Z (λ_=>undef) []) (st:=⟨[],post⟩) (K:=λps=>AP.tup ps=res) hw hl' h' hres;subst hk;exact⟨us',rfl,h1,h2⟩
section
variable {f:FuncId}{α:Type}{E:bB}
structure XY (E:bB) (f:FuncId) (args:List AA) (pre:List (Nat×AO)) {α:Type} (Q:α->Prop) (ids:List Nat) (post:α->List (Nat×AO)) (keep:List Nat) (res:α->AR):Prop where
 enter:∀(us:Array Value) w,(callFunc f us).run E.P w= .ok (.enter f us) w
 run:∀(Z:Nat->Prop) (w:World) (ρ:Nat->Value) (us:List Value),WS E.W (mh w Z ρ pre) Z w ρ pre->us.length=args.length->(∀(i:Nat) x u,args[i]? =some x->us[i]? =some u->bX Z w ρ x.v u)->
  Calls E.P f us.toArray w λe w'=>∃(y:α) (v:Value) (Z':Nat->Prop) (ρ':Nat->Value),Q y/\e= .returned v/\WS E.W (mh w Z ρ pre) Z' w' ρ' (post y)/\(∀id∈keep,ρ' id=ρ id)/\bX Z' w' ρ' (res y).v v
structure Ai (E:bB) (f:FuncId) (args:List AP1) {α:Type} (Q:α->Prop) (res:α->AP):Prop where
 enter:∀(us:Array Value) w,(callFunc f us).run E.P w= .ok (.enter f us) w
 run:∀(Z:Nat->Prop) (w:World) (us:List Value),(∀b,Z b->b<w.heap.size)->GZ E.W Z w->us.length=args.length->(∀(i:Nat) p u,args[i]? =some p->us[i]? =some u->dE Z w p u)->
  Calls E.P f us.toArray w λe w'=>∃(y:α) (v:Value) (Z':Nat->Prop),Q y/\e= .returned v/\Below w.heap.size w w'/\(∀b,Z b->Z' b)/\(∀b,Z' b->Z b\/(w.heap.size<=b/\b<w'.heap.size))/\xF Z' w' (res y) v
def Ww(E:bB)(rs:List ResultVar){α:Type}(Q:α->Prop)(res:α->AP):Exit->ASt->Prop
 | .ret,st=>A8 E st rs λv=>∃y,Q y/\v=res y
 | .normal,st=>A8 E st rs λv=>∃y,Q y/\v=res y
 |_,_=>False
theorem lP(he:E.Ok){fn:Func}{c:Code}{n:Nat}{rs:List ResultVar}{args:List AP1}{Q:α->Prop}{res:α->AP}(hf:E.P.funcs[f]? =some fn)(hb:fn.body=some c)
  (enter:∀(us:Array Value) w,(callFunc f us).run E.P w= .ok (.enter f us) w) (hn:fn.ntmps=n) (hrs:fn.results.toList=rs)
  (h:∀S,uS args n λtm=>AWP E S c (Ww E rs Q res) ⟨tm,[]⟩):Ai E f args Q res:=by
 refine⟨enter,λZ w us hz hg hl hr=>?_⟩;subst hn hrs;obtain⟨hle,hk⟩:=jL (h ⟨w,λ_=>False,Z⟩);have hs:Sim E.W ⟨w,λ_=>False,Z⟩ Z (λ_=>undef) ⟨args.map AP1.v++List.replicate (fn.ntmps-args.length) (.one .und),[]⟩ {tmps:=us.toArray++Array.replicate (fn.ntmps-us.toArray.size) undef,defers:=[]} w:=by
  refine⟨⟨rfl,rfl,rfl,Nat.le_refl _,λ_ _ _=>rfl,hz,λid o b ho _=>(by cases ho),λi j oi oj b hi _ _ _ _=>(by cases hi),λid o ho=>(by cases ho),jI.nil,hg,λb hb=>hb,λb hb=> .inl hb⟩,by simp[hl],λi x v hx hv=>?_,rfl⟩;simp only at hx hv;have hv':(us++List.replicate (fn.ntmps-us.length) undef)[i]? =some v:=by
   have:=hv;rw[<-Array.getElem?_toList]at this;simpa using this
  by_cases hi:i<us.length
  ·rw[List.getElem?_append_left (by simpa[hl]using hi),List.getElem?_map]at hx;obtain⟨p,hp,rfl⟩:=Option.map_eq_some_iff.1 hx;rw[List.getElem?_append_left hi]at hv';exact(hr i p v hp hv').v
  ·rw[List.getElem?_append_right al]at hx;rw[List.getElem?_append_right ac]at hv';have e1:=List.eq_of_mem_replicate (List.mem_of_getElem? hx);have e2:=List.eq_of_mem_replicate (List.mem_of_getElem? hv');subst e1 e2;exact .one _ _ (show dW Z w (λ_=>undef) .und undef from rfl)
 refine calls_of_wp hf hb (wp_mono (hk.run _ w ⟨Z,_,hs⟩) λe a' w' h'=>?_);obtain⟨st',⟨Z',ρ',hs'⟩,hk'⟩:=h';have fin:(A8 E st' fn.results.toList λv=>∃y,Q y/\v=res y)->a'.defers=[]/\∃v,(results fn a'.tmps).run E.P w'= .ok v w'/\∃(y:α) (v0:Value) (Z':Nat->Prop),Q y/\Ending.returned v= .returned v0/\Below w.heap.size w w'/\(∀b,Z b->Z' b)/\(∀b,Z' b->Z b\/(w.heap.size<=b/\b<w'.heap.size))/\xF Z' w' (res y) v0:=by
  intro hr;obtain⟨v,p,h1,h2,y,hQ,h3⟩:=Bc he hs' hr;subst h3;refine⟨hs'.df,v,h1,y,v,gG Z' ρ' st'.ob,hQ,rfl,⟨hs'.ws.os,hs'.ws.tape,hs'.ws.output,hs'.ws.size,λb hb=>hs'.ws.old b hb (λh=>h)⟩,λb hb=> .inl (hs'.ws.z0 b hb),λb hb=>?_,h2⟩;have hlt:=gG.lt hs'.ws b hb;rcases hb with hb|⟨id,o,ho,hb⟩
  ·rcases hs'.ws.znew b hb with h4|h4|h4
   ·exact .inl h4
   ·exact .inr ⟨h4,hlt⟩
   ·exact h4.elim
  ·rcases(hs'.ws.mine id o b ho hb).2 with h4|h4
   ·exact .inr ⟨h4,hlt⟩
   ·exact h4.elim
 cases e with
 |normal=>exact fin hk'
 |ret=>exact fin hk'
 |_=>exact hk'.elim
theorem aal{S:bV}{st:ASt}{args:List AV}{K:AV->ASt->Prop}{ps:List AP1}{Q:α->Prop}{res:α->AP}(hc:Ai E f ps Q res)(hps:aPs args (· =ps))(hk:∀y,Q y->K (res y).v st):aG E S f args st K:=by
 refine⟨hc.enter,λZ ρ a w us hs hl hr=>?_⟩;have hws0:WS E.W S Z w ρ []:=hs.ws.sub X4;obtain⟨ps',h1,h2,rfl⟩:=fX (E:=E) (S:=S) (st:=⟨[],[]⟩) hws0 hl hr (AZ hps);refine(hc.run Z w us hs.ws.zlt hs.ws.g h1 λi p u h3 h4=>?_).mono ?_
 ·have:=h2 i p u h3 h4;have hz:∀b,gG Z ρ [] b->Z b:=by rintro b (hb|⟨id,o,ho,_⟩);exact hb;cases ho
  cases p with
  |one d=>exact bR.mono hz (λ_ _=>rfl) this
  |agg ds=>obtain⟨us,e,hl,hr⟩:=this;exact⟨us,e,hl,λi d u h5 h6=>(hr i d u h5 h6).mono hz λ_ _=>rfl⟩
 ·rintro e w' ⟨y,v,Z',hQ,rfl,hb,hz,hz2,hv⟩;exact⟨v,(res y).v,st,Z',ρ,rfl,hs.grow (dL hb) hz hz2,hv.v,hk y hQ⟩
end
open Go.ChangeShapes Go.WideShapes
theorem xT{x a b:Int}(h:a<=x/\x<=b):aK x a b=true:=by simp only[aK,Bool.and_eq_true,decide_eq_true_eq];exact h
structure vw where
 client:Int
 seq:Int
 op:DOp
def vw.ds(a:vw):List AD:=[dI a.client,dI a.seq]++a.op.ds
structure rM where
 client:Int
 seq:Int
 key:Int
 least:Int
def rM.ds(a:rM):List AD:=[dI a.client,dI a.seq,dI a.key,dI a.least]
structure Uk where
 client:Int
 seq:Int
 index:Int
 has:Int
 value:Int
def Uk.ds(a:Uk):List AD:=[dI a.client,dI a.seq,dI a.index,dI a.has,dI a.value]
structure Ts where
 base:Int
 last:Int
 ents:List DEntry
def Ts.ds(a:Ts):List AD:=[dI a.base,dI a.last,.sl (a.ents.map DEntry.ds)]
def wA(a:vw):Bool:=aK a.client 2 5&&aK a.seq 1 2000&&v7 a.op
def hH(a:DAck):Bool:=aK a.client 2 5&&aK a.seq 1 2000&&aK a.last a.seq 2000&&(if a.last>a.seq then a.index==0 else aK a.index 1 2000)
def nZ(a:rM):Bool:=aK a.client 2 5&&aK a.seq 1 2000&&aK a.key 0 9&&aK a.least 0 2000
end Go.Proofs.YtknefkdcokgpbaaGreat
