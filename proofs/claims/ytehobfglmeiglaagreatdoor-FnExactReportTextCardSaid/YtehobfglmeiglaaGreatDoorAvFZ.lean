/- AvFZ -/
import Derived.Test.YtehobfglmeiglaaGreatDoorAvJ3
set_option linter.unusedVariables false
set_option linter.unusedSimpArgs false
set_option maxRecDepth 100000
namespace Go.Proofs.YtehobfglmeiglaaGreatDoor
open Go.RowKit
def rE(id:Nat)(xs:List (List AD)):AC->AC
 | .own i=>match Nat.beq i id with
  |true=> .d (.sl xs)
  |false=> .own i
 | .ref i k s off=>match Nat.beq i id with
  |true=> .dead
  |false=> .ref i k s off
 |c=>c
def C1(id:Nat)(xs:List (List AD)):AV->AV
 | .one c=> .one (rE id xs c)
 | .agg cs=> .agg (cs.map (rE id xs))
 | .tup _=> .one .dead
def FT(id:Nat)(xs:List (List AD)):AO->AO
 | .cells t cs=> .cells t (cs.map (rE id xs))
 | .frame vs us=> .frame (vs.map (C1 id xs)) us
 |o=>o
def mx(id:Nat)(xs:List (List AD)):List (Nat×AO)->List (Nat×AO)
 |[]=>[]
 |(i,o)::r=>match Nat.beq i id with
  |true=>mx id xs r
  |false=>(i,FT id xs o)::mx id xs r
def xY(id:Nat)(xs:List (List AD))(c:AC)(K:AC->Prop):Prop:=
 match c with
 | .own i=>match Nat.beq i id with
  |true=>K (.d (.sl xs))
  |false=>K (.own i)
 | .ref i k s off=>match Nat.beq i id with
  |true=>K .dead
  |false=>K (.ref i k s off)
 |c=>K c
theorem u6{id:Nat}{xs:List (List AD)}{c:AC}{K:AC->Prop}(h:xY id xs c K):K (rE id xs c):=by
 cases c with
 |own i=>simp only[xY]at h;simp only[rE];split at h<;>simp_all
 |ref i k s off=>simp only[xY]at h;simp only[rE];split at h<;>simp_all
 |_=>exact h
def w5(id:Nat)(xs:List (List AD)):List AC->(List AC->Prop)->Prop
 |[],K=>K []
 |c::r,K=>xY id xs c λc=>w5 id xs r λr=>K (c::r)
theorem oc{id:Nat}{xs:List (List AD)}:∀{l:List AC} {K:List AC->Prop},w5 id xs l K->K (l.map (rE id xs))
 |[],_,h=>h
 |c::r,K,h=>oc (l:=r) (K:=λr'=>K (rE id xs c::r')) (u6 h)
def GK(id:Nat)(xs:List (List AD))(x:AV)(K:AV->Prop):Prop:=
 match x with
 | .one c=>xY id xs c λc=>K (.one c)
 | .agg cs=>w5 id xs cs λcs=>K (.agg cs)
 | .tup _=>K (.one .dead)
theorem Ct{id:Nat}{xs:List (List AD)}{x:AV}{K:AV->Prop}(h:GK id xs x K):K (C1 id xs x):=by
 cases x with
 |one c=>exact u6 (K:=λc=>K (.one c)) h
 |agg cs=>exact oc (K:=λcs=>K (.agg cs)) h
 |tup vs=>exact h
def BI(id:Nat)(xs:List (List AD)):List AV->(List AV->Prop)->Prop
 |[],K=>K []
 |x::r,K=>GK id xs x λx=>BI id xs r λr=>K (x::r)
theorem qa{id:Nat}{xs:List (List AD)}:∀{l:List AV} {K:List AV->Prop},BI id xs l K->K (l.map (C1 id xs))
 |[],_,h=>h
 |x::r,K,h=>qa (l:=r) (K:=λr'=>K (C1 id xs x::r')) (Ct h)
def eo(id:Nat)(xs:List (List AD)):List (Nat×AO)->(List (Nat×AO)->Prop)->Prop
 |[],K=>K []
 |(i,.cells t cs)::r,K=>match Nat.beq i id with
  |true=>eo id xs r K
  |false=>w5 id xs cs λcs=>eo id xs r λr=>K ((i,.cells t cs)::r)
 |(i,.row e s ys)::r,K=>match Nat.beq i id with
  |true=>eo id xs r K
  |false=>eo id xs r λr=>K ((i,.row e s ys)::r)
 |(i,.frame vs us)::r,K=>match Nat.beq i id with
  |true=>eo id xs r K
  |false=>BI id xs vs λvs=>eo id xs r λr=>K ((i,.frame vs us)::r)
 |(i,.any Q)::r,K=>match Nat.beq i id with
  |true=>eo id xs r K
  |false=>eo id xs r λr=>K ((i,.any Q)::r)
 |(i,.many P Q)::r,K=>match Nat.beq i id with
  |true=>eo id xs r K
  |false=>eo id xs r λr=>K ((i,.many P Q)::r)
theorem cF{id:Nat}{xs:List (List AD)}:∀{l:List (Nat×AO)} {K:List (Nat×AO)->Prop},eo id xs l K->K (mx id xs l)
 |[],_,h=>h
 |(i,.cells t cs)::r,K,h=>by
  simp only[eo]at h
  simp only[mx]
  split at h
  ·exact cF h
  ·exact cF (l:=r) (K:=λr'=>K ((i,.cells t (cs.map (rE id xs)))::r')) (oc (K:=λcs=>eo id xs r λr=>K ((i,.cells t cs)::r)) h)
 |(i,.row e s ys)::r,K,h=>by
  simp only[eo]at h
  simp only[mx]
  split at h
  ·exact cF h
  ·exact cF (l:=r) (K:=λr'=>K ((i,.row e s ys)::r')) h
 |(i,.frame vs us)::r,K,h=>by
  simp only[eo]at h
  simp only[mx]
  split at h
  ·exact cF h
  ·exact cF (l:=r) (K:=λr'=>K ((i,.frame (vs.map (C1 id xs)) us)::r')) (qa (K:=λvs=>eo id xs r λr=>K ((i,.frame vs us)::r)) h)
 |(i,.any Q)::r,K,h=>by
  simp only[eo]at h
  simp only[mx]
  split at h
  ·exact cF h
  ·exact cF (l:=r) (K:=λr'=>K ((i,.any Q)::r')) h
 |(i,.many P Q)::r,K,h=>by
  simp only[eo]at h
  simp only[mx]
  split at h
  ·exact cF h
  ·exact cF (l:=r) (K:=λr'=>K ((i,.many P Q)::r')) h
theorem de{id:Nat}{xs:List (List AD)}:∀{ob:List (Nat×AO)} {j:Nat} {o:AO},aJ (mx id xs ob) j=some o->j≠id/\∃o0,aJ ob j=some o0/\o=FT id xs o0
 |[],_,_,h=>by cases h
 |(i,o1)::r,j,o,h=>by
  simp only[mx]at h
  cases hb:Nat.beq i id with
  |true=>
   rw[hb]at h
   obtain⟨h1,o0,h2,h3⟩:=de h
   refine⟨h1,o0,?_,h3⟩
   have:i≠j:=λe=>h1 (e▸Nat.eq_of_beq_eq_true hb)
   simp only[aJ]
   rw[if_neg this]
   exact h2
  |false=>
   rw[hb]at h
   simp only[aJ]at h⊢
   split at h
   ·rename_i e
    injection h with h
    subst e
    exact⟨Nat.ne_of_beq_eq_false hb,o1,by rw[if_pos rfl],h.symm⟩
   ·rename_i e
    obtain⟨h1,o0,h2,h3⟩:=de h
    exact⟨h1,o0,by rw[if_neg e];exact h2,h3⟩
section
variable {T:World->Prop} {S:ba} {Z:Nat->Prop} {w:World} {ρ:Nat->Value} {ob:List (Nat×AO)}
def wV(Z:Nat->Prop)(ρ:Nat->Value)(id:Nat)(b:Nat):Prop:=Z b\/aZ (ρ id)=some b
theorem E8{e:TypeId}{s id:Nat}{xs:List (List AD)}(h:bp Z w ρ id (.row e s xs)):bl (wV Z ρ id) w (.sl xs) (ρ id):=by
 obtain⟨us,h0,hl,hxs,hus,hown,hd⟩:=h
 have up:∀{d:AD} {v:Value},bl Z w d v->bl (wV Z ρ id) w d v:=λhd=>hd.mono (λb hb=> .inl hb) λ_ _=>rfl
 rcases hown.2 with⟨hv,hn⟩|⟨g,cap,cur,hv,_,hg,h1,h2,h3,h4⟩
 ·have:xs=[]:=List.eq_nil_of_length_eq_zero hn
  subst this
  rw[hv]
  exact .sl [] none 0 0 [] (Nat.le_refl _) (Nat.zero_le _) rfl Mr Mr (.inl rfl) Mr
 ·rw[hv]
  refine .sl xs _ cap s us h1 h2 hl hxs hus (.inr ⟨g,0,rfl,.inr (by rw[hv];rfl),λi u hu=>?_⟩) λi j x u a b e1 e2 e3 e4=>up (hd i j x u a b e1 e2 e3 e4)
  rw[Nat.zero_add]
  exact je hown (by rw[hv];rfl) hu
theorem sY{e:TypeId}{s id:Nat}{xs:List (List AD)}(hr:bp Z w ρ id (.row e s xs)){c:AC}{v:Value}(h:cy Z w ρ c v):cy (wV Z ρ id) w ρ (rE id xs c) v:=by
 have up:∀b,Z b->wV Z ρ id b:=λb hb=> .inl hb
 cases c with
 |own i=>
  simp only[rE]
  split
  ·rename_i hb
   have hi:=Nat.eq_of_beq_eq_true hb
   subst hi
   have hv:v=ρ i:=h.1
   subst hv
   exact E8 hr
  ·exact h
 |ref i k s off=>
  simp only[rE]
  split
  ·trivial
  ·exact h
 |d x=>exact cy.mono up (λ_ _=>rfl) (c:= .d x) h
 |ptr cs=>exact cy.mono up (λ_ _=>rfl) (c:= .ptr cs) h
 |dead=>trivial
 |und=>exact h
 |nil=>exact h
theorem yM{e:TypeId}{s id:Nat}{xs:List (List AD)}(hr:bp Z w ρ id (.row e s xs)){x:AV}{v:Value}(h:aT Z w ρ x v):aT (wV Z ρ id) w ρ (C1 id xs x) v:=by
 cases h with
 |one c v h=>exact .one _ _ (sY hr h)
 |agg cs us hl h=>
  refine .agg _ us (by simp[hl]) λi c u hc hu=>?_
  rw[List.getElem?_map]at hc
  obtain⟨c0,h0,rfl⟩:=Option.map_eq_some_iff.1 hc
  exact sY hr (h i c0 u h0 hu)
 |tup vs us hl h=>exact .one _ _ trivial
theorem Ex{e:TypeId}{s id j:Nat}{xs:List (List AD)}(hr:bp Z w ρ id (.row e s xs)){o:AO}(h:en Z w ρ j o):en (wV Z ρ id) w ρ j (FT id xs o):=by
 have up:∀b,Z b->wV Z ρ id b:=λb hb=> .inl hb
 cases o with
 |cells t cs=>
  obtain⟨b,us,hp,hg,hl,hc⟩:=(show bp Z w ρ j (.cells t cs)from h)
  show bp _ w ρ j (.cells t _)
  refine⟨b,us,hp,hg,by simp[hl],λi c u h1 h2=>?_⟩
  rw[List.getElem?_map]at h1
  obtain⟨c0,h0,rfl⟩:=Option.map_eq_some_iff.1 h1
  exact sY hr (hc i c0 u h0 h2)
 |frame vs us=>
  obtain⟨h1,hl,h⟩:=(show bp Z w ρ j (.frame vs us)from h)
  show bp _ w ρ j (.frame _ us)
  refine⟨h1,by simp[hl],λi x u hx hu=>?_⟩
  rw[List.getElem?_map]at hx
  obtain⟨x0,h0,rfl⟩:=Option.map_eq_some_iff.1 hx
  exact yM hr (h i x0 u h0 hu)
 |row e2 s2 ys=>exact en.mono up (λ_ _=>rfl) (λ_ _=>rfl) (o:= .row e2 s2 ys) h
 |any Q=>exact en.mono up (λ_ _=>rfl) (λ_ _=>rfl) (o:= .any Q) h
 |many P Q=>exact h
theorem qm{id:Nat}{xs:List (List AD)}{o:AO}{P:Nat->Prop}{Q:World->Prop}(h:AO.many P Q=FT id xs o):o= .many P Q:=by
 cases o<;>first|exact h.symm|cases h
theorem WS.freeze(h:WS T S Z w ρ ob){id s:Nat}{e:TypeId}{xs:List (List AD)}(ho:aJ ob id=some (.row e s xs)):WS T S (wV Z ρ id) w ρ (mx id xs ob):=by
 have hr:bp Z w ρ id (.row e s xs):=h.obj id _ ho
 refine⟨h.os,h.tape,h.output,h.size,h.old,?_,λj o b hj hb=>?_,λi j oi oj b hi hj hij hbi hbj=>?_,λj o hj=>?_,⟨λj P Q hj=>?_,λi j P Q P' Q' hi hj hij=>?_⟩,?_,λb hb=> .inl (h.z0 b hb),?_⟩
 ·rintro b (hb|hb)
  ·exact h.zlt b hb
  ·exact h.lt ho hb
 ·obtain⟨hne,o0,h0,_⟩:=de hj
  obtain⟨h1,h2⟩:=h.mine j o0 b h0 hb
  refine⟨?_,h2⟩
  rintro(hz|hz)
  ·exact h1 hz
  ·exact h.sep j id o0 _ b h0 ho hne hb hz
 ·obtain⟨_,o0,h0,_⟩:=de hi
  obtain⟨_,o1,h1,_⟩:=de hj
  exact h.sep i j o0 o1 b h0 h1 hij hbi hbj
 ·obtain⟨_,o0,h0,rfl⟩:=de hj
  exact Ex hr (h.obj j o0 h0)
 ·obtain⟨_,o0,h0,e0⟩:=de hj
  have:=qm e0
  subst this
  obtain⟨h1,h2⟩:=h.many.ok j P Q h0
  refine⟨λb hb=>⟨(h1 b hb).1,?_,(h1 b hb).2.2.1,λi o hi=>?_⟩,h2⟩
  ·rintro(hz|hz)
   ·exact(h1 b hb).2.1 hz
   ·exact(h1 b hb).2.2.2 id _ ho hz
  ·obtain⟨_,o1,h3,_⟩:=de hi
   exact(h1 b hb).2.2.2 i o1 h3
 ·obtain⟨_,o0,h0,e0⟩:=de hi
  obtain⟨_,o1,h1,e1⟩:=de hj
  have:=qm e0
  subst this
  have:=qm e1
  subst this
  exact h.many.sep i j P Q P' Q' h0 h1 hij
 ·obtain⟨w1,g1,g2,g3⟩:=h.g
  exact⟨w1,g1,g2,λb hb=> .inl (g3 b hb)⟩
 ·rintro b (hb|hb)
  ·exact h.znew b hb
  ·exact .inr (h.mine id _ b ho hb).2
end
theorem AWP.freeze{E:aO}{S:ba}{c:Code}{K:Exit->ASt->Prop}{tm:List AV}{ob:List (Nat×AO)}(id:Nat)(e:TypeId)(s:Nat)(xs:List (List AD))(ho:aOb ob id λo=>o= .row e s xs)
  (h:BI id xs tm λtm=>eo id xs ob λob=>AWP E S c K ⟨tm,ob⟩):AWP E S c K ⟨tm,ob⟩:=by
 obtain⟨o,hob,rfl⟩:=bY ho
 have h:=cF (K:=λob=>AWP E S c K ⟨_,ob⟩) (qa (K:=λtm=>eo id xs ob λob=>AWP E S c K ⟨tm,ob⟩) h)
 refine⟨λa w hs=>h.run a w ?_⟩
 obtain⟨Z,ρ,hs⟩:=hs
 have hr:bp Z w ρ id (.row e s xs):=hs.ws.obj id _ hob
 refine⟨wV Z ρ id,ρ,hs.ws.freeze hob,by simp[hs.len],λi x v hx hv=>?_,hs.df⟩
 simp only[List.getElem?_map]at hx
 obtain⟨x0,h0,rfl⟩:=Option.map_eq_some_iff.1 hx
 exact yM hr (hs.tm i x0 v h0 hv)
end Go.Proofs.YtehobfglmeiglaaGreatDoor
