/- AvJ3 -/
import Derived.Test.YtknefkdcokgpbaaGreatAvJ2
import Derived.LoopN
set_option maxHeartbeats 8000000
set_option linter.unusedVariables false
set_option linter.unusedSimpArgs false
set_option maxRecDepth 100000
open List (all_eq_true filterMap_cons find?_cons map_cons mem_cons mem_filterMap mem_map mem_range nodup_cons)
open Nat (eq_of_beq_eq_true le_of_not_lt)
open Bool (and_eq_true or_eq_true)
open Array (getElem?_eq_getElem toArray_toList)
namespace Go.Proofs.YtknefkdcokgpbaaGreat
section
open Go.RowKit
abbrev dI(n:Int):AD:= .pv (.int .i64 n)
abbrev dB(b:Bool):AD:= .pv (.bool b)
abbrev rB(b:Bool):AP:= .val (.one (dB b))
abbrev rI(n:Int):AP:= .val (.one (dI n))
abbrev pI(n:Int):AP1:= .one (dI n)
def eI(n:Int):List AD:=[dI n]
abbrev dIs(l:List Int):AD:= .sl (l.map eI)
theorem KG{n:Int}(h0: -9223372036854775808<=n)(h1:n<=9223372036854775807):IntKind.i64.wrap n=n:=by rw[IntKind.wrap_i64];omega
theorem X3{n:Int}{K:Int->Prop}(h0: -9223372036854775808<=n)(h1:n<=9223372036854775807)(h:K n):AW .i64 n K:=⟨_,KG h0 h1,h⟩
theorem Yg{α:Type}{enc:α->List AD}{l:List α}{k:Nat}{K:Nat->List AD->Prop}(hk:k<l.length)(h:K k (enc l[k])):AIx (l.map enc) (k:Int) K:=
 ⟨k,enc l[k],rfl,by simp[hk],h⟩
theorem AIx.int{α:Type}{enc:α->List AD}{l:List α}{n:Int}{K:Nat->List AD->Prop}(h0:0<=n)(hk:n.toNat<l.length)(h:K n.toNat (enc l[n.toNat])):AIx (l.map enc) n K:=
 ⟨n.toNat,enc l[n.toNat],ac,by simp[hk],h⟩
theorem X8{xs:List (List AD)}{n:Int}{K:Nat->List AD->Prop}(k:Nat)(x:List AD)(hn:n=(k:Int))(hx:xs[k]? =some x)(h:K k x):AIx xs n K:=⟨k,x,hn,hx,h⟩
def If:List AV->List (Nat×AV)->(List AV->Prop)->Prop
 |tm,[],K=>K tm
 |tm,(i,v)::r,K=>nI tm i v λtm=>If tm r K
def Gr:List AV->List Nat->(List AV->Prop)->Prop
 |tm,[],K=>K tm
 |tm,i::r,K=>nI tm i (.one .dead) λtm=>Gr tm r K
def MA(tm:List AV)(ws:List Nat)(sl:List (Nat×AV))(K:List AV->Prop):Prop:=Gr tm ws λtm=>If tm sl K
def lR(tm:List AV)(sl:List (Nat×AV)):List AV:=sl.foldl (λtm p=>tm.set p.1 p.2) tm
def Ll(tm:List AV)(ws:List Nat):List AV:=ws.foldl (λtm i=>tm.set i (.one .dead)) tm
theorem Ew:∀{sl:List (Nat×AV)} {tm:List AV} {K:List AV->Prop},If tm sl K->K (lR tm sl)
 |[],_,_,h=>h
 |(i,v)::r,tm,K,h=>Ew (sl:=r) (tm:=tm.set i v) (jM (K:=λtm=>If tm r K) h)
theorem At:∀{ws:List Nat} {tm:List AV} {K:List AV->Prop},Gr tm ws K->K (Ll tm ws)
 |[],_,_,h=>h
 |i::r,tm,K,h=>At (ws:=r) (tm:=tm.set i (.one .dead)) (jM (K:=λtm=>Gr tm r K) h)
theorem xL{tm:List AV}{ws:List Nat}{sl:List (Nat×AV)}{K:List AV->Prop}(h:MA tm ws sl K):K (lR (Ll tm ws) sl):=Ew (At (K:=λtm=>If tm sl K) h)
def Ih:List AV->List AV->Prop
 |[],[]=>True
 |_::l,.one .dead::m=>Ih l m
 |x::l,y::m=>x=y/\Ih l m
 |_,_=>False
theorem wu:∀{l m:List AV},Ih l m->qV l m
 |[],[],_=> .nil
 |x::l,y::m,h=>by
  unfold Ih at h;split at h
  ·cases ‹_=[]›
  ·rename_i e1 e2;injection e1 with a1 a2
   injection e2 with b1 b2
   subst a1 a2 b1 b2;exact .cons (.dead _) (wu h)
  ·rename_i e1 e2;injection e1 with a1 a2
   injection e2 with b1 b2
   subst a1 a2 b1 b2;obtain⟨rfl,h⟩:=h;exact .cons (.refl _) (wu h)
  ·exact h.elim
 |[],_::_,h=>by unfold Ih at h;exact h.elim
 |_::_,[],h=>by unfold Ih at h;exact h.elim
section
variable {E:bB} {S:bV} {K:Exit->ASt->Prop}
structure bd {α:Type} (R:α->Prop) (μ:α->Nat) (x:α) (tm:List AV) (ws:List Nat) (sl:α->List (Nat×AV)) (ob':α->List (Nat×AO)) (st':ASt):Prop where
 h:∃y,R y/\μ y<μ x/\(MA tm ws (sl y) λtm'=>Ih st'.tm tm')/\aL st'.ob (ob' y)
def Ux{α:Type}(R:α->Prop)(μ:α->Nat)(x:α)(tm:List AV)(ws:List Nat)(sl:α->List (Nat×AV))(ob':α->List (Nat×AO))(K:Exit->ASt->Prop):Exit->ASt->Prop
 | .normal,st'=>bd R μ x tm ws sl ob' st'
 |e,st'=>K e st'
theorem X5{α:Type}(R:α->Prop)(ws:List Nat)(sl:α->List (Nat×AV))(ob':α->List (Nat×AO))(μ:α->Nat)(x0:α){c:Code}{tm:List AV}{ob:List (Nat×AO)}(h0:R x0)
  (hsub:MA tm ws (sl x0) λtm'=>Ih tm tm') (hob:aL ob (ob' x0))
  (round:∀x,R x->MA tm ws (sl x) λtm'=>AWP E S c (Ux R μ x tm ws sl ob' K) ⟨tm',ob' x⟩):AWP E S (.loop c) K ⟨tm,ob⟩:=by
 refine AWP.loop R (λx=>⟨lR (Ll tm ws) (sl x),ob' x⟩) μ x0 h0 (wu (xL hsub)) hob λx hx=>?_;have h:=xL (round x hx);refine⟨λa w hs=>wp_mono (h.run a w hs) λe a' w' h'=>?_⟩;obtain⟨st',hs',hk⟩:=h';refine⟨st',hs',?_⟩;cases e with
 |normal=>
  obtain⟨y,hy,hlt,h1,h2⟩:=(show bd R μ x tm ws sl ob' st' from hk).h;exact⟨y,hy,hlt,wu (xL h1),h2⟩
 |_=>exact hk
end
theorem ari{p:Prop}(h:p:=by simp only[decide_eq_true_eq,decide_eq_false_iff_not,List.length_map,Bool.not_eq_true',Bool.not_eq_false']at*;omega):p:=h
theorem rr{p:Prop}(h:p:=by first|exact trivial|with_reducible_and_instances rfl|exact(rfl:AP.tup _=AP.tup _)):p:=h
theorem whd{p:Prop}(h:p:=by repeat'(first|exact trivial|(refine⟨rfl,?_⟩;conv=>whnf)|fail)):p:=h
theorem hds{p:Prop}(h:p:=by(conv=>whnf);exact whd):p:=h
end
section
open Go.RowKit
def Gz(l:List Nat):List Nat->List Nat
 |[]=>l
 |x::r=>Gz (if l.contains x then l else x::l) r
def r7(o:Oper):List Nat:=(o.after.toList.filter (Region.binds .any)).map (·.on)
def GN(D:List (List Nat)):List Nat->List Nat->List Nat
 |[],acc=>acc
 |e::r,acc=>GN D r (Gz (Gz acc [e]) (D.getD e []))
def xV:List (List Nat)->List Oper->List (List Nat)
 |D,[]=>D
 |D,o::r=>xV (D++[GN D (r7 o) []]) r
theorem v4{x:Nat}:∀{r l:List Nat},x∈Gz l r->x∈l\/x∈r
 |[],l,h=> .inl h
 |y::r,l,h=>by
  rcases v4 (r:=r) h with h|h
  ·split at h
   ·exact .inl h
   ·rcases mem_cons.1 h with rfl|h
    ·exact .inr aj
    ·exact .inl h
  ·exact .inr (by simp[h])
theorem Cq{D:List (List Nat)}{x:Nat}:∀{es acc:List Nat},x∈GN D es acc->x∈acc\/∃e∈es,x=e\/x∈D.getD e []
 |[],acc,h=> .inl h
 |e::r,acc,h=>by
  rcases Cq (es:=r) h with h|⟨e',he,h⟩
  ·rcases v4 h with h|h
   ·rcases v4 h with h|h
    ·exact .inl h
    ·exact .inr ⟨e,by simp,.inl (by simpa using h)⟩
   ·exact .inr ⟨e,by simp,.inr h⟩
  ·exact .inr ⟨e',by simp[he],h⟩
def gI(ops:List Oper)(i:Nat):List Nat:=match ops[i]? with|some o=>r7 o|none=>[]
theorem uV(ops:List Oper)(T:Nat->Prop)(hT:∀j,T j->∀e∈gI ops j,T e):∀(rest:List Oper) (D:List (List Nat)),(∀k,ops[D.length+k]? =rest[k]?)->
  (∀j,j<D.length->(∀e∈gI ops j,T e)->∀x∈D.getD j [],T x)->∀j,(∀e∈gI ops j,T e)->∀x∈(xV D rest).getD j [],T x
 |[],D,_,hD,j,hj,x,hx=>by
  by_cases h:j<D.length
  ·exact hD j h hj x hx
  ·simp[xV,List.getD,List.getElem?_eq_none (le_of_not_lt h)]at hx
 |o::r,D,ho,hD,j,hj,x,hx=>by
  refine uV ops T hT r (D++[GN D (r7 o) []]) (λk=>?_) (λi hi hai y hy=>?_) j hj x hx
  ·have:=ho (k+1);simpa[Nat.add_assoc,Nat.add_comm 1 k]using this
  ·by_cases h:i<D.length
   ·refine hD i h hai y ?_;simpa[List.getD,List.getElem?_append_left h]using hy
   ·have hi':i=D.length:=by simp at hi;omega
    subst hi';simp[List.getD]at hy;rcases Cq hy with h0|⟨e,he,h0⟩
    ·cases h0
    ·have hae:gI ops D.length=r7 o:=by
      have:=ho 0;simp only[Nat.add_zero,List.getElem?_cons_zero]at this;simp[gI,this]
     have hTe:T e:=hai e (by rw[hae];exact he);rcases h0 with rfl|h0
     ·exact hTe
     ·by_cases hel:e<D.length
      ·exact hD e hel (λe' he'=>hT e hTe e' he') y (by simpa[List.getD]using h0)
      ·simp[List.getElem?_eq_none (le_of_not_lt hel)]at h0
theorem px:∀(ups:List (Nat×AV)) (tm:List AV),(ups.map (·.1)).Nodup->(lR tm ups).length=tm.length/\∀s:Nat,(lR tm ups)[s]? =match ups.find? (λp=>p.1==s)with
  |some p=>if s<tm.length then some p.2 else none
  |none=>tm[s]?
 |[],tm,_=>⟨rfl,λs=>rfl⟩
 |(i,v)::r,tm,hn=>by
  obtain⟨hi,hr⟩:=nodup_cons.1 (by rw[map_cons]at hn;exact hn);obtain⟨h1,h2⟩:=px r (tm.set i v) hr;refine⟨by simpa[lR]using h1,λs=>?_⟩;have e:lR tm ((i,v)::r)=lR (tm.set i v) r:=rfl;rw[e,h2 s];by_cases his:i=s
  ·subst his;have hf:r.find? (λp=>p.1==i)=none:=by
    rw[List.find?_eq_none];intro p hp;simp only[beq_iff_eq];rintro rfl;exact hi (mem_map.2 ⟨p,hp,rfl⟩)
   simp only[hf,find?_cons,beq_self_eq_true];rw[List.getElem?_set,if_pos rfl]
  ·have hb:((i,v).1==s)=false:=by simp[his]
   simp only[find?_cons,hb];cases r.find? (λp=>p.1==s)with
   |some p=>simp
   |none=>simp[List.getElem?_set_ne his]
theorem C2{ups:List (Nat×AV)}{tm:List AV}(hn:(ups.map (·.1)).Nodup){s:Nat}{v:AV}(h:(s,v)∈ups)(hs:s<tm.length):(lR tm ups)[s]? =some v:=by
 rw[(px ups tm hn).2 s];have:ups.find? (λp=>p.1==s)=some (s,v):=by
  induction ups with
  |nil=>cases h
  |cons p r ih=>
   obtain⟨hi,hr⟩:=nodup_cons.1 (by rw[map_cons]at hn;exact hn);rw[find?_cons];rcases mem_cons.1 h with h|h
   ·subst h;simp
   ·have hb:(p.1==s)=false:=by
     simp only[beq_eq_false_iff_ne];rintro rfl;exact hi (mem_map.2 ⟨_,h,rfl⟩)
    rw[hb];exact ih hr h
 rw[this];simp[hs]
theorem ym{ups:List (Nat×AV)}{tm:List AV}(hn:(ups.map (·.1)).Nodup){s:Nat}(h:∀p∈ups,p.1≠s):(lR tm ups)[s]? =tm[s]? :=by
 rw[(px ups tm hn).2 s];have:ups.find? (λp=>p.1==s)=none:=by
  rw[List.find?_eq_none];intro p hp;simpa using h p hp
 rw[this]
theorem YZ:∀{l m:List AV},l.length=m.length->(∀(s:Nat) x y,l[s]? =some x->m[s]? =some y->Pe x y)->qV l m
 |[],[],_,_=> .nil
 |x::l,y::m,hl,h=> .cons (h 0 x y rfl rfl) (YZ (by simpa using hl) λs u v hu hv=>h (s+1) u v (by simpa using hu) (by simpa using hv))
 |[],_::_,hl,_=>by simp at hl
 |_::_,[],hl,_=>by simp at hl
section
variable (ops:List Oper) (D:List (List Nat)) (R:List (AV×Option AO)) (n0:Nat)
def dAt(j:Nat):Nat:=match ops[j]? with|some o=>o.dst.getD 0|none=>0
def vAt(j:Nat):AV:=(R.getD j (.one .dead,none)).1
def oAt(j:Nat):Option AO:=(R.getD j (.one .dead,none)).2
def inD(i j:Nat):Bool:=(D.getD j []).contains i
def upS(listed:Nat->Bool)(j:Nat):Option (Nat×AV):=if listed j then some (dAt ops j,vAt R j)else none
def upP(i j:Nat):Option (Nat×AV):=if inD D j i then some (dAt ops j,vAt R j)else if inD D i j||Nat.beq j i then none else some (dAt ops j,.one .dead)
def obF(listed:Nat->Bool)(j:Nat):Option (Nat×AO):=if listed j then(oAt R j).map λo=>(dAt ops j,o)else none
def stS(st0:ASt)(listed:Nat->Bool):ASt:=⟨lR st0.tm ((List.range n0).filterMap (upS ops R listed)),(List.range n0).filterMap (obF ops R listed)++st0.ob⟩
def stP(st0:ASt)(i:Nat):ASt:=⟨lR st0.tm ((List.range n0).filterMap (upP ops D R i)),(List.range n0).filterMap (obF ops R λj=>inD D j i)++st0.ob⟩
end
theorem jr{α:Type}{d:Nat->Nat}{f:Nat->Option (Nat×α)}(hf:∀j p,f j=some p->p.1=d j):∀{l:List Nat},(l.map d).Nodup->((l.filterMap f).map (·.1)).Nodup
 |[],_=>List.nodup_nil
 |j::r,h=>by
  obtain⟨hi,hr⟩:=nodup_cons.1 (by rw[map_cons]at h;exact h);rw[filterMap_cons];split
  ·exact jr hf hr
  ·rename_i p hp;rw[map_cons,nodup_cons];refine⟨λhm=>hi ?_,jr hf hr⟩;obtain⟨q,hq,e⟩:=mem_map.1 hm;obtain⟨k,hk,hfk⟩:=mem_filterMap.1 hq;rw[hf j p hp,hf k q hfk]at e;exact mem_map.2 ⟨k,hk,e⟩
theorem MM{d:Nat->Nat}{n j k:Nat}(h:((List.range n).map d).Nodup)(hj:j<n)(hk:k<n)(e:d j=d k):j=k:=by
 have h1:((List.range n).map d)[j]? =some (d j):=by simp[hj]
 have h2:((List.range n).map d)[k]? =some (d j):=by simp[hk,e]
 exact(List.getElem?_inj (by simpa using hj) h).1 (h1.trans h2.symm)
theorem JH{l m:List (Nat×AO)}{id:Nat}:bA (l++m) id=match bA l id with|some o=>some o|none=>bA m id:=by
 induction l with
 |nil=>rfl
 |cons p r ih=>
  obtain⟨k,o⟩:=p;simp only[List.cons_append,bA];split
  ·rfl
  ·exact ih
theorem Sx{d:Nat->Nat}{f:Nat->Option (Nat×AO)}(hf:∀j p,f j=some p->p.1=d j){n:Nat}(hd:((List.range n).map d).Nodup){id:Nat}{o:AO}:bA ((List.range n).filterMap f) id=some o↔∃j,j<n/\f j=some (id,o):=by
 have key:∀l:List Nat,(∀j∈l,j<n)->l.Nodup->(bA (l.filterMap f) id=some o↔∃j∈l,f j=some (id,o)):=by
  intro l;induction l with
  |nil=>intro _ _;simp[bA]
  |cons j r ih=>
   intro hl hn;obtain⟨hjr,hnr⟩:=nodup_cons.1 hn;have ih':=ih (λk hk=>hl k (by simp[hk])) hnr;rw[filterMap_cons];split
   ·rename_i hj;rw[ih'];constructor
    ·rintro⟨k,hk,e⟩;exact⟨k,by simp[hk],e⟩
    ·rintro⟨k,hk,e⟩;rcases mem_cons.1 hk with rfl|hk
     ·rw[hj]at e;cases e
     ·exact⟨k,hk,e⟩
   ·rename_i p hj;obtain⟨k0,o0⟩:=p;simp only[bA];have hk0:=hf j _ hj;simp only at hk0;by_cases hid:k0=id
    ·rw[if_pos hid];constructor
     ·intro e;injection e with e;subst e hid;exact⟨j,by simp,hj⟩
     ·rintro⟨k,hk,e⟩;rcases mem_cons.1 hk with rfl|hk
      ·rw[hj]at e;injection e with e;injection e with _ e;rw[e]
      ·have h1:=hf k _ e;simp only at h1;have:j=k:=MM hd (hl j aj) (hl k (by simp[hk])) (by rw[<-hk0,<-h1,hid]);subst this;exact absurd hk hjr
    ·rw[if_neg hid,ih'];constructor
     ·rintro⟨k,hk,e⟩;exact⟨k,by simp[hk],e⟩
     ·rintro⟨k,hk,e⟩;rcases mem_cons.1 hk with rfl|hk
      ·rw[hj]at e;injection e with e;injection e with e _;exact absurd e hid
      ·exact⟨k,hk,e⟩
 rw[key _ (λj hj=>mem_range.1 hj) List.nodup_range];simp[mem_range]
def vj(id:Nat):AV->Bool
 | .one c=>qN id c
 | .agg cs=>cs.all (qN id)
 | .tup _=>false
def Fj(id:Nat):AO->Bool
 | .cells _ cs=>cs.all (qN id)
 | .row _ _ _=>true
 | .frame vs _=>vs.all (vj id)
 | .any _=>true
 | .many _ _=>true
theorem qr{id:Nat}{c:AC}(h:qN id c=true):jt id c=c:=by
 cases c with
 |own i=>simp only[qN,Bool.not_eq_true']at h;simp only[jt];rw[if_neg (Nat.ne_of_beq_eq_false h)]
 |ref i k s off=>simp only[qN,Bool.not_eq_true']at h;simp only[jt];rw[if_neg (Nat.ne_of_beq_eq_false h)]
 |_=>rfl
theorem y9{id:Nat}{cs:List AC}(h:cs.all (qN id)=true):cs.map (jt id)=cs:=by
 induction cs with
 |nil=>rfl
 |cons c r ih=>
  simp only[List.all_cons,and_eq_true]at h;rw[map_cons,qr h.1,ih h.2]
theorem ng{id:Nat}{x:AV}(h:vj id x=true):ku id x=x:=by
 cases x with
 |one c=>simp only[ku];rw[qr h]
 |agg cs=>simp only[ku];rw[y9 h]
 |tup vs=>cases h
theorem v5{id:Nat}{o:AO}(h:Fj id o=true):na id o=o:=by
 cases o with
 |cells t cs=>simp only[na];rw[y9 h]
 |row e s xs=>rfl
 |frame vs us=>
  have:vs.map (ku id)=vs:=by
   have h':vs.all (vj id)=true:=h;clear h;induction vs with
   |nil=>rfl
   |cons x r ih=>
    simp only[List.all_cons,and_eq_true]at h';rw[map_cons,ng h'.1,ih h'.2]
  simp only[na];rw[this]
 |any Q=>rfl
 |many P Q=>rfl
def tL(E:bB)(S:bV)(o:Oper)(P:ASt)(v:AV)(oo:Option AO):Prop:=
 ∀Z ρ a w,Sim E.W S Z ρ P a w->∀(Kont:Act->World->Prop) Q,
  (∀ v' w' Z' ρ', w.grownBy w' none → (∀ b, Z b → Z' b) → (∀ b, Z' b → Z b ∨ (w.heap.size ≤ b ∧ b < w'.heap.size)) → bX Z' w' ρ' v v' →
   (match oo with
    |none=>ρ'=ρ
    |some ob=>∃d,o.dst=some d/\ρ'=(λi=>if i=d then v' else ρ i)/\(∀b,bQ v'=some b->w.heap.size<=b)/\cQ Z' w' ρ' d ob/\Z'=Z)->Kont (a.put o.dst v') w')->Oper.wp E.P o a w Kont Q
section
variable {E:bB} {S:bV} {ops:List Oper} {R:List (AV×Option AO)} {n0:Nat} {st0:ASt}
theorem HY{listed:Nat->Bool}(j:Nat)(p:Nat×AV)(h:upS ops R listed j=some p):p.1=dAt ops j:=by unfold upS at h;split at h<;>first|(injection h with h;subst h;rfl)|cases h
theorem qL{D:List (List Nat)}{i:Nat}(j:Nat)(p:Nat×AV)(h:upP ops D R i j=some p):p.1=dAt ops j:=by
 unfold upP at h;split at h
 ·injection h with h;subst h;rfl
 ·split at h
  ·cases h
  ·injection h with h;subst h;rfl
theorem Sw{listed:Nat->Bool}(j:Nat)(p:Nat×AO)(h:obF ops R listed j=some p):p.1=dAt ops j:=by
 unfold obF at h;split at h
 ·obtain⟨o,_,rfl⟩:=Option.map_eq_some_iff.1 h;rfl
 ·cases h
theorem wd(hd:((List.range n0).map (dAt ops)).Nodup){listed:Nat->Bool}{j:Nat}(hj:j<n0)(hl:listed j=true)(hs:dAt ops j<st0.tm.length):(stS ops R n0 st0 listed).tm[dAt ops j]? =some (vAt R j):=
 C2 (jr HY hd) (mem_filterMap.2 ⟨j,mem_range.2 hj,by simp[upS,hl]⟩) hs
theorem Dm(hd:((List.range n0).map (dAt ops)).Nodup){listed:Nat->Bool}{s:Nat}(h:∀j,j<n0->listed j=true->dAt ops j≠s):(stS ops R n0 st0 listed).tm[s]? =st0.tm[s]? :=by
 refine ym (jr HY hd) λp hp=>?_;obtain⟨j,hj,hf⟩:=mem_filterMap.1 hp;unfold upS at hf;split at hf
 ·rename_i hl;injection hf with hf
  subst hf;exact h j (mem_range.1 hj) hl
 ·cases hf
theorem qE(hd:((List.range n0).map (dAt ops)).Nodup){listed:Nat->Bool}:(stS ops R n0 st0 listed).tm.length=st0.tm.length:=(px _ _ (jr HY hd)).1
theorem we(hd:((List.range n0).map (dAt ops)).Nodup){listed:Nat->Bool}{id:Nat}{o:AO}:bA (stS ops R n0 st0 listed).ob id=some o↔(∃j,j<n0/\listed j=true/\dAt ops j=id/\oAt R j=some o)\/((∀j,j<n0->listed j=true->dAt ops j=id->oAt R j=none)/\bA st0.ob id=some o):=by
 have h0:∀o,bA ((List.range n0).filterMap (obF ops R listed)) id=some o↔∃j,j<n0/\listed j=true/\dAt ops j=id/\oAt R j=some o:=by
  intro o;rw[Sx Sw hd];constructor
  ·rintro⟨j,hj,hf⟩;unfold obF at hf;split at hf
   ·rename_i hl;obtain⟨o',ho',e⟩:=Option.map_eq_some_iff.1 hf;injection e with e1 e2
    exact⟨j,hj,hl,e1,e2▸ho'⟩
   ·cases hf
  ·rintro⟨j,hj,hl,e,ho⟩;exact⟨j,hj,by simp[obF,hl,ho,e]⟩
 show bA (_++_) id=some o↔_;rw[JH];cases hg:bA ((List.range n0).filterMap (obF ops R listed)) id with
 |some o'=>
  obtain⟨j,hj,hl,e,ho⟩:=(h0 o').1 hg;simp only;constructor
  ·intro e';injection e' with e';subst e';exact .inl ⟨j,hj,hl,e,ho⟩
  ·rintro(h|⟨h,_⟩)
   ·have:=(h0 o).2 h;rw[hg]at this;exact this
   ·have:=h j hj hl e;rw[ho]at this;cases this
 |none=>
  simp only;constructor
  ·intro e';refine .inr ⟨λj hj hl e=>?_,e'⟩;cases ho:oAt R j with
   |none=>rfl
   |some o'=>have:=(h0 o').2 ⟨j,hj,hl,e,ho⟩;rw[hg]at this;cases this
  ·rintro(h|⟨_,h⟩)
   ·have:=(h0 o).2 h;rw[hg]at this;cases this
   ·exact h
end
end
section
open Go.RowKit
section
variable {E:bB} {S:bV} {ops:List Oper} {D:List (List Nat)} {R:List (AV×Option AO)} {n0:Nat} {st0:ASt}
theorem Uf(hd:((List.range n0).map (dAt ops)).Nodup){i j:Nat}(hj:j<n0)(hs:dAt ops j<st0.tm.length):
  (stP ops D R n0 st0 i).tm[dAt ops j]? =if inD D j i then some (vAt R j)else if inD D i j||Nat.beq j i then st0.tm[dAt ops j]? else some (.one .dead):=by
 by_cases h1:inD D j i=true
 ·rw[if_pos h1];exact C2 (jr qL hd) (mem_filterMap.2 ⟨j,mem_range.2 hj,by simp[upP,h1]⟩) hs
 ·rw[if_neg h1];by_cases h2:(inD D i j||Nat.beq j i)=true
  ·rw[if_pos h2];refine ym (jr qL hd) λp hp e=>?_;obtain⟨k,hk,hf⟩:=mem_filterMap.1 hp;have e2:=qL k p hf;have:k=j:=MM hd (mem_range.1 hk) hj (by rw[<-e2,e]);subst this;unfold upP at hf;rw[if_neg h1,if_pos h2]at hf;cases hf
  ·rw[if_neg h2];exact C2 (jr qL hd) (mem_filterMap.2 ⟨j,mem_range.2 hj,by unfold upP;rw[if_neg h1,if_neg h2]⟩) hs
theorem Ug(hd:((List.range n0).map (dAt ops)).Nodup){i s:Nat}(h:∀j,j<n0->dAt ops j≠s):(stP ops D R n0 st0 i).tm[s]? =st0.tm[s]? :=by
 refine ym (jr qL hd) λp hp=>?_;obtain⟨j,hj,hf⟩:=mem_filterMap.1 hp;rw[qL j p hf];exact h j (mem_range.1 hj)
theorem SO(hd:((List.range n0).map (dAt ops)).Nodup)(hlen:∀j,j<n0->dAt ops j<st0.tm.length)(hob:∀j,j<n0->oAt R j≠none->bA st0.ob (dAt ops j)=none){listed:Nat->Bool}{i:Nat}
  (hli:listed i=false) (hD:∀j,j<n0->inD D j i=true->listed j=true) (hA:∀j,j<n0->inD D i j=true->listed j=false):
  qV (stS ops R n0 st0 listed).tm (stP ops D R n0 st0 i).tm/\aL (stS ops R n0 st0 listed).ob (stP ops D R n0 st0 i).ob:=by
 constructor
 ·refine YZ (by rw[qE hd];exact(px _ _ (jr qL hd)).1.symm) λs x y hx hy=>?_;by_cases hs:∃j,j<n0/\dAt ops j=s
  ·obtain⟨j,hj,rfl⟩:=hs;rw[Uf hd hj (hlen j hj)]at hy;have un:listed j=false->(stS ops R n0 st0 listed).tm[dAt ops j]? =st0.tm[dAt ops j]? :=λhl=>Dm hd λk hk hkl e=>by
    have:=MM hd hk hj e;subst this;rw[hl]at hkl;cases hkl
   split at hy
   ·rename_i h1;rw[wd hd hj (hD j hj h1) (hlen j hj)]at hx;injection hx with hx
    injection hy with hy
    rw[<-hx,<-hy];exact .refl _
   ·split at hy
    ·rename_i h1 h2;have hl:listed j=false:=by
      simp only[or_eq_true]at h2;rcases h2 with h2|h2
      ·exact hA j hj h2
      ·rw[eq_of_beq_eq_true h2];exact hli
     rw[un hl,hy]at hx;injection hx with hx
     rw[hx];exact .refl _
    ·injection hy with hy
     subst hy;exact .dead _
  ·have h:∀j,j<n0->dAt ops j≠s:=λj hj e=>hs ⟨j,hj,e⟩;rw[Dm hd λj hj _=>h j hj]at hx;rw[Ug hd h,hx]at hy;injection hy with hy
   rw[hy];exact .refl _
 ·intro id o ho;have e:(stP ops D R n0 st0 i).ob=(stS ops R n0 st0 λj=>inD D j i).ob:=rfl;rw[e,we hd]at ho;rw[we hd];rcases ho with⟨j,hj,h1,h2,h3⟩|⟨h1,h2⟩
  ·exact .inl ⟨j,hj,hD j hj h1,h2,h3⟩
  ·refine .inr ⟨λj hj hl e=>?_,h2⟩;cases ho:oAt R j with
   |none=>rfl
   |some o'=>
    have:=hob j hj (by rw[ho];simp);rw[e,h2]at this;cases this
structure DBase (ops:List Oper) (D:List (List Nat)) (R:List (AV×Option AO)) (n0:Nat) (st0:ASt):Prop where
 le:n0<=ops.length
 nd:((List.range n0).map (dAt ops)).Nodup
 dst:∀i o,i<n0->ops[i]? =some o->o.dst=some (dAt ops i)
 len:∀j,j<n0->dAt ops j<st0.tm.length
 ob:∀j,j<n0->oAt R j≠none->bA st0.ob (dAt ops j)=none
 noV:∀i,i<n0->oAt R i≠none->(∀x∈st0.tm,vj (dAt ops i) x=true)/\∀p∈st0.ob,Fj (dAt ops i) p.2=true
 noR:∀i j,i<n0->j<n0->oAt R i≠none->inD D i j=false->j≠i->vj (dAt ops i) (vAt R j)=true/\∀o,oAt R j=some o->Fj (dAt ops i) o=true
def rL(E:bB)(S:bV)(D:List (List Nat))(R:List (AV×Option AO))(n0:Nat)(P:ASt)(i:Nat)(o:Oper):Prop:=match o.guard with
  |none=>tL E S o P (vAt R i) (oAt R i)
  |some (g,want)=>g<n0/\inD D g i=true/\((∃p,vAt R g=vB p/\((p=want/\tL E S o P (vAt R i) (oAt R i))\/(p≠want/\vAt R i= .one .und/\oAt R i=none)))\/(vAt R g= .one .und/\vAt R i= .one .und/\oAt R i=none))
structure KK (E:bB) (S:bV) (ops:List Oper) (D:List (List Nat)) (R:List (AV×Option AO)) (n0:Nat) (st0:ASt):Prop extends DBase ops D R n0 st0 where
 out:∀i o,i<n0->ops[i]? =some o->rL E S D R n0 (stP ops D R n0 st0 i) i o
theorem gS{l:List (Nat×AO)}{id:Nat}{o:AO}(h:bA l id=some o):(id,o)∈l:=by
 induction l with
 |nil=>cases h
 |cons p r ih=>
  obtain⟨k,x⟩:=p;simp only[bA]at h;split at h
  ·rename_i e;injection h with h;subst e h;simp
  ·exact List.mem_cons_of_mem _ (ih h)
theorem By(F:DBase ops D R n0 st0){listed:Nat->Bool}{i:Nat}{o:Oper}(hi:i<n0)(ho:ops[i]? =some o)(hA:∀j,j<n0->inD D i j=true->listed j=false)(hli:listed i=false)
  {Z Z':Nat->Prop} {ρ ρ':Nat->Value} {a:Act} {w w':World} {v':Value} (hs:Sim E.W S Z ρ (stS ops R n0 st0 listed) a w)
  (hg:w.grownBy w' none) (hz:∀b,Z b->Z' b) (hz2:∀b,Z' b->Z b\/(w.heap.size<=b/\b<w'.heap.size)) (hv:bX Z' w' ρ' (vAt R i) v')
  (hoo : match oAt R i with
    |none=>ρ'=ρ
    |some ob=>∃d,o.dst=some d/\ρ'=(λi=>if i=d then v' else ρ i)/\(∀b,bQ v'=some b->w.heap.size<=b)/\cQ Z' w' ρ' d ob/\Z'=Z):
  hG E.W S (stS ops R n0 st0 λj=>listed j||Nat.beq j i) (a.put o.dst v') w':=by
 have hdst:=F.dst i o hi ho;have hnd:=F.nd;have slot:∀s,s≠dAt ops i->(stS ops R n0 st0 λj=>listed j||Nat.beq j i).tm[s]? =(stS ops R n0 st0 listed).tm[s]? :=by
  intro s hne;by_cases hex:∃j,j<n0/\listed j=true/\dAt ops j=s
  ·obtain⟨j,hj,hl,rfl⟩:=hex;rw[wd hnd hj (by simp[hl]) (F.len j hj),wd hnd hj hl (F.len j hj)]
  ·rw[Dm hnd λj hj hl e=>?_,Dm hnd λj hj hl e=>hex ⟨j,hj,hl,e⟩];simp only[or_eq_true]at hl;rcases hl with hl|hl
   ·exact hex ⟨j,hj,hl,e⟩
   ·exact hne (by rw[<-e,eq_of_beq_eq_true hl])
 have slotI:(stS ops R n0 st0 λj=>listed j||Nat.beq j i).tm[dAt ops i]? =some (vAt R i):=wd hnd hi aj (F.len i hi);cases ho':oAt R i with
 |none=>
  rw[ho']at hoo;have hoo:ρ'=ρ:=hoo;subst hoo;have h1:=(hs.grow hg hz hz2).put o.dst hv;refine⟨Z',ρ',h1.sub (YZ ?_ λs x y hx hy=>?_) λid ob hob=>?_⟩
  ·rw[hdst];simp[JS,qE hnd]
  ·rw[hdst]at hx;simp only[JS,List.getElem?_set]at hx;by_cases hsd:dAt ops i=s
   ·subst hsd;rw[slotI]at hy;rw[if_pos rfl,qE hnd,if_pos (F.len i hi)]at hx;injection hx with hx
    injection hy with hy
    rw[<-hx,<-hy];exact .refl _
   ·rw[if_neg hsd]at hx;rw[slot s (λe=>hsd e.symm),hx]at hy;injection hy with hy
    rw[hy];exact .refl _
  ·rw[we hnd]at hob;show bA (stS ops R n0 st0 listed).ob id=some ob;rw[we hnd];rcases hob with⟨j,hj,hl,e,h⟩|⟨h,hb⟩
   ·simp only[or_eq_true]at hl;rcases hl with hl|hl
    ·exact .inl ⟨j,hj,hl,e,h⟩
    ·rw[eq_of_beq_eq_true hl,ho']at h;cases h
   ·exact .inr ⟨λj hj hl e=>h j hj (by simp[hl]) e,hb⟩
 |some ob=>
  rw[ho']at hoo;obtain⟨d,hd,hρ,hb,hrel,hZ⟩:=hoo;rw[hdst]at hd;injection hd with hd
  subst hd hZ hρ;have hne:oAt R i≠none:=by rw[ho'];simp
  have h1:=(hs.renew (dAt ops i) v' ob hg aj (λb hbb=> .inr (hb b hbb)) hrel).put o.dst hv;have noS:∀(s:Nat) x,(stS ops R n0 st0 listed).tm[s]? =some x->ku (dAt ops i) x=x:=by
   intro s x hx;by_cases hex:∃j,j<n0/\listed j=true/\dAt ops j=s
   ·obtain⟨j,hj,hl,rfl⟩:=hex;rw[wd hnd hj hl (F.len j hj)]at hx;injection hx with hx
    subst hx;have hij:inD D i j=false:=by
     cases h:inD D i j with
     |false=>rfl
     |true=>have:=hA j hj h;rw[hl]at this;cases this
    exact ng (F.noR i j hi hj hne hij (λe=>by subst e;rw[hli]at hl;cases hl)).1
   ·rw[Dm hnd λj hj hl e=>hex ⟨j,hj,hl,e⟩]at hx;exact ng ((F.noV i hi hne).1 x (List.mem_of_getElem? hx))
  have noO:∀id o',bA (stS ops R n0 st0 listed).ob id=some o'->na (dAt ops i) o'=o':=by
   intro id o' h;rw[we hnd]at h;rcases h with⟨j,hj,hl,e,h⟩|⟨_,h⟩
   ·have hij:inD D i j=false:=by
     cases h:inD D i j with
     |false=>rfl
     |true=>have:=hA j hj h;rw[hl]at this;cases this
    exact v5 ((F.noR i j hi hj hne hij (λe=>by subst e;rw[hli]at hl;cases hl)).2 o' h)
   ·exact v5 ((F.noV i hi hne).2 (id,o') (gS h))
  refine⟨Z',_,h1.sub (YZ ?_ λs x y hx hy=>?_) λid o' hob=>?_⟩
  ·rw[hdst];simp[JS,fv,qE hnd]
  ·rw[hdst]at hx;simp only[JS,List.getElem?_set]at hx;by_cases hsd:dAt ops i=s
   ·subst hsd;rw[slotI]at hy;rw[if_pos rfl]at hx;simp only[fv,List.length_map,qE hnd,if_pos (F.len i hi)]at hx;injection hx with hx
    injection hy with hy
    rw[<-hx,<-hy];exact .refl _
   ·rw[if_neg hsd]at hx;simp only[fv,List.getElem?_map]at hx;obtain⟨x0,hx0,rfl⟩:=Option.map_eq_some_iff.1 hx;rw[slot s (λe=>hsd e.symm),hx0]at hy;injection hy with hy
    rw[noS s x0 hx0,hy];exact .refl _
  ·show bA (fj (fv (dAt ops i) (stS ops R n0 st0 listed)).ob (dAt ops i) ob) id=some o';rw[cz];rw[we hnd]at hob;by_cases hid:dAt ops i=id
   ·rw[if_pos hid];rcases hob with⟨j,hj,hl,e,h⟩|⟨h,_⟩
    ·have:j=i:=MM hnd hj hi (by rw[e,hid]);subst this;rw[ho']at h;exact h
    ·have:=h i hi aj hid;rw[ho']at this;cases this
   ·rw[if_neg hid];have hold:bA (stS ops R n0 st0 listed).ob id=some o':=by
     rw[we hnd];rcases hob with⟨j,hj,hl,e,h⟩|⟨h,hb⟩
     ·simp only[or_eq_true]at hl;rcases hl with hl|hl
      ·exact .inl ⟨j,hj,hl,e,h⟩
      ·exact absurd (by rw[<-e,eq_of_beq_eq_true hl]) hid
     ·exact .inr ⟨λj hj hl e=>h j hj (by simp[hl]) e,hb⟩
    simp only[fv,ni,hold,Option.map_some];rw[noO id o' hold]
theorem Ln(F:DBase ops D R n0 st0){listed:Nat->Bool}{i:Nat}{o:Oper}(hi:i<n0)(ho:ops[i]? =some o)(hli:listed i=false)(hD:∀j,inD D j i=true->listed j=true)(hA:∀j,j<n0->inD D i j=true->listed j=false)
  {P:ASt} (hsub:qV (stS ops R n0 st0 listed).tm P.tm/\aL (stS ops R n0 st0 listed).ob P.ob) (hout:rL E S D R n0 P i o)
  {a:Act} {w:World} (hs:hG E.W S (stS ops R n0 st0 listed) a w) {Kont:Act->World->Prop} {Q:Exit->Act->World->Prop} (hK:∀a' w',hG E.W S (stS ops R n0 st0 λj=>listed j||Nat.beq j i) a' w'->Kont a' w'):
  (Region.wanted o (yielded ops.toArray a.tmps)=true->o.wp E.P a w Kont Q)/\(Region.wanted o (yielded ops.toArray a.tmps)=false->Kont (a.put o.dst undef) w):=by
 obtain⟨Z,ρ,hs⟩:=hs;have run:tL E S o P (vAt R i) (oAt R i)->o.wp E.P a w Kont Q:=λhf=>
  hf Z ρ a w (hs.sub hsub.1 hsub.2) Kont Q λv' w' Z' ρ' h1 h2 h3 h4 h5=>hK _ _ (By F hi ho hA hli hs h1 h2 h3 h4 h5)
 unfold rL at hout;cases hg:o.guard with
 |none=>
  rw[hg]at hout;exact⟨λ_=>run hout,λh=>by simp[Region.wanted,hg]at h⟩
 |some gw=>
  obtain⟨g,want⟩:=gw;rw[hg]at hout;obtain⟨hgn,hgi,hcase⟩:=hout;have hgl:listed g=true:=hD g hgi;rcases hcase with hcase|⟨hp,hv,hoo⟩
  case inr=>
   have hy:yielded ops.toArray a.tmps g=none:=by
    have hx:=wd (R:=R) (st0:=st0) F.nd hgn hgl (F.len g hgn);obtain⟨og,hog⟩:∃og,ops[g]? =some og:=by
     have:=F.le;exact⟨ops[g],List.getElem?_eq_getElem ac⟩
    have hdg:=F.dst g og hgn hog;have hlt:dAt ops g<a.tmps.size:=by rw[hs.len,qE F.nd];exact F.len g hgn
    have hrel:=hs.tm _ _ _ hx (getElem?_eq_getElem hlt);rw[hp]at hrel;cases hrel with
    |one _ _ hrel=>
     have e:a.tmps[dAt ops g]=undef:=hrel;simp[yielded,hog,hdg,getElem?_eq_getElem hlt,e,undef]
   have hw:Region.wanted o (yielded ops.toArray a.tmps)=false:=by simp[Region.wanted,hg,hy]
   refine⟨λh=>(by rw[hw]at h;cases h),λ_=>hK _ _ ?_⟩;refine By F hi ho hA hli hs (World.grownBy.refl w _) (λ_ h=>h) (λ_ h=> .inl h) (ρ':=ρ) ?_ ?_
   ·rw[hv];exact .one _ _ (show dW Z w ρ .und undef from rfl)
   ·rw[hoo]
  obtain⟨p,hp,hcase⟩:=hcase;have hy:yielded ops.toArray a.tmps g=some p:=by
   have hx:=wd (R:=R) (st0:=st0) F.nd hgn hgl (F.len g hgn);obtain⟨og,hog⟩:∃og,ops[g]? =some og:=by
    have:=F.le;exact⟨ops[g],List.getElem?_eq_getElem ac⟩
   have hdg:=F.dst g og hgn hog;have hlt:dAt ops g<a.tmps.size:=by rw[hs.len,qE F.nd];exact F.len g hgn
   have hrel:=hs.tm _ _ _ hx (getElem?_eq_getElem hlt);rw[hp]at hrel;have:=cy hrel;simp[yielded,hog,hdg,hlt,this]
  have hw:Region.wanted o (yielded ops.toArray a.tmps)=(p==want):=by simp[Region.wanted,hg,hy]
  rcases hcase with⟨hpw,hf⟩|⟨hpw,hv,hoo⟩
  ·exact⟨λ_=>run hf,λh=>by rw[hw,hpw]at h;simp at h⟩
  ·refine⟨λh=>by rw[hw]at h;exact absurd (by simpa using h) hpw,λ_=>hK _ _ ?_⟩;refine By F hi ho hA hli hs (World.grownBy.refl w _) (λ_ h=>h) (λ_ h=> .inl h) (ρ':=ρ) ?_ ?_
   ·rw[hv];exact .one _ _ (show dW Z w ρ .und undef from rfl)
   ·rw[hoo]
theorem NY(F:KK E S ops D R n0 st0){listed:Nat->Bool}{i:Nat}{o:Oper}(hi:i<n0)(ho:ops[i]? =some o)(hli:listed i=false)(hD:∀j,inD D j i=true->listed j=true)(hA:∀j,j<n0->inD D i j=true->listed j=false)
  {a:Act} {w:World} (hs:hG E.W S (stS ops R n0 st0 listed) a w) {Kont:Act->World->Prop} {Q:Exit->Act->World->Prop} (hK:∀a' w',hG E.W S (stS ops R n0 st0 λj=>listed j||Nat.beq j i) a' w'->Kont a' w'):
  (Region.wanted o (yielded ops.toArray a.tmps)=true->o.wp E.P a w Kont Q)/\(Region.wanted o (yielded ops.toArray a.tmps)=false->Kont (a.put o.dst undef) w):=
 Ln F.toDBase hi ho hli hD hA (SO (D:=D) F.nd F.len F.ob hli (λj _ h=>hD j h) hA) (F.out i o hi ho) hs hK
end
end
section
open Go.RowKit
section
variable {E:bB} {S:bV} {Z:Nat->Prop} {ρ:Nat->Value} {st:ASt} {a:Act} {w:World} {o:Oper}
def Ag(E:bB)(Z:Nat->Prop)(ρ:Nat->Value)(o:Oper)(a:Act)(w:World)(v:AV)(oo:Option AO):Prop:=
 ∀(Kont:Act->World->Prop) Q,
  (∀ v' w' Z' ρ', w.grownBy w' none → (∀ b, Z b → Z' b) → (∀ b, Z' b → Z b ∨ (w.heap.size ≤ b ∧ b < w'.heap.size)) → bX Z' w' ρ' v v' →
   (match oo with
    |none=>ρ'=ρ
    |some ob=>∃d,o.dst=some d/\ρ'=(λi=>if i=d then v' else ρ i)/\(∀b,bQ v'=some b->w.heap.size<=b)/\cQ Z' w' ρ' d ob/\Z'=Z)->Kont (a.put o.dst v') w')->Oper.wp E.P o a w Kont Q
theorem de{K:AV->Option AO->Prop}(h:jm E Z ρ o a w λv=>K v none):∃v oo,Ag E Z ρ o a w v oo/\K v oo:=by
 obtain⟨x,v,hx,hr,hk⟩:=h;refine⟨x,none,λKont Q hK=>?_,hk⟩;unfold Oper.wp;rw[hr];exact hK v w Z ρ (World.grownBy.refl w _) (λ_ h=>h) (λ_ h=> .inl h) hx rfl
theorem o8{K:AV->Option AO->Prop}(h:jm E Z ρ o a w (λv=>K v none)\/False):∃v oo,Ag E Z ρ o a w v oo/\K v oo:=by
 rcases h with h|h
 ·exact de h
 ·exact h.elim
theorem Cv{id:Nat}:∀{cs:List AC},Hq id cs=true->cs.all (qN id)=true
 |[],_=>rfl
 |c::r,h=>by
  simp only[Hq]at h;split at h
  ·rename_i hc;simp[hc,Cv h]
  ·cases h
theorem BF{K:AV->Option AO->Prop}(h:Sim E.W S Z ρ st a w){t:TypeId}{cs:List AC}{v:Value}(hrel:Aj Z w ρ cs v.cells.toList)
  (hr:(execOp a.eval o).run E.P w= .ok (.value (.pointer (some ⟨w.heap.size,0,none⟩))) (w.alloc (.cells v.cells t))) (hk:H4 o.dst t cs K):∃x oo,Ag E Z ρ o a w x oo/\K x oo:=by
 unfold H4 at hk;split at hk
 ·rename_i d hd;split at hk
  ·rename_i hno;have hno:=Cv hno;refine⟨_,_,λKont Q hK=>?_,hk⟩;unfold Oper.wp;rw[hr];have hg:=grownBy_alloc w (.cells v.cells t) none;have hz:=h.ws.zsame hg aj;refine hK _ _ Z (λi=>if i=d then .pointer (some ⟨w.heap.size,0,none⟩)else ρ i) hg (λ_ h=>h) (λ_ h=> .inl h) (pp (id:=d) (k:=0) (s:=0) (off:=0) (b:=w.heap.size) (by simp[bQ]) aj) ⟨d,hd,rfl,λb hb=>by simp[bQ]at hb;omega,?_,rfl⟩;refine⟨w.heap.size,v.cells.toList,by simp,by rw[toArray_toList];exact heap_alloc_new w _,hrel.1,λi c u h1 h2=>?_⟩;have hc:jt d c=c:=qr (all_eq_true.1 hno c (List.mem_of_getElem? h1));have:=mG (id:=d) (y:= .pointer (some ⟨w.heap.size,0,none⟩)) ((hrel.2 i c u h1 h2).mono (λ_ h=>h) hz);rwa[hc]at this
  ·exact hk.elim
 ·exact hk.elim
theorem II{K:AV->Option AO->Prop}(h:Sim E.W S Z ρ st a w){f:FuncId}{args:List AV}{us:List Value}(hl:us.length=args.length)(hrel:∀(i:Nat) x u,args[i]? =some x->us[i]? =some u->bX Z w ρ x u)
  (hr:(execOp a.eval o).run E.P w=(callFunc f us.toArray).run E.P w) (hk:aH E st.ob f args λr=>K r none):∃x oo,Ag E Z ρ o a w x oo/\K x oo:=by
 obtain⟨ps,res,hc,hargs,hk⟩:=hk.h;refine⟨_,_,λKont Q hK=>?_,hk⟩;unfold Oper.wp;rw[hr,hc.enter];rcases hargs with hps|⟨hps,hsc⟩|⟨hext,hsc⟩
 ·have hws0:WS E.W S Z w ρ []:=h.ws.sub X4;obtain⟨ps',h1,h2,rfl⟩:=fX (st:=⟨[],[]⟩) hws0 hl hrel (AZ hps);refine(hc.run Z w us h.ws.zlt h.ws.g h1 λi p u h3 h4=>?_).mono ?_
  ·have:=h2 i p u h3 h4;have hz:∀b,gG Z ρ [] b->Z b:=by rintro b (hb|⟨id,o,ho,_⟩);exact hb;cases ho
   cases p with
   |one d=>exact bR.mono hz (λ_ _=>rfl) this
   |agg ds=>obtain⟨us,e,hl,hr⟩:=this;exact⟨us,e,hl,λi d u h5 h6=>(hr i d u h5 h6).mono hz λ_ _=>rfl⟩
  ·rintro e w' ⟨v,Z',rfl,hb,hz,hz2,hv⟩;exact hK v w' Z' ρ (dL hb) hz hz2 hv.v rfl
 ·obtain⟨ps',h1,h2,rfl⟩:=fX h.ws hl hrel hps;refine(hc.run (gG Z ρ st.ob) w us (gG.lt h.ws) ?_ h1 h2).mono ?_
  ·obtain⟨w1,g1,g2,g3⟩:=h.ws.g;exact⟨w1,g1,g2,λb hb=> .inl (g3 b hb)⟩
  ·rintro e w' ⟨v,Z',rfl,hb,hz,hz2,hv⟩;exact hK v w' Z ρ (dL hb) (λ_ h=>h) (λ_ h=> .inl h) (hv.any hsc).v rfl
 ·obtain⟨Z2,z1,z2,h1,h2⟩:=hext.h S Z ρ w us h.ws hl hrel;refine(hc.run Z2 w us z2 ?_ h1 h2).mono ?_
  ·obtain⟨w1,g1,g2,g3⟩:=h.ws.g;exact⟨w1,g1,g2,λb hb=>z1 b (g3 b hb)⟩
  ·rintro e w' ⟨v,Z',rfl,hb,hz,hz2,hv⟩;exact hK v w' Z ρ (dL hb) (λ_ h=>h) (λ_ h=> .inl h) (hv.any hsc).v rfl
theorem NL(he:E.Ok){K:AV->Option AO->Prop}(h:Sim E.W S Z ρ st a w)(hk:r6 E o st K):∃v oo,Ag E Z ρ o a w v oo/\K v oo:=by
 unfold r6 at hk;split at hk
 ·rename_i x ho;exact de (qv h (.inl ho) hk)
 ·rename_i x ho;exact de (qv h (.inr ho) hk)
 ·rename_i c x y ho;exact de (CN (K:=λv=>K v none) h ho hk)
 ·rename_i op t x y t2 ho;rcases Fp he h ho hk with h1|h1
  ·exact de h1
  ·obtain⟨v,hk1,hr⟩:=h1.h;obtain⟨u,hu,hrun⟩:=hr S Z ρ a w h;exact de ⟨v,u,hu,hrun,hk1⟩
 ·rename_i op t x ho;exact o8 (JV h ho hk)
 ·rename_i s d x ho;exact o8 (CL he h ho hk)
 ·rename_i t x f ho;exact de (qO he h ho hk)
 ·rename_i t x ho;exact de (CM he h ho hk)
 ·rename_i t ps ho;exact de (zm he h ho hk)
 ·rename_i t n ps ho;obtain⟨i,hi,hk⟩:=bN he hk;split at hk
  ·rename_i e hs;obtain⟨j,hj,hk⟩:=bN he hk;split at hk
   ·exact hk.elim
   ·rename_i s hjs;split at hk
    ·rename_i hle;have hle:=Nat.le_of_ble_eq_true hle;have hjs':j.size=s+1:=hjs;rw[<-hjs']at hk hle;obtain⟨xs,us,hn,h2,h3,h4,h5,hz,hnm,hk⟩:=PI h ho (hi.sl hs) hj hle ac hk;refine⟨_,_,λKont Q hK=>?_,hk⟩;unfold Oper.wp;rw[hz];have hg:=grownBy_alloc w (.cells us.flatten.toArray e) none;have hzs:=h.ws.zsame hg aj;refine hK _ _ (λb=>Z b\/b=w.heap.size) ρ hg (λb hb=> .inl hb) (λb hb=>hb.imp id λe=>⟨ac,by simp[e]⟩) (QS ?_) rfl;have hd:=bR.sl (Z:=λb=>Z b\/b=w.heap.size) (w:=w.alloc (.cells us.flatten.toArray e)) xs (some ⟨w.heap.size,0,none⟩) n j.size us ac hnm h2 h3 h4 (.inr ⟨w.heap.size,0,rfl,.inr rfl,λi u hu=>by
       rw[cell_of_row _ w.heap.size (0+i) _ _ _ (heap_alloc_new w _),Nat.zero_add];simpa using hu⟩) λi k x u p q e1 e2 e3 e4=>(h5 i k x u p q e1 e2 e3 e4).mono (λb hb=> .inl hb) hzs
     rwa[hn]at hd
    ·exact hk.elim
  ·exact hk.elim
 ·rename_i t x ho;obtain⟨vx,hx,hk⟩:=bn h hk;obtain⟨cs,hk,_,hrel⟩:=mM hx hk;refine BF h hrel ?_ hk;simp[execOp,ho,Instr.box,newVar,newRow]
 ·rename_i t ho;obtain⟨i,hi,hk⟩:=bN he hk;obtain⟨cs,hk,_,hrel⟩:=tT hk;refine BF h (hrel Z w ρ) ?_ hk;simp[execOp,ho,Instr.alloc,hi.zr,newVar,newRow]
 ·rename_i t x lo hi ho;exact o8 (zq he h ho hk)
 ·rename_i t x i ho;exact de (qP he h ho hk)
 ·rename_i t x i ho;exact o8 (zo he h ho hk)
 ·rename_i t x f ho;exact de (zn he h ho hk)
 ·rename_i x i ho;exact de (vm (K:=λv=>K v none) h ho hk)
 ·rename_i x ho;obtain⟨vx,hx,hk⟩:=bn h hk;split at hk
  ·have hx':=hx;cases hx with
   |one _ _ hx=>
    obtain⟨b,hb,e⟩:=hx;exact de ⟨_,_,hx',by simp[execOp,ho,e],hk⟩
  ·have hx':=hx;cases hx with
   |one _ _ hx=>
    obtain⟨b,off,us,e,_⟩:=hx;exact de ⟨_,_,hx',by simp[execOp,ho,e],hk⟩
  ·exact hk.elim
 ·rename_i c ho;split at hk
  ·rename_i hb;obtain⟨vs,hl,hv,hk1⟩:=mN h hk;clear hk;split at hk1
   ·rename_i t ts x hts;have hlen:c.args.toList.length=1:=by simpa using hl.symm
    obtain⟨y,hy⟩:=List.length_eq_one_iff.1 hlen;have h0:=hv 0 y x (by rw[hy];rfl) rfl;have ht:c.argTypes[0]? =some t:=by rw[<-Array.getElem?_toList,hts];rfl
    refine o8 (Fq he h (ts:=c.argTypes) h0 ?_ ht hk1);simp only[execOp,ho,resolve,hb,Sem.run_bind,Sem.run_pure,Result.andThen_ok,invoke,my c.args a.eval,hy];simp[builtin]
   ·exact hk1.elim
  ·rename_i fo hf;obtain⟨vf,hvf,hk1⟩:=bn h hk;clear hk;split at hk1
   ·rename_i f first caps
    have ef:=cy hvf;split at hk1
    ·rename_i h1 h2;obtain⟨vs,hl,hv,hk2⟩:=mN h hk1;have e1:first= #[]:=by simpa using h1
     have e2:caps= #[]:=by simpa using h2
     subst e1 e2;refine II h (us:=c.args.toList.map a.eval) (by simp[hl]) (λi x u h3 h4=>?_) ?_ hk2
     ·rw[List.getElem?_map]at h4;obtain⟨y,hy,rfl⟩:=Option.map_eq_some_iff.1 h4;exact hv i y x hy h3
     ·simp only[execOp,ho,resolve,hf,ef,Deferred.ofValue,invoke,Sem.run_bind,Sem.run_pure,Result.andThen_ok,my c.args a.eval];simp
    ·exact hk1.elim
   ·exact hk1.elim
  ·exact hk.elim
 ·obtain⟨v,hk1,hr⟩:=hk.h;obtain⟨u,hu,hrun⟩:=hr S Z ρ a w h;exact de ⟨v,u,hu,hrun,hk1⟩
end
theorem Lt{E:bB}(he:E.Ok){S:bV}{o:Oper}{P:ASt}{v:AV}{oo:Option AO}(h:r6 E o P λv' oo'=>v'=v/\oo'=oo):tL E S o P v oo:=by
 intro Z ρ a w hs Kont Q hK;obtain⟨v',oo',hf,rfl,rfl⟩:=NL he hs h;exact hf Kont Q hK
end
section
open Go.RowKit
def aMk(fl:Nat->Nat):List Oper->List (AV×Option AO)->Nat->List AV->(List AV->List (Nat×AO)->Prop)->Prop
 |[],_,_,tm,K=>K tm []
 |_::_,[],_,_,_=>False
 |o::ops,r::R,j,tm,K=>match fl j with
  |0=>aMk fl ops R (j+1) tm K
  |1=>match o.dst with
   |none=>False
   |some d=>match r with
    |(v,oo)=>nI tm d v λtm=>match oo with
     |none=>aMk fl ops R (j+1) tm K
     |some x=>aMk fl ops R (j+1) tm λtm obs=>K tm ((d,x)::obs)
  |_+2=>match o.dst with
   |none=>False
   |some d=>nI tm d (.one .dead) λtm=>aMk fl ops R (j+1) tm K
def upF(ops:List Oper)(R:List (AV×Option AO))(fl:Nat->Nat)(j:Nat):Option (Nat×AV):=
 match fl j with
 |0=>none
 |1=>some (dAt ops j,vAt R j)
 |_+2=>some (dAt ops j,.one .dead)
theorem tP{fl:Nat->Nat}{opsA:List Oper}{RA:List (AV×Option AO)}:∀(ops:List Oper) (R:List (AV×Option AO)) (j:Nat) (tm:List AV) (K:List AV->List (Nat×AO)->Prop),(∀k,k<ops.length->opsA[j+k]? =ops[k]?)->(∀k,RA[j+k]? =R[k]?)->aMk fl ops R j tm K->
  K (lR tm ((List.range' j ops.length).filterMap (upF opsA RA fl))) ((List.range' j ops.length).filterMap (obF opsA RA λj=>Nat.beq (fl j) 1))
 |[],R,j,tm,K,_,_,h=>h
 |_::_,[],_,_,_,_,_,h=>h.elim
 |o::ops,r::R,j,tm,K,ho,hR,h=>by
  have ho':∀k,k<ops.length->opsA[j+1+k]? =ops[k]? :=λk hk=>by
   have:=ho (k+1) al;rw[show j+1+k=j+(k+1)by omega];simpa using this
  have hR':∀k,RA[j+1+k]? =R[k]? :=λk=>by
   have:=hR (k+1);rw[show j+1+k=j+(k+1)by omega];simpa using this
  have hd:∀d,o.dst=some d->dAt opsA j=d:=λd hd=>by
   have:=ho 0 aj;simp only[Nat.add_zero,List.getElem?_cons_zero]at this;simp[dAt,this,hd]
  have hr:RA[j]? =some r:=by simpa using hR 0
  rw[List.length_cons,List.range'_succ];unfold aMk at h;split at h
  ·rename_i hf;have:=tP ops R (j+1) tm K ho' hR' h;rw[filterMap_cons,filterMap_cons];simpa[upF,obF,hf]using this
  ·rename_i hf;split at h
   ·exact h.elim
   ·rename_i d hdst;obtain⟨v,oo⟩:=r;have hv:vAt RA j=v:=by simp[vAt,List.getD,hr]
    have hoo:oAt RA j=oo:=by simp[oAt,List.getD,hr]
    cases oo with
    |none=>
     have h1:aMk fl ops R (j+1) (tm.set d v) K:=jM (K:=λtm=>aMk fl ops R (j+1) tm K) h;have:=tP ops R (j+1) _ K ho' hR' h1;rw[filterMap_cons,filterMap_cons];simpa[upF,obF,hf,hd d hdst,hv,hoo,lR,Nat.beq]using this
    |some x=>
     have h1:aMk fl ops R (j+1) (tm.set d v) (λtm obs=>K tm ((d,x)::obs)):=jM (K:=λtm=>aMk fl ops R (j+1) tm λtm obs=>K tm ((d,x)::obs)) h;have:=tP ops R (j+1) _ (λtm obs=>K tm ((d,x)::obs)) ho' hR' h1;rw[filterMap_cons,filterMap_cons];simpa[upF,obF,hf,hd d hdst,hv,hoo,lR,Nat.beq]using this
  ·rename_i m hf;split at h
   ·exact h.elim
   ·rename_i d hdst;have h1:=jM (K:=λtm=>aMk fl ops R (j+1) tm K) h;have:=tP ops R (j+1) _ K ho' hR' h1;rw[filterMap_cons,filterMap_cons];simpa[upF,obF,hf,hd d hdst,lR,Nat.beq]using this
def Pf{α:Type}:List α->List α->(List α->Prop)->Prop
 |[],l,K=>K l
 |x::r,l,K=>Pf r l λl'=>K (x::l')
theorem Ao{α:Type}:∀{r l:List α} {K:List α->Prop},Pf r l K->K (r++l)
 |[],_,_,h=>h
 |x::r,l,K,h=>Ao (r:=r) (l:=l) (K:=λl'=>K (x::l')) h
def flP(D:List (List Nat))(i j:Nat):Nat:=
 match inD D j i with
 |true=>1
 |false=>match inD D i j with
  |true=>0
  |false=>match Nat.beq j i with
   |true=>0
   |false=>2
theorem Wi(ops:List Oper)(R:List (AV×Option AO))(D:List (List Nat))(i:Nat):upF ops R (flP D i)=upP ops D R i:=by
 funext j;unfold upF upP flP;cases h1:inD D j i
 ·cases h2:inD D i j
  ·cases h3:Nat.beq j i<;>simp_all
  ·simp_all
 ·simp_all
theorem RV(D:List (List Nat))(i:Nat):(λj=>Nat.beq (flP D i j) 1)=λj=>inD D j i:=by
 funext j;unfold flP;cases h1:inD D j i
 ·cases h2:inD D i j
  ·cases h3:Nat.beq j i<;>rfl
  ·rfl
 ·rfl
def Tw(D:List (List Nat))(pre:List Oper)(R:List (AV×Option AO))(i:Nat)(st:ASt)(K:ASt->Prop):Prop:=
 match st with
 |⟨tm,ob⟩=>aMk (flP D i) pre R 0 tm λtm obs=>Pf obs ob λob=>K ⟨tm,ob⟩
def Gm(pre:List Oper)(R:List (AV×Option AO))(st:ASt)(K:ASt->Prop):Prop:=
 match st with
 |⟨tm,ob⟩=>aMk (λ_=>1) pre R 0 tm λtm obs=>Pf obs ob λob=>K ⟨tm,ob⟩
theorem Kr{ops:List Oper}{n0:Nat}(hle:n0<=ops.length):(ops.take n0).length=n0/\∀k,k<(ops.take n0).length->ops[0+k]? =(ops.take n0)[k]? :=by
 have h:(ops.take n0).length=n0:=al;exact⟨h,λk hk=>by rw[h]at hk;simp[List.getElem?_take,hk]⟩
theorem Nz{D:List (List Nat)}{ops:List Oper}{n0:Nat}{R:List (AV×Option AO)}{i:Nat}{st:ASt}{K:ASt->Prop}(hle:n0<=ops.length)(h:Tw D (ops.take n0) R i st K):K (stP ops D R n0 st i):=by
 obtain⟨h1,h2⟩:=Kr hle;obtain⟨tm,ob⟩:=st;have:=tP (opsA:=ops) (RA:=R) (ops.take n0) R 0 tm _ h2 (λk=>by simp) h;rw[h1,Wi,RV]at this;have:=Ao (K:=λob=>K ⟨_,ob⟩) this;rw[<-List.range_eq_range']at this;exact this
theorem An{ops:List Oper}{n0:Nat}{R:List (AV×Option AO)}{st:ASt}{K:ASt->Prop}(hle:n0<=ops.length)(h:Gm (ops.take n0) R st K):K (stS ops R n0 st λ_=>true):=by
 obtain⟨h1,h2⟩:=Kr hle;obtain⟨tm,ob⟩:=st;have:=tP (opsA:=ops) (RA:=R) (ops.take n0) R 0 tm _ h2 (λk=>by simp) h;rw[h1]at this;have:=Ao (K:=λob=>K ⟨_,ob⟩) this;rw[<-List.range_eq_range']at this;have e:upF ops R (λ_=>1)=upS ops R λ_=>true:=by funext j;rfl
 rw[e]at this;exact this
def nodupB:List Nat->Bool
 |[]=>true
 |x::r=> !r.contains x&&nodupB r
theorem Fk:∀{l:List Nat},nodupB l=true->l.Nodup
 |[],_=>List.nodup_nil
 |x::r,h=>by
  simp only[nodupB,and_eq_true,Bool.not_eq_true']at h;exact nodup_cons.2 ⟨by simpa using h.1,Fk h.2⟩
def Lm(ops:List Oper)(D:List (List Nat))(n0:Nat):Bool:=
 Nat.ble n0 ops.length&&nodupB ((List.range n0).map (dAt ops))&&
 (List.range ops.length).all λi=>match ops[i]? with
  |some o=>((r7 o).all λx=>Nat.blt x i)&&(if i<n0 then o.dst.isSome else(List.range i).all λj=>inD D j i)
  |none=>true
def T3(ops:List Oper)(n0 n:Nat):Bool:=(List.range n0).all λi=>Nat.blt (dAt ops i) n
def noB(ops:List Oper)(D:List (List Nat))(R:List (AV×Option AO))(n0:Nat)(st:ASt):Bool:=
 (List.range n0).all λi=>match oAt R i with
  |none=>true
  |some _=>(bA st.ob (dAt ops i)).isNone&&st.tm.all (vj (dAt ops i))&&(st.ob.all λp=>Fj (dAt ops i) p.2)&&
   (List.range n0).all λj=>inD D i j||Nat.beq j i||(vj (dAt ops i) (vAt R j)&&(match oAt R j with|none=>true|some o=>Fj (dAt ops i) o))
end
section
open Go.RowKit
def oS(lf:Nat->Bool):Nat->Nat
 |0=>0
 |n+1=>oS lf n+(if lf n then 0 else 1)
theorem wH{lf:Nat->Bool}{i:Nat}(hi:lf i=false):∀{n:Nat},oS (λj=>lf j||Nat.beq j i) n<=oS lf n/\(i<n->oS (λj=>lf j||Nat.beq j i) n<oS lf n)
 |0=>⟨Nat.le_refl _,λh=>absurd h (Nat.not_lt_zero _)⟩
 |n+1=>by
  obtain⟨h1,h2⟩:=wH hi (n:=n);simp only[oS];by_cases hin:n=i
  ·subst hin;have:Nat.beq n n=true:=Nat.beq_refl n;simp only[hi,this,Bool.or_true,if_true];exact⟨by simp;omega,λ_=>by simp;omega⟩
  ·have:Nat.beq n i=false:=by
    cases h:Nat.beq n i with
    |false=>rfl
    |true=>exact absurd (eq_of_beq_eq_true h) hin
   simp only[this,Bool.or_false];exact⟨ac,λh=>by have:=h2 ac;omega⟩
theorem ML{lf:Nat->Bool}{m:Nat}(h:∀j,m<=j->lf j=false):∀{n:Nat},n-m<=oS lf n
 |0=>by simp
 |n+1=>by
  have ih:=ML h (n:=n);simp only[oS];by_cases hn:m<=n
  ·rw[h n hn];simp;omega
  ·omega
theorem EH{lf:Nat->Bool}:∀{n:Nat},oS lf n=0->∀j,j<n->lf j=true
 |0,_,j,hj=>absurd hj (Nat.not_lt_zero _)
 |n+1,h,j,hj=>by
  simp only[oS]at h;by_cases hjn:j=n
  ·subst hjn;cases hl:lf j with
   |true=>rfl
   |false=>rw[hl]at h;simp at h
  ·exact EH (n:=n) ac j ac
section
variable {E:bB} {S:bV} {ops:Array Oper} {n0:Nat} {st0:ASt} {R:List (AV×Option AO)} {K:ASt->Prop} {Q:Exit->Act->World->Prop}
theorem dQ{ops:List Oper}{i:Nat}{o:Oper}(h:ops[i]? =some o):gI ops i=r7 o:=by simp[gI,h]
theorem wQ{α β:Type}{f g:α->Option β}:∀{l:List α},(∀j∈l,f j=g j)->l.filterMap f=l.filterMap g
 |[],_=>rfl
 |x::r,h=>by
  rw[filterMap_cons,filterMap_cons,h x aj,wQ λj hj=>h j (by simp[hj])]
theorem FT{ops:List Oper}{R:List (AV×Option AO)}{n0:Nat}{st0:ASt}{l1 l2:Nat->Bool}(h:∀j,j<n0->l1 j=l2 j):stS ops R n0 st0 l1=stS ops R n0 st0 l2:=by
 have e1:(List.range n0).filterMap (upS ops R l1)=(List.range n0).filterMap (upS ops R l2):=wQ λj hj=>by simp[upS,h j (mem_range.1 hj)]
 have e2:(List.range n0).filterMap (obF ops R l1)=(List.range n0).filterMap (obF ops R l2):=wQ λj hj=>by simp[obF,h j (mem_range.1 hj)]
 simp only[stS,e1,e2]
structure uP (ops:List Oper) (D:List (List Nat)) (n0:Nat):Prop where
 hD:xV [] ops=D
 le:n0<=ops.length
 nd:((List.range n0).map (dAt ops)).Nodup
 edge:∀i o,ops[i]? =some o->∀x∈r7 o,x<i
 dst:∀i o,i<n0->ops[i]? =some o->o.dst=some (dAt ops i)
 tail:∀i,n0<=i->i<ops.length->∀j,j<i->inD D j i=true
theorem Iw{ops:List Oper}{D:List (List Nat)}{n0:Nat}(hD:xV [] ops=D)(h:Lm ops D n0=true):uP ops D n0:=by
 simp only[Lm,and_eq_true,all_eq_true]at h;obtain⟨⟨h1,h2⟩,h3⟩:=h;have key:∀i o,ops[i]? =some o->_:=λi o ho=>by
  have hlt:=(List.getElem?_eq_some_iff.1 ho).1;have:=h3 i (mem_range.2 hlt);rw[ho]at this;simp only[and_eq_true,all_eq_true]at this;exact this
 refine⟨hD,Nat.le_of_ble_eq_true h1,Fk h2,λi o ho e he=>?_,λi o hi ho=>?_,λi hi hlt j hj=>?_⟩
 ·exact Nat.le_of_ble_eq_true ((key i o ho).1 e he)
 ·have:=(key i o ho).2;rw[if_pos hi]at this;obtain⟨d,hd⟩:=Option.isSome_iff_exists.1 this;rw[hd];simp[dAt,ho,hd]
 ·have:=(key i ops[i] (List.getElem?_eq_getElem hlt)).2;rw[if_neg ac,all_eq_true]at this;exact this j (mem_range.2 hj)
theorem lA{ops:List Oper}{D:List (List Nat)}{n0:Nat}(T:uP ops D n0){lf:Nat->Bool}(hc:∀j,lf j=true->∀e∈gI ops j,lf e=true){i:Nat}(hi:∀e∈gI ops i,lf e=true){j:Nat}(hj:inD D j i=true):lf j=true:=by
 have:=uV ops (λj=>lf j=true) hc ops [] (λk=>by simp) (λj hj=>absurd hj (Nat.not_lt_zero _)) i hi j;rw[T.hD]at this;refine this ?_;simpa[inD]using hj
def fw(listed:Array Bool)(j:Nat):Bool:=listed.getD j false
theorem pf{listed:Array Bool}{i:Nat}(hi:i<listed.size):fw (listed.setIfInBounds i true)=λj=>fw listed j||Nat.beq j i:=by
 funext j;simp only[fw,Array.getD_eq_getD_getElem?,Array.getElem?_setIfInBounds];by_cases h:i=j
 ·subst h;simp[hi,Nat.beq_refl]
 ·have:Nat.beq j i=false:=by
   cases h':Nat.beq j i with
   |false=>rfl
   |true=>exact absurd (eq_of_beq_eq_true h').symm h
  simp[h,this]
theorem tn{D:List (List Nat)}(T:uP ops.toList D n0){listed:Array Bool}(hs:listed.size=ops.size){i:Nat}:
  i∈Region.ready .any ops listed↔i<ops.size/\fw listed i=false/\∀e∈gI ops.toList i,fw listed e=true:=by
 rw[mem_ready];constructor
 ·rintro⟨h1,o,ho,h2⟩;have hlt:=(Array.getElem?_eq_some_iff.1 ho).1;refine⟨hlt,?_,λe he=>?_⟩
  ·simp only[fw,Array.getD_eq_getD_getElem?]at h1⊢;rw[getElem?_eq_getElem ac]at h1⊢;simpa using h1
  ·rw[dQ (by simpa using ho)]at he;obtain⟨e',he',rfl⟩:=mem_map.1 he;obtain⟨hm,hb⟩:=List.mem_filter.1 he';exact h2 e' (by simpa using hm) hb
 ·rintro⟨hlt,h1,h2⟩;refine⟨?_,ops[i],getElem?_eq_getElem hlt,λe he hb=>?_⟩
  ·simp only[fw,Array.getD_eq_getD_getElem?]at h1⊢;rw[getElem?_eq_getElem ac]at h1⊢;simpa using h1
  ·refine h2 _ ?_;rw[dQ (o:=ops[i]) (by simp[hlt])];exact mem_map.2 ⟨e,List.mem_filter.2 ⟨by simpa using he,hb⟩,rfl⟩
theorem NZ(he:E.Ok){D:List (List Nat)}(T:uP ops.toList D n0)(hQ:∀a w,(∃st',hG E.W S st' a w/\K st')->Q .normal a w):
  ∀(fuel m:Nat) (listed:Array Bool) (st:ASt) (a:Act) (w:World),listed.size=ops.size->n0<=m->(∀j,j<ops.size->fw listed j=decide (j<m))->ops.size-m<=fuel->hG E.W S st a w->DA E S ops.toList (ops.toList.drop m) st K->wpAny E.P .any ops Q fuel listed a w:=by
 intro fuel;induction fuel with
 |zero=>
  intro m listed st a w hs hm hl hf h hk;rw[List.drop_eq_nil_of_le al]at hk;refine⟨?_,hQ a w ⟨st,h,hk⟩⟩;rw[List.eq_nil_iff_forall_not_mem];intro i hi;obtain⟨h1,h2,_⟩:=(tn T hs).1 hi;rw[hl i h1]at h2;simp at h2;omega
 |succ fuel ih=>
  intro m listed st a w hs hm hl hf h hk;have hready:∀i,i∈Region.ready .any ops listed↔i=m/\m<ops.size:=by
   intro i;rw[tn T hs];constructor
   ·rintro⟨h1,h2,h3⟩;rw[hl i h1]at h2;simp at h2;have hc:∀j,fw listed j=true->∀e∈gI ops.toList j,fw listed e=true:=by
     intro j hj e hej;by_cases hjs:j<ops.size
     ·rw[hl j hjs]at hj;rw[dQ (o:=ops[j]) (by simp[hjs])]at hej;have:=T.edge j ops[j] (by simp[hjs]) _ hej;rw[hl _ ac];simp at hj⊢;omega
     ·simp[fw,Array.getD_eq_getD_getElem?,Array.getElem?_eq_none (show listed.size<=j by omega)]at hj
    refine⟨?_,ac⟩;apply Nat.le_antisymm _ h2;apply le_of_not_lt;intro hlt;have:=lA T hc h3 (T.tail i ac (by simpa using h1) m hlt);rw[hl m ac]at this;simp at this
   ·rintro⟨rfl,h1⟩;refine⟨h1,by rw[hl i h1];simp,λe hej=>?_⟩;rw[dQ (o:=ops[i]) (by simp[h1])]at hej;have:=T.edge i ops[i] (by simp[h1]) _ hej;rw[hl _ ac];simpa using this
  refine⟨λhnil=>?_,λi hi=>?_⟩
  ·have:ops.size<=m:=by
    apply le_of_not_lt;intro hlt;have:=(hready m).2 ⟨rfl,hlt⟩;rw[hnil]at this;cases this
   rw[List.drop_eq_nil_of_le (by simpa using this)]at hk;exact hQ a w ⟨st,h,hk⟩
  ·obtain⟨rfl,hlt⟩:=(hready i).1 hi;rw[List.drop_eq_getElem_cons (by simpa using hlt)]at hk;unfold wpOp;rw[getElem?_eq_getElem hlt];have next:∀st' a' w',hG E.W S st' a' w'->DA E S ops.toList (ops.toList.drop (i+1)) st' K->wpAny E.P .any ops Q fuel (listed.setIfInBounds i true) a' w':=by
    intro st' a' w' h' hk';refine ih (i+1) _ st' a' w' (by simpa using hs) ac (λj hj=>?_) ac h' hk';rw[pf ac];simp only[];rw[hl j hj];by_cases hji:j=i
    ·subst hji;simp[Nat.beq_refl]
    ·have:Nat.beq j i=false:=by
      cases h':Nat.beq j i with
      |false=>rfl
      |true=>exact absurd (eq_of_beq_eq_true h') hji
     simp[this];omega
   obtain⟨Z,ρ,h⟩:=h;simp only[Array.getElem_toList]at hk;rcases mO h hk with⟨hw,st',hs',hk⟩|⟨hw,st',hs',hk⟩
   ·simp only[toArray_toList]at hw;simp only[hw,if_true];refine .inl (Oper.wp_mono (λa' w' h'=>?_) (xR he hs' hk Q));obtain⟨st2,h2,hk2⟩:=h';exact next st2 a' w' h2 hk2
   ·simp only[toArray_toList]at hw;simp only[hw,Bool.false_eq_true,if_false];have:=hs'.put ops[i].dst (x:= .one .und) (v:=undef) (.one _ _ (show dW Z w ρ .und undef from rfl));exact next _ _ w ⟨Z,ρ,this⟩ (fW hk)
theorem NX(he:E.Ok){D:List (List Nat)}(T:uP ops.toList D n0)(F:KK E S ops.toList D R n0 st0)(hQ:∀a w,(∃st',hG E.W S st' a w/\K st')->Q .normal a w)
  (ht:Gm (ops.toList.take n0) R st0 λst=>DA E S ops.toList (ops.toList.drop n0) st K):
  ∀(fuel:Nat) (listed:Array Bool) (a:Act) (w:World),listed.size=ops.size->(∀j,n0<=j->fw listed j=false)->(∀j,fw listed j=true->∀e∈gI ops.toList j,fw listed e=true)->oS (fw listed) ops.size<=fuel->
   hG E.W S (stS ops.toList R n0 st0 (fw listed)) a w->wpAny E.P .any ops Q fuel listed a w:=by
 intro fuel;have hle:n0<=ops.toList.length:=T.le;have hle':n0<=ops.size:=by simpa using hle
 induction fuel with
 |zero=>
  intro listed a w hs htl hc hf h;have hall:=EH (Nat.le_zero.1 hf);have hn0:ops.size<=n0:=by
   apply le_of_not_lt;intro hlt;have h1:=hall n0 hlt;rw[htl n0 (Nat.le_refl _)]at h1;cases h1
  refine⟨?_,hQ a w ⟨_,h,?_⟩⟩
  ·rw[List.eq_nil_iff_forall_not_mem];intro i hi;obtain⟨h1,h2,_⟩:=(tn T hs).1 hi;rw[hall i h1]at h2;cases h2
  ·have:=An hle ht;rw[List.drop_eq_nil_of_le (by simpa using hn0)]at this;have e:stS ops.toList R n0 st0 (fw listed)=stS ops.toList R n0 st0 λ_=>true:=FT λj hj=>by rw[hall j ac]
   rw[e];exact this
 |succ fuel ih=>
  intro listed a w hs htl hc hf h;by_cases hall:∀j,j<n0->fw listed j=true
  ·have e:stS ops.toList R n0 st0 (fw listed)=stS ops.toList R n0 st0 λ_=>true:=FT λj hj=>by rw[hall j hj]
   rw[e]at h;have h2:=ML htl (n:=ops.size);refine NZ he T hQ (fuel+1) n0 listed _ a w hs (Nat.le_refl _) (λj hj=>?_) ac h (An hle ht);by_cases hj0:j<n0
   ·rw[hall j hj0];simp[hj0]
   ·rw[htl j ac];simp[hj0]
  ·refine⟨λhnil=>?_,λi hi=>?_⟩
   ·exfalso;apply hall;intro j;induction j using Nat.strongRecOn with
    |ind j ihj=>
     intro hj;cases hlj:fw listed j with
     |true=>rfl
     |false=>
      have:j∈Region.ready .any ops listed:=(tn T hs).2 ⟨ac,hlj,λe hej=>by
       have hjs:j<ops.size:=ac;rw[dQ (o:=ops[j]) (by simp[hjs])]at hej;have:=T.edge j ops[j] (by simp[hjs]) _ hej;exact ihj _ this ac⟩
      rw[hnil]at this;cases this
   ·obtain⟨hlt,hli,haf⟩:=(tn T hs).1 hi;have hi0:i<n0:=by
     apply Nat.lt_of_not_le;intro hge;apply hall;intro j hj;exact lA T hc haf (T.tail i hge (by simpa using hlt) j ac)
    have hDl:∀j,inD D j i=true->fw listed j=true:=λj hj=>lA T hc haf hj;have hAl:∀j,j<n0->inD D i j=true->fw listed j=false:=λj _ hj=>by
     cases hlj:fw listed j with
     |false=>rfl
     |true=>
      have:=lA T hc (hc j hlj) hj;rw[hli]at this;cases this
    have hget:ops.toList[i]? =some ops[i]:=by simp[hlt]
    have hlen:=hs;have step:=NY (Kont:=wpAny E.P .any ops Q fuel (listed.setIfInBounds i true)) (Q:=Q) F hi0 hget hli hDl hAl h λa' w' h'=>by
     have e:=pf (listed:=listed) (i:=i) ac;refine ih _ a' w' (by simpa using hs) (λj hj=>?_) (λj hj e' hej=>?_) ?_ ?_
     ·rw[e];simp only[htl j hj,Bool.false_or];cases hb:Nat.beq j i with
      |false=>rfl
      |true=>have:=eq_of_beq_eq_true hb;omega
     ·rw[e]at hj⊢;simp only[or_eq_true]at hj⊢;rcases hj with hj|hj
      ·exact .inl (hc j hj e' hej)
      ·rw[eq_of_beq_eq_true hj]at hej;exact .inl (haf e' hej)
     ·rw[e];have:=(wH hli (n:=ops.size)).2 hlt;omega
     ·rw[e];exact h'
    simp only[toArray_toList]at step;unfold wpOp;rw[getElem?_eq_getElem hlt];simp only;split
    ·rename_i hw;exact .inl (step.1 hw)
    ·rename_i hw;exact step.2 (by simpa using hw)
theorem RM{D:List (List Nat)}{ops:List Oper}(T:uP ops D n0)(hl:T3 ops n0 st0.tm.length=true)(hno:noB ops D R n0 st0=true):DBase ops D R n0 st0:=by
 simp only[T3,all_eq_true]at hl;simp only[noB,all_eq_true]at hno;have hno':∀i,i<n0->∀o,oAt R i=some o->_:=λi hi o ho=>by
  have:=hno i (mem_range.2 hi);rw[ho]at this;simp only[and_eq_true,all_eq_true]at this;exact this
 refine⟨T.le,T.nd,T.dst,λj hj=>Nat.le_of_ble_eq_true (hl j (mem_range.2 hj)),λj hj hne=>?_,λi hi hne=>?_,λi j hi hj hne hd hji=>?_⟩
 ·obtain⟨o,ho⟩:=Option.ne_none_iff_exists'.1 hne;have:=(hno' j hj o ho).1.1.1;simpa using this
 ·obtain⟨o,ho⟩:=Option.ne_none_iff_exists'.1 hne;have:=hno' i hi o ho;exact⟨this.1.1.2,this.1.2⟩
 ·obtain⟨o,ho⟩:=Option.ne_none_iff_exists'.1 hne;have:=(hno' i hi o ho).2 j (mem_range.2 hj);simp only[hd,Bool.false_or,or_eq_true,and_eq_true]at this;rcases this with this|⟨h1,h2⟩
  ·exact absurd (eq_of_beq_eq_true this) hji
  ·refine⟨h1,λo' ho'=>?_⟩;rw[ho']at h2;exact h2
end
def TR(E:bB)(S:bV)(c:Code)(K:Exit->ASt->Prop):Nat->ASt->Prop
 |0,_=>False
 | n + 1, st => AWP E S c (fun e st' => match e with
  | .normal=>TR E S c K n st'
  |e=>K e st') st
theorem YP{E:bB}{S:bV}{c:Code}{K:Exit->ASt->Prop}{st:ASt}(n:Nat)(h:TR E S c K n st):AWP E S (.loop c) K st:=by
 refine⟨λa w hs=>wp_loop_rounds n ?_⟩;have key:∀n st a w,TR E S c K n st->hG E.W S st a w->Code.rounds E.P c (λe a' w'=>∃st',hG E.W S st' a' w'/\K e st') n a w:=by
  intro n;induction n with
  |zero=>intro st a w h _;exact h.elim
  |succ n ih=>
   intro st a w h hs;refine wp_mono ((show AWP E S c _ st from h).run a w hs) λe a' w' h'=>?_;obtain⟨st',hs',hk⟩:=h';cases e with
   |normal=>exact ih st' a' w' hk hs'
   |_=>exact⟨st',hs',hk⟩
 exact key n st a w h hs
end
end Go.Proofs.YtknefkdcokgpbaaGreat
