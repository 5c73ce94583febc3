/- AvJ3 -/
import Derived.Test.YtlmoekpinpafeaaGreatAvJ2
import Derived.LoopN
import Derived.Test.YtlmoekpinpafeaaGreatNum
import Derived.Test.YtlmoekpinpafeaaGreatRows
import Derived.WalkKit
import Derived.ProofKit
import Derived.OpenShut
import Derived.Below
import Derived.ChangeSame
import Derived.Carry
import Derived.Deep.Slices
import Derived.ChangeArms
import Derived.Laws.BytesArg
import Derived.Laws.BytesString
import Derived.Maps.OwnSet
set_option maxHeartbeats 8000000
set_option linter.unusedVariables false
set_option linter.unusedSimpArgs false
set_option maxRecDepth 100000
open List (all_eq_true filterMap_cons find?_cons map_cons mem_cons mem_filterMap mem_map mem_range nodup_cons)
open Nat (eq_of_beq_eq_true le_of_not_lt)
open Bool (and_eq_true or_eq_true)
open Array (getElem?_eq_getElem toArray_toList)
namespace Go.Proofs.YtlmoekpinpafeaaGreat
section
section
open Go.RowKit
abbrev dI(n:Int):AD:= .pv (.int .i64 n)
abbrev dB(b:Bool):AD:= .pv (.bool b)
abbrev rB(b:Bool):AP:= .val (.one (dB b))
abbrev rI(n:Int):AP:= .val (.one (dI n))
abbrev pI(n:Int):AP1:= .one (dI n)
def eI(n:Int):List AD:=[dI n]
abbrev dIs(l:List Int):AD:= .sl (l.map eI)
theorem mH{n:Int}(h0: -9223372036854775808<=n)(h1:n<=9223372036854775807):IntKind.i64.wrap n=n:=by rw[IntKind.wrap_i64];omega
theorem Tz{n:Int}{K:Int->Prop}(h0: -9223372036854775808<=n)(h1:n<=9223372036854775807)(h:K n):AW .i64 n K:=⟨_,mH h0 h1,h⟩
theorem Wh{k:IntKind}{n:Int}{K:Int->Prop}(m:Int)(e:k.wrap n=m)(h:K m):AW k n K:=⟨m,e,h⟩
theorem TJ{α:Type}{enc:α->List AD}{l:List α}{k:Nat}{K:Nat->List AD->Prop}(hk:k<l.length)(h:K k (enc l[k])):AIx (l.map enc) (k:Int) K:=
 ⟨k,enc l[k],rfl,by simp[hk],h⟩
theorem AIx.int{α:Type}{enc:α->List AD}{l:List α}{n:Int}{K:Nat->List AD->Prop}(h0:0<=n)(hk:n.toNat<l.length)(h:K n.toNat (enc l[n.toNat])):AIx (l.map enc) n K:=
 ⟨n.toNat,enc l[n.toNat],ac,by simp[hk],h⟩
theorem Ty{xs:List (List AD)}{n:Int}{K:Nat->List AD->Prop}(k:Nat)(x:List AD)(hn:n=(k:Int))(hx:xs[k]? =some x)(h:K k x):AIx xs n K:=⟨k,x,hn,hx,h⟩
def Fp:List AV->List (Nat×AV)->(List AV->Prop)->Prop
 |tm,[],K=>K tm
 |tm,(i,v)::r,K=>mn tm i v λtm=>Fp tm r K
def DJ:List AV->List Nat->(List AV->Prop)->Prop
 |tm,[],K=>K tm
 |tm,i::r,K=>mn tm i (.one .dead) λtm=>DJ tm r K
def Ci(tm:List AV)(ws:List Nat)(sl:List (Nat×AV))(K:List AV->Prop):Prop:=DJ tm ws λtm=>Fp tm sl K
def iA(tm:List AV)(sl:List (Nat×AV)):List AV:=sl.foldl (λtm p=>tm.set p.1 p.2) tm
def D1(tm:List AV)(ws:List Nat):List AV:=ws.foldl (λtm i=>tm.set i (.one .dead)) tm
theorem Cx:∀{sl:List (Nat×AV)} {tm:List AV} {K:List AV->Prop},Fp tm sl K->K (iA tm sl)
 |[],_,_,h=>h
 |(i,v)::r,tm,K,h=>Cx (sl:=r) (tm:=tm.set i v) (iR (K:=λtm=>Fp tm r K) h)
theorem y9:∀{ws:List Nat} {tm:List AV} {K:List AV->Prop},DJ tm ws K->K (D1 tm ws)
 |[],_,_,h=>h
 |i::r,tm,K,h=>y9 (ws:=r) (tm:=tm.set i (.one .dead)) (iR (K:=λtm=>DJ tm r K) h)
theorem nn{tm:List AV}{ws:List Nat}{sl:List (Nat×AV)}{K:List AV->Prop}(h:Ci tm ws sl K):K (iA (D1 tm ws) sl):=Cx (y9 (K:=λtm=>Fp tm sl K) h)
def DT:List AV->List AV->Prop
 |[],[]=>True
 |_::l,.one .dead::m=>DT l m
 |x::l,y::m=>x=y/\DT l m
 |_,_=>False
theorem qY:∀{l m:List AV},DT l m->oF l m
 |[],[],_=> .nil
 |x::l,y::m,h=>by
  unfold DT at h;split at h
  ·cases ‹_=[]›
  ·rename_i e1 e2;injection e1 with a1 a2
   injection e2 with b1 b2
   subst a1 a2 b1 b2;exact .cons (.dead _) (qY h)
  ·rename_i e1 e2;injection e1 with a1 a2
   injection e2 with b1 b2
   subst a1 a2 b1 b2;obtain⟨rfl,h⟩:=h;exact .cons (.refl _) (qY h)
  ·exact h.elim
 |[],_::_,h=>by unfold DT at h;exact h.elim
 |_::_,[],h=>by unfold DT at h;exact h.elim
section
variable {E:a6} {S:bj} {K:Exit->ASt->Prop}
structure aW {α:Type} (R:α->Prop) (μ:α->Nat) (x:α) (tm:List AV) (ws:List Nat) (sl:α->List (Nat×AV)) (ob':α->List (Nat×AO)) (st':ASt):Prop where
 h:∃y,R y/\μ y<μ x/\(Ci tm ws (sl y) λtm'=>DT st'.tm tm')/\aK st'.ob (ob' y)
def QH{α:Type}(R:α->Prop)(μ:α->Nat)(x:α)(tm:List AV)(ws:List Nat)(sl:α->List (Nat×AV))(ob':α->List (Nat×AO))(K:Exit->ASt->Prop):Exit->ASt->Prop
 | .normal,st'=>aW R μ x tm ws sl ob' st'
 |e,st'=>K e st'
theorem TE{α:Type}(R:α->Prop)(ws:List Nat)(sl:α->List (Nat×AV))(ob':α->List (Nat×AO))(μ:α->Nat)(x0:α){c:Code}{tm:List AV}{ob:List (Nat×AO)}(h0:R x0)
  (hsub:Ci tm ws (sl x0) λtm'=>DT tm tm') (hob:aK ob (ob' x0))
  (round:∀x,R x->Ci tm ws (sl x) λtm'=>AWP E S c (QH R μ x tm ws sl ob' K) ⟨tm',ob' x⟩):AWP E S (.loop c) K ⟨tm,ob⟩:=by
 refine AWP.loop R (λx=>⟨iA (D1 tm ws) (sl x),ob' x⟩) μ x0 h0 (qY (nn hsub)) hob λx hx=>?_;have h:=nn (round x hx);refine⟨λa w hs=>wp_mono (h.run a w hs) λe a' w' h'=>?_⟩;obtain⟨st',hs',hk⟩:=h';refine⟨st',hs',?_⟩;cases e with
 |normal=>
  obtain⟨y,hy,hlt,h1,h2⟩:=(show aW R μ x tm ws sl ob' st' from hk).h;exact⟨y,hy,hlt,qY (nn h1),h2⟩
 |_=>exact hk
end
theorem ari{p:Prop}(h:p:=by simp only[decide_eq_true_eq,decide_eq_false_iff_not,List.length_map,Bool.not_eq_true',Bool.not_eq_false']at*;omega):p:=h
theorem rr{p:Prop}(h:p:=by first|exact trivial|with_reducible_and_instances rfl|exact(rfl:AP.tup _=AP.tup _)):p:=h
theorem whd{p:Prop}(h:p:=by repeat'(first|exact trivial|(refine⟨rfl,?_⟩;conv=>whnf)|fail)):p:=h
theorem hds{p:Prop}(h:p:=by(conv=>whnf);exact whd):p:=h
end
section
open Go.RowKit
def DV(l:List Nat):List Nat->List Nat
 |[]=>l
 |x::r=>DV (if l.contains x then l else x::l) r
def oK(o:Oper):List Nat:=(o.after.toList.filter (Region.binds .any)).map (·.on)
def D2(D:List (List Nat)):List Nat->List Nat->List Nat
 |[],acc=>acc
 |e::r,acc=>D2 D r (DV (DV acc [e]) (D.getD e []))
def mQ:List (List Nat)->List Oper->List (List Nat)
 |D,[]=>D
 |D,o::r=>mQ (D++[D2 D (oK o) []]) r
theorem uM{x:Nat}:∀{r l:List Nat},x∈DV l r->x∈l\/x∈r
 |[],l,h=> .inl h
 |y::r,l,h=>by
  rcases uM (r:=r) h with h|h
  ·split at h
   ·exact .inl h
   ·rcases mem_cons.1 h with rfl|h
    ·exact .inr ai
    ·exact .inl h
  ·exact .inr (by simp[h])
theorem Am{D:List (List Nat)}{x:Nat}:∀{es acc:List Nat},x∈D2 D es acc->x∈acc\/∃e∈es,x=e\/x∈D.getD e []
 |[],acc,h=> .inl h
 |e::r,acc,h=>by
  rcases Am (es:=r) h with h|⟨e',he,h⟩
  ·rcases uM h with h|h
   ·rcases uM h with h|h
    ·exact .inl h
    ·exact .inr ⟨e,by simp,.inl (by simpa using h)⟩
   ·exact .inr ⟨e,by simp,.inr h⟩
  ·exact .inr ⟨e',by simp[he],h⟩
def dO(ops:List Oper)(i:Nat):List Nat:=match ops[i]? with|some o=>oK o|none=>[]
theorem mR(ops:List Oper)(T:Nat->Prop)(hT:∀j,T j->∀e∈dO ops j,T e):∀(rest:List Oper) (D:List (List Nat)),(∀k,ops[D.length+k]? =rest[k]?)->
  (∀j,j<D.length->(∀e∈dO ops j,T e)->∀x∈D.getD j [],T x)->∀j,(∀e∈dO ops j,T e)->∀x∈(mQ D rest).getD j [],T x
 |[],D,_,hD,j,hj,x,hx=>by
  by_cases h:j<D.length
  ·exact hD j h hj x hx
  ·simp[mQ,List.getD,List.getElem?_eq_none (le_of_not_lt h)]at hx
 |o::r,D,ho,hD,j,hj,x,hx=>by
  refine mR ops T hT r (D++[D2 D (oK o) []]) (λk=>?_) (λi hi hai y hy=>?_) j hj x hx
  ·have:=ho (k+1);simpa[Nat.add_assoc,Nat.add_comm 1 k]using this
  ·by_cases h:i<D.length
   ·refine hD i h hai y ?_;simpa[List.getD,List.getElem?_append_left h]using hy
   ·have hi':i=D.length:=by simp at hi;omega
    subst hi';simp[List.getD]at hy;rcases Am hy with h0|⟨e,he,h0⟩
    ·cases h0
    ·have hae:dO ops D.length=oK o:=by
      have:=ho 0;simp only[Nat.add_zero,List.getElem?_cons_zero]at this;simp[dO,this]
     have hTe:T e:=hai e (by rw[hae];exact he);rcases h0 with rfl|h0
     ·exact hTe
     ·by_cases hel:e<D.length
      ·exact hD e hel (λe' he'=>hT e hTe e' he') y (by simpa[List.getD]using h0)
      ·simp[List.getElem?_eq_none (le_of_not_lt hel)]at h0
theorem oq:∀(ups:List (Nat×AV)) (tm:List AV),(ups.map (·.1)).Nodup->(iA tm ups).length=tm.length/\∀s:Nat,(iA tm ups)[s]? =match ups.find? (λp=>p.1==s)with
  |some p=>if s<tm.length then some p.2 else none
  |none=>tm[s]?
 |[],tm,_=>⟨rfl,λs=>rfl⟩
 |(i,v)::r,tm,hn=>by
  obtain⟨hi,hr⟩:=nodup_cons.1 (by rw[map_cons]at hn;exact hn);obtain⟨h1,h2⟩:=oq r (tm.set i v) hr;refine⟨by simpa[iA]using h1,λs=>?_⟩;have e:iA tm ((i,v)::r)=iA (tm.set i v) r:=rfl;rw[e,h2 s];by_cases his:i=s
  ·subst his;have hf:r.find? (λp=>p.1==i)=none:=by
    rw[List.find?_eq_none];intro p hp;simp only[beq_iff_eq];rintro rfl;exact hi (mem_map.2 ⟨p,hp,rfl⟩)
   simp only[hf,find?_cons,beq_self_eq_true];rw[List.getElem?_set,if_pos rfl]
  ·have hb:((i,v).1==s)=false:=by simp[his]
   simp only[find?_cons,hb];cases r.find? (λp=>p.1==s)with
   |some p=>simp
   |none=>simp[List.getElem?_set_ne his]
theorem Bg{ups:List (Nat×AV)}{tm:List AV}(hn:(ups.map (·.1)).Nodup){s:Nat}{v:AV}(h:(s,v)∈ups)(hs:s<tm.length):(iA tm ups)[s]? =some v:=by
 rw[(oq ups tm hn).2 s];have:ups.find? (λp=>p.1==s)=some (s,v):=by
  induction ups with
  |nil=>cases h
  |cons p r ih=>
   obtain⟨hi,hr⟩:=nodup_cons.1 (by rw[map_cons]at hn;exact hn);rw[find?_cons];rcases mem_cons.1 h with h|h
   ·subst h;simp
   ·have hb:(p.1==s)=false:=by
     simp only[beq_eq_false_iff_ne];rintro rfl;exact hi (mem_map.2 ⟨_,h,rfl⟩)
    rw[hb];exact ih hr h
 rw[this];simp[hs]
theorem xn{ups:List (Nat×AV)}{tm:List AV}(hn:(ups.map (·.1)).Nodup){s:Nat}(h:∀p∈ups,p.1≠s):(iA tm ups)[s]? =tm[s]? :=by
 rw[(oq ups tm hn).2 s];have:ups.find? (λp=>p.1==s)=none:=by
  rw[List.find?_eq_none];intro p hp;simpa using h p hp
 rw[this]
theorem T3:∀{l m:List AV},l.length=m.length->(∀(s:Nat) x y,l[s]? =some x->m[s]? =some y->MU x y)->oF l m
 |[],[],_,_=> .nil
 |x::l,y::m,hl,h=> .cons (h 0 x y rfl rfl) (T3 (by simpa using hl) λs u v hu hv=>h (s+1) u v (by simpa using hu) (by simpa using hv))
 |[],_::_,hl,_=>by simp at hl
 |_::_,[],hl,_=>by simp at hl
section
variable (ops:List Oper) (D:List (List Nat)) (R:List (AV×Option AO)) (n0:Nat)
def dAt(j:Nat):Nat:=match ops[j]? with|some o=>o.dst.getD 0|none=>0
def vAt(j:Nat):AV:=(R.getD j (.one .dead,none)).1
def oAt(j:Nat):Option AO:=(R.getD j (.one .dead,none)).2
def inD(i j:Nat):Bool:=(D.getD j []).contains i
def upS(listed:Nat->Bool)(j:Nat):Option (Nat×AV):=if listed j then some (dAt ops j,vAt R j)else none
def upP(i j:Nat):Option (Nat×AV):=if inD D j i then some (dAt ops j,vAt R j)else if inD D i j||Nat.beq j i then none else some (dAt ops j,.one .dead)
def obF(listed:Nat->Bool)(j:Nat):Option (Nat×AO):=if listed j then(oAt R j).map λo=>(dAt ops j,o)else none
def stS(st0:ASt)(listed:Nat->Bool):ASt:=⟨iA st0.tm ((List.range n0).filterMap (upS ops R listed)),(List.range n0).filterMap (obF ops R listed)++st0.ob⟩
def stP(st0:ASt)(i:Nat):ASt:=⟨iA st0.tm ((List.range n0).filterMap (upP ops D R i)),(List.range n0).filterMap (obF ops R λj=>inD D j i)++st0.ob⟩
end
theorem ir{α:Type}{d:Nat->Nat}{f:Nat->Option (Nat×α)}(hf:∀j p,f j=some p->p.1=d j):∀{l:List Nat},(l.map d).Nodup->((l.filterMap f).map (·.1)).Nodup
 |[],_=>List.nodup_nil
 |j::r,h=>by
  obtain⟨hi,hr⟩:=nodup_cons.1 (by rw[map_cons]at h;exact h);rw[filterMap_cons];split
  ·exact ir hf hr
  ·rename_i p hp;rw[map_cons,nodup_cons];refine⟨λhm=>hi ?_,ir hf hr⟩;obtain⟨q,hq,e⟩:=mem_map.1 hm;obtain⟨k,hk,hfk⟩:=mem_filterMap.1 hq;rw[hf j p hp,hf k q hfk]at e;exact mem_map.2 ⟨k,hk,e⟩
theorem Km{d:Nat->Nat}{n j k:Nat}(h:((List.range n).map d).Nodup)(hj:j<n)(hk:k<n)(e:d j=d k):j=k:=by
 have h1:((List.range n).map d)[j]? =some (d j):=by simp[hj]
 have h2:((List.range n).map d)[k]? =some (d j):=by simp[hk,e]
 exact(List.getElem?_inj (by simpa using hj) h).1 (h1.trans h2.symm)
theorem Gl{l m:List (Nat×AO)}{id:Nat}:a5 (l++m) id=match a5 l id with|some o=>some o|none=>a5 m id:=by
 induction l with
 |nil=>rfl
 |cons p r ih=>
  obtain⟨k,o⟩:=p;simp only[List.cons_append,a5];split
  ·rfl
  ·exact ih
theorem OV{d:Nat->Nat}{f:Nat->Option (Nat×AO)}(hf:∀j p,f j=some p->p.1=d j){n:Nat}(hd:((List.range n).map d).Nodup){id:Nat}{o:AO}:a5 ((List.range n).filterMap f) id=some o↔∃j,j<n/\f j=some (id,o):=by
 have key:∀l:List Nat,(∀j∈l,j<n)->l.Nodup->(a5 (l.filterMap f) id=some o↔∃j∈l,f j=some (id,o)):=by
  intro l;induction l with
  |nil=>intro _ _;simp[a5]
  |cons j r ih=>
   intro hl hn;obtain⟨hjr,hnr⟩:=nodup_cons.1 hn;have ih':=ih (λk hk=>hl k (by simp[hk])) hnr;rw[filterMap_cons];split
   ·rename_i hj;rw[ih'];constructor
    ·rintro⟨k,hk,e⟩;exact⟨k,by simp[hk],e⟩
    ·rintro⟨k,hk,e⟩;rcases mem_cons.1 hk with rfl|hk
     ·rw[hj]at e;cases e
     ·exact⟨k,hk,e⟩
   ·rename_i p hj;obtain⟨k0,o0⟩:=p;simp only[a5];have hk0:=hf j _ hj;simp only at hk0;by_cases hid:k0=id
    ·rw[if_pos hid];constructor
     ·intro e;injection e with e;subst e hid;exact⟨j,by simp,hj⟩
     ·rintro⟨k,hk,e⟩;rcases mem_cons.1 hk with rfl|hk
      ·rw[hj]at e;injection e with e;injection e with _ e;rw[e]
      ·have h1:=hf k _ e;simp only at h1;have:j=k:=Km hd (hl j ai) (hl k (by simp[hk])) (by rw[<-hk0,<-h1,hid]);subst this;exact absurd hk hjr
    ·rw[if_neg hid,ih'];constructor
     ·rintro⟨k,hk,e⟩;exact⟨k,by simp[hk],e⟩
     ·rintro⟨k,hk,e⟩;rcases mem_cons.1 hk with rfl|hk
      ·rw[hj]at e;injection e with e;injection e with e _;exact absurd e hid
      ·exact⟨k,hk,e⟩
 rw[key _ (λj hj=>mem_range.1 hj) List.nodup_range];simp[mem_range]
def ud(id:Nat):AV->Bool
 | .one c=>pY id c
 | .agg cs=>cs.all (pY id)
 | .tup _=>false
def CV(id:Nat):AO->Bool
 | .cells _ cs=>cs.all (pY id)
 | .row _ _ _=>true
 | .frame vs _=>vs.all (ud id)
 | .any _=>true
 | .many _ _=>true
theorem pn{id:Nat}{c:AC}(h:pY id c=true):iu id c=c:=by
 cases c with
 |own i=>simp only[pY,Bool.not_eq_true']at h;simp only[iu];rw[if_neg (Nat.ne_of_beq_eq_false h)]
 |ref i k s off=>simp only[pY,Bool.not_eq_true']at h;simp only[iu];rw[if_neg (Nat.ne_of_beq_eq_false h)]
 |_=>rfl
theorem xV{id:Nat}{cs:List AC}(h:cs.all (pY id)=true):cs.map (iu id)=cs:=by
 induction cs with
 |nil=>rfl
 |cons c r ih=>
  simp only[List.all_cons,and_eq_true]at h;rw[map_cons,pn h.1,ih h.2]
theorem lR{id:Nat}{x:AV}(h:ud id x=true):lO id x=x:=by
 cases x with
 |one c=>simp only[lO];rw[pn h]
 |agg cs=>simp only[lO];rw[xV h]
 |tup vs=>cases h
theorem pp{id:Nat}{o:AO}(h:CV id o=true):mu id o=o:=by
 cases o with
 |cells t cs=>simp only[mu];rw[xV h]
 |row e s xs=>rfl
 |frame vs us=>
  have:vs.map (lO id)=vs:=by
   have h':vs.all (ud id)=true:=h;clear h;induction vs with
   |nil=>rfl
   |cons x r ih=>
    simp only[List.all_cons,and_eq_true]at h';rw[map_cons,lR h'.1,ih h'.2]
  simp only[mu];rw[this]
 |any Q=>rfl
 |many P Q=>rfl
def mi(E:a6)(S:bj)(o:Oper)(P:ASt)(v:AV)(oo:Option AO):Prop:=
 ∀Z ρ a w,Sim E.W S Z ρ P a w->∀(Kont:Act->World->Prop) Q,
  (∀ v' w' Z' ρ', w.grownBy w' none → (∀ b, Z b → Z' b) → (∀ b, Z' b → Z b ∨ (w.heap.size ≤ b ∧ b < w'.heap.size)) → bv Z' w' ρ' v v' →
   (match oo with
    |none=>ρ'=ρ
    |some ob=>∃d,o.dst=some d/\ρ'=(λi=>if i=d then v' else ρ i)/\(∀b,br v'=some b->w.heap.size<=b)/\cu Z' w' ρ' d ob/\Z'=Z)->Kont (a.put o.dst v') w')->Oper.wp E.P o a w Kont Q
section
variable {E:a6} {S:bj} {ops:List Oper} {R:List (AV×Option AO)} {n0:Nat} {st0:ASt}
theorem Fa{listed:Nat->Bool}(j:Nat)(p:Nat×AV)(h:upS ops R listed j=some p):p.1=dAt ops j:=by unfold upS at h;split at h<;>first|(injection h with h;subst h;rfl)|cases h
theorem pQ{D:List (List Nat)}{i:Nat}(j:Nat)(p:Nat×AV)(h:upP ops D R i j=some p):p.1=dAt ops j:=by
 unfold upP at h;split at h
 ·injection h with h;subst h;rfl
 ·split at h
  ·cases h
  ·injection h with h;subst h;rfl
theorem OU{listed:Nat->Bool}(j:Nat)(p:Nat×AO)(h:obF ops R listed j=some p):p.1=dAt ops j:=by
 unfold obF at h;split at h
 ·obtain⟨o,_,rfl⟩:=Option.map_eq_some_iff.1 h;rfl
 ·cases h
theorem pL(hd:((List.range n0).map (dAt ops)).Nodup){listed:Nat->Bool}{j:Nat}(hj:j<n0)(hl:listed j=true)(hs:dAt ops j<st0.tm.length):(stS ops R n0 st0 listed).tm[dAt ops j]? =some (vAt R j):=
 Bg (ir Fa hd) (mem_filterMap.2 ⟨j,mem_range.2 hj,by simp[upS,hl]⟩) hs
theorem Bu(hd:((List.range n0).map (dAt ops)).Nodup){listed:Nat->Bool}{s:Nat}(h:∀j,j<n0->listed j=true->dAt ops j≠s):(stS ops R n0 st0 listed).tm[s]? =st0.tm[s]? :=by
 refine xn (ir Fa hd) λp hp=>?_;obtain⟨j,hj,hf⟩:=mem_filterMap.1 hp;unfold upS at hf;split at hf
 ·rename_i hl;injection hf with hf
  subst hf;exact h j (mem_range.1 hj) hl
 ·cases hf
theorem pM(hd:((List.range n0).map (dAt ops)).Nodup){listed:Nat->Bool}:(stS ops R n0 st0 listed).tm.length=st0.tm.length:=(oq _ _ (ir Fa hd)).1
theorem me(hd:((List.range n0).map (dAt ops)).Nodup){listed:Nat->Bool}{id:Nat}{o:AO}:a5 (stS ops R n0 st0 listed).ob id=some o↔(∃j,j<n0/\listed j=true/\dAt ops j=id/\oAt R j=some o)\/((∀j,j<n0->listed j=true->dAt ops j=id->oAt R j=none)/\a5 st0.ob id=some o):=by
 have h0:∀o,a5 ((List.range n0).filterMap (obF ops R listed)) id=some o↔∃j,j<n0/\listed j=true/\dAt ops j=id/\oAt R j=some o:=by
  intro o;rw[OV OU hd];constructor
  ·rintro⟨j,hj,hf⟩;unfold obF at hf;split at hf
   ·rename_i hl;obtain⟨o',ho',e⟩:=Option.map_eq_some_iff.1 hf;injection e with e1 e2
    exact⟨j,hj,hl,e1,e2▸ho'⟩
   ·cases hf
  ·rintro⟨j,hj,hl,e,ho⟩;exact⟨j,hj,by simp[obF,hl,ho,e]⟩
 show a5 (_++_) id=some o↔_;rw[Gl];cases hg:a5 ((List.range n0).filterMap (obF ops R listed)) id with
 |some o'=>
  obtain⟨j,hj,hl,e,ho⟩:=(h0 o').1 hg;simp only;constructor
  ·intro e';injection e' with e';subst e';exact .inl ⟨j,hj,hl,e,ho⟩
  ·rintro(h|⟨h,_⟩)
   ·have:=(h0 o).2 h;rw[hg]at this;exact this
   ·have:=h j hj hl e;rw[ho]at this;cases this
 |none=>
  simp only;constructor
  ·intro e';refine .inr ⟨λj hj hl e=>?_,e'⟩;cases ho:oAt R j with
   |none=>rfl
   |some o'=>have:=(h0 o').2 ⟨j,hj,hl,e,ho⟩;rw[hg]at this;cases this
  ·rintro(h|⟨_,h⟩)
   ·have:=(h0 o).2 h;rw[hg]at this;cases this
   ·exact h
end
end
section
open Go.RowKit
section
variable {E:a6} {S:bj} {ops:List Oper} {D:List (List Nat)} {R:List (AV×Option AO)} {n0:Nat} {st0:ASt}
theorem P4(hd:((List.range n0).map (dAt ops)).Nodup){i j:Nat}(hj:j<n0)(hs:dAt ops j<st0.tm.length):
  (stP ops D R n0 st0 i).tm[dAt ops j]? =if inD D j i then some (vAt R j)else if inD D i j||Nat.beq j i then st0.tm[dAt ops j]? else some (.one .dead):=by
 by_cases h1:inD D j i=true
 ·rw[if_pos h1];exact Bg (ir pQ hd) (mem_filterMap.2 ⟨j,mem_range.2 hj,by simp[upP,h1]⟩) hs
 ·rw[if_neg h1];by_cases h2:(inD D i j||Nat.beq j i)=true
  ·rw[if_pos h2];refine xn (ir pQ hd) λp hp e=>?_;obtain⟨k,hk,hf⟩:=mem_filterMap.1 hp;have e2:=pQ k p hf;have:k=j:=Km hd (mem_range.1 hk) hj (by rw[<-e2,e]);subst this;unfold upP at hf;rw[if_neg h1,if_pos h2]at hf;cases hf
  ·rw[if_neg h2];exact Bg (ir pQ hd) (mem_filterMap.2 ⟨j,mem_range.2 hj,by unfold upP;rw[if_neg h1,if_neg h2]⟩) hs
theorem P5(hd:((List.range n0).map (dAt ops)).Nodup){i s:Nat}(h:∀j,j<n0->dAt ops j≠s):(stP ops D R n0 st0 i).tm[s]? =st0.tm[s]? :=by
 refine xn (ir pQ hd) λp hp=>?_;obtain⟨j,hj,hf⟩:=mem_filterMap.1 hp;rw[pQ j p hf];exact h j (mem_range.1 hj)
theorem KZ(hd:((List.range n0).map (dAt ops)).Nodup)(hlen:∀j,j<n0->dAt ops j<st0.tm.length)(hob:∀j,j<n0->oAt R j≠none->a5 st0.ob (dAt ops j)=none){listed:Nat->Bool}{i:Nat}
  (hli:listed i=false) (hD:∀j,j<n0->inD D j i=true->listed j=true) (hA:∀j,j<n0->inD D i j=true->listed j=false):
  oF (stS ops R n0 st0 listed).tm (stP ops D R n0 st0 i).tm/\aK (stS ops R n0 st0 listed).ob (stP ops D R n0 st0 i).ob:=by
 constructor
 ·refine T3 (by rw[pM hd];exact(oq _ _ (ir pQ hd)).1.symm) λs x y hx hy=>?_;by_cases hs:∃j,j<n0/\dAt ops j=s
  ·obtain⟨j,hj,rfl⟩:=hs;rw[P4 hd hj (hlen j hj)]at hy;have un:listed j=false->(stS ops R n0 st0 listed).tm[dAt ops j]? =st0.tm[dAt ops j]? :=λhl=>Bu hd λk hk hkl e=>by
    have:=Km hd hk hj e;subst this;rw[hl]at hkl;cases hkl
   split at hy
   ·rename_i h1;rw[pL hd hj (hD j hj h1) (hlen j hj)]at hx;injection hx with hx
    injection hy with hy
    rw[<-hx,<-hy];exact .refl _
   ·split at hy
    ·rename_i h1 h2;have hl:listed j=false:=by
      simp only[or_eq_true]at h2;rcases h2 with h2|h2
      ·exact hA j hj h2
      ·rw[eq_of_beq_eq_true h2];exact hli
     rw[un hl,hy]at hx;injection hx with hx
     rw[hx];exact .refl _
    ·injection hy with hy
     subst hy;exact .dead _
  ·have h:∀j,j<n0->dAt ops j≠s:=λj hj e=>hs ⟨j,hj,e⟩;rw[Bu hd λj hj _=>h j hj]at hx;rw[P5 hd h,hx]at hy;injection hy with hy
   rw[hy];exact .refl _
 ·intro id o ho;have e:(stP ops D R n0 st0 i).ob=(stS ops R n0 st0 λj=>inD D j i).ob:=rfl;rw[e,me hd]at ho;rw[me hd];rcases ho with⟨j,hj,h1,h2,h3⟩|⟨h1,h2⟩
  ·exact .inl ⟨j,hj,hD j hj h1,h2,h3⟩
  ·refine .inr ⟨λj hj hl e=>?_,h2⟩;cases ho:oAt R j with
   |none=>rfl
   |some o'=>
    have:=hob j hj (by rw[ho];simp);rw[e,h2]at this;cases this
structure DBase (ops:List Oper) (D:List (List Nat)) (R:List (AV×Option AO)) (n0:Nat) (st0:ASt):Prop where
 le:n0<=ops.length
 nd:((List.range n0).map (dAt ops)).Nodup
 dst:∀i o,i<n0->ops[i]? =some o->o.dst=some (dAt ops i)
 len:∀j,j<n0->dAt ops j<st0.tm.length
 ob:∀j,j<n0->oAt R j≠none->a5 st0.ob (dAt ops j)=none
 noV:∀i,i<n0->oAt R i≠none->(∀x∈st0.tm,ud (dAt ops i) x=true)/\∀p∈st0.ob,CV (dAt ops i) p.2=true
 noR:∀i j,i<n0->j<n0->oAt R i≠none->inD D i j=false->j≠i->ud (dAt ops i) (vAt R j)=true/\∀o,oAt R j=some o->CV (dAt ops i) o=true
def gH(E:a6)(S:bj)(D:List (List Nat))(R:List (AV×Option AO))(n0:Nat)(P:ASt)(i:Nat)(o:Oper):Prop:=match o.guard with
  |none=>mi E S o P (vAt R i) (oAt R i)
  |some (g,want)=>g<n0/\inD D g i=true/\((∃p,vAt R g=vB p/\((p=want/\mi E S o P (vAt R i) (oAt R i))\/(p≠want/\vAt R i= .one .und/\oAt R i=none)))\/(vAt R g= .one .und/\vAt R i= .one .und/\oAt R i=none))
structure wL (E:a6) (S:bj) (ops:List Oper) (D:List (List Nat)) (R:List (AV×Option AO)) (n0:Nat) (st0:ASt):Prop extends DBase ops D R n0 st0 where
 out:∀i o,i<n0->ops[i]? =some o->gH E S D R n0 (stP ops D R n0 st0 i) i o
theorem bR{l:List (Nat×AO)}{id:Nat}{o:AO}(h:a5 l id=some o):(id,o)∈l:=by
 induction l with
 |nil=>cases h
 |cons p r ih=>
  obtain⟨k,x⟩:=p;simp only[a5]at h;split at h
  ·rename_i e;injection h with h;subst e h;simp
  ·exact List.mem_cons_of_mem _ (ih h)
theorem zY(F:DBase ops D R n0 st0){listed:Nat->Bool}{i:Nat}{o:Oper}(hi:i<n0)(ho:ops[i]? =some o)(hA:∀j,j<n0->inD D i j=true->listed j=false)(hli:listed i=false)
  {Z Z':Nat->Prop} {ρ ρ':Nat->Value} {a:Act} {w w':World} {v':Value} (hs:Sim E.W S Z ρ (stS ops R n0 st0 listed) a w)
  (hg:w.grownBy w' none) (hz:∀b,Z b->Z' b) (hz2:∀b,Z' b->Z b\/(w.heap.size<=b/\b<w'.heap.size)) (hv:bv Z' w' ρ' (vAt R i) v')
  (hoo : match oAt R i with
    |none=>ρ'=ρ
    |some ob=>∃d,o.dst=some d/\ρ'=(λi=>if i=d then v' else ρ i)/\(∀b,br v'=some b->w.heap.size<=b)/\cu Z' w' ρ' d ob/\Z'=Z):
  dS E.W S (stS ops R n0 st0 λj=>listed j||Nat.beq j i) (a.put o.dst v') w':=by
 have hdst:=F.dst i o hi ho;have hnd:=F.nd;have slot:∀s,s≠dAt ops i->(stS ops R n0 st0 λj=>listed j||Nat.beq j i).tm[s]? =(stS ops R n0 st0 listed).tm[s]? :=by
  intro s hne;by_cases hex:∃j,j<n0/\listed j=true/\dAt ops j=s
  ·obtain⟨j,hj,hl,rfl⟩:=hex;rw[pL hnd hj (by simp[hl]) (F.len j hj),pL hnd hj hl (F.len j hj)]
  ·rw[Bu hnd λj hj hl e=>?_,Bu hnd λj hj hl e=>hex ⟨j,hj,hl,e⟩];simp only[or_eq_true]at hl;rcases hl with hl|hl
   ·exact hex ⟨j,hj,hl,e⟩
   ·exact hne (by rw[<-e,eq_of_beq_eq_true hl])
 have slotI:(stS ops R n0 st0 λj=>listed j||Nat.beq j i).tm[dAt ops i]? =some (vAt R i):=pL hnd hi ai (F.len i hi);cases ho':oAt R i with
 |none=>
  rw[ho']at hoo;have hoo:ρ'=ρ:=hoo;subst hoo;have h1:=(hs.grow hg hz hz2).put o.dst hv;refine⟨Z',ρ',h1.sub (T3 ?_ λs x y hx hy=>?_) λid ob hob=>?_⟩
  ·rw[hdst];simp[GB,pM hnd]
  ·rw[hdst]at hx;simp only[GB,List.getElem?_set]at hx;by_cases hsd:dAt ops i=s
   ·subst hsd;rw[slotI]at hy;rw[if_pos rfl,pM hnd,if_pos (F.len i hi)]at hx;injection hx with hx
    injection hy with hy
    rw[<-hx,<-hy];exact .refl _
   ·rw[if_neg hsd]at hx;rw[slot s (λe=>hsd e.symm),hx]at hy;injection hy with hy
    rw[hy];exact .refl _
  ·rw[me hnd]at hob;show a5 (stS ops R n0 st0 listed).ob id=some ob;rw[me hnd];rcases hob with⟨j,hj,hl,e,h⟩|⟨h,hb⟩
   ·simp only[or_eq_true]at hl;rcases hl with hl|hl
    ·exact .inl ⟨j,hj,hl,e,h⟩
    ·rw[eq_of_beq_eq_true hl,ho']at h;cases h
   ·exact .inr ⟨λj hj hl e=>h j hj (by simp[hl]) e,hb⟩
 |some ob=>
  rw[ho']at hoo;obtain⟨d,hd,hρ,hb,hrel,hZ⟩:=hoo;rw[hdst]at hd;injection hd with hd
  subst hd hZ hρ;have hne:oAt R i≠none:=by rw[ho'];simp
  have h1:=(hs.renew (dAt ops i) v' ob hg ai (λb hbb=> .inr (hb b hbb)) hrel).put o.dst hv;have noS:∀(s:Nat) x,(stS ops R n0 st0 listed).tm[s]? =some x->lO (dAt ops i) x=x:=by
   intro s x hx;by_cases hex:∃j,j<n0/\listed j=true/\dAt ops j=s
   ·obtain⟨j,hj,hl,rfl⟩:=hex;rw[pL hnd hj hl (F.len j hj)]at hx;injection hx with hx
    subst hx;have hij:inD D i j=false:=by
     cases h:inD D i j with
     |false=>rfl
     |true=>have:=hA j hj h;rw[hl]at this;cases this
    exact lR (F.noR i j hi hj hne hij (λe=>by subst e;rw[hli]at hl;cases hl)).1
   ·rw[Bu hnd λj hj hl e=>hex ⟨j,hj,hl,e⟩]at hx;exact lR ((F.noV i hi hne).1 x (List.mem_of_getElem? hx))
  have noO:∀id o',a5 (stS ops R n0 st0 listed).ob id=some o'->mu (dAt ops i) o'=o':=by
   intro id o' h;rw[me hnd]at h;rcases h with⟨j,hj,hl,e,h⟩|⟨_,h⟩
   ·have hij:inD D i j=false:=by
     cases h:inD D i j with
     |false=>rfl
     |true=>have:=hA j hj h;rw[hl]at this;cases this
    exact pp ((F.noR i j hi hj hne hij (λe=>by subst e;rw[hli]at hl;cases hl)).2 o' h)
   ·exact pp ((F.noV i hi hne).2 (id,o') (bR h))
  refine⟨Z',_,h1.sub (T3 ?_ λs x y hx hy=>?_) λid o' hob=>?_⟩
  ·rw[hdst];simp[GB,iH,pM hnd]
  ·rw[hdst]at hx;simp only[GB,List.getElem?_set]at hx;by_cases hsd:dAt ops i=s
   ·subst hsd;rw[slotI]at hy;rw[if_pos rfl]at hx;simp only[iH,List.length_map,pM hnd,if_pos (F.len i hi)]at hx;injection hx with hx
    injection hy with hy
    rw[<-hx,<-hy];exact .refl _
   ·rw[if_neg hsd]at hx;simp only[iH,List.getElem?_map]at hx;obtain⟨x0,hx0,rfl⟩:=Option.map_eq_some_iff.1 hx;rw[slot s (λe=>hsd e.symm),hx0]at hy;injection hy with hy
    rw[noS s x0 hx0,hy];exact .refl _
  ·show a5 (fg (iH (dAt ops i) (stS ops R n0 st0 listed)).ob (dAt ops i) ob) id=some o';rw[bH];rw[me hnd]at hob;by_cases hid:dAt ops i=id
   ·rw[if_pos hid];rcases hob with⟨j,hj,hl,e,h⟩|⟨h,_⟩
    ·have:j=i:=Km hnd hj hi (by rw[e,hid]);subst this;rw[ho']at h;exact h
    ·have:=h i hi ai hid;rw[ho']at this;cases this
   ·rw[if_neg hid];have hold:a5 (stS ops R n0 st0 listed).ob id=some o':=by
     rw[me hnd];rcases hob with⟨j,hj,hl,e,h⟩|⟨h,hb⟩
     ·simp only[or_eq_true]at hl;rcases hl with hl|hl
      ·exact .inl ⟨j,hj,hl,e,h⟩
      ·exact absurd (by rw[<-e,eq_of_beq_eq_true hl]) hid
     ·exact .inr ⟨λj hj hl e=>h j hj (by simp[hl]) e,hb⟩
    simp only[iH,pt,hold,Option.map_some];rw[noO id o' hold]
theorem zZ(F:DBase ops D R n0 st0){listed:Nat->Bool}{i:Nat}{o:Oper}(hi:i<n0)(ho:ops[i]? =some o)(hli:listed i=false)(hD:∀j,inD D j i=true->listed j=true)(hA:∀j,j<n0->inD D i j=true->listed j=false)
  {P:ASt} (hsub:oF (stS ops R n0 st0 listed).tm P.tm/\aK (stS ops R n0 st0 listed).ob P.ob) (hout:gH E S D R n0 P i o)
  {a:Act} {w:World} (hs:dS E.W S (stS ops R n0 st0 listed) a w) {Kont:Act->World->Prop} {Q:Exit->Act->World->Prop} (hK:∀a' w',dS E.W S (stS ops R n0 st0 λj=>listed j||Nat.beq j i) a' w'->Kont a' w'):
  (Region.wanted o (yielded ops.toArray a.tmps)=true->o.wp E.P a w Kont Q)/\(Region.wanted o (yielded ops.toArray a.tmps)=false->Kont (a.put o.dst undef) w):=by
 obtain⟨Z,ρ,hs⟩:=hs;have run:mi E S o P (vAt R i) (oAt R i)->o.wp E.P a w Kont Q:=λhf=>
  hf Z ρ a w (hs.sub hsub.1 hsub.2) Kont Q λv' w' Z' ρ' h1 h2 h3 h4 h5=>hK _ _ (zY F hi ho hA hli hs h1 h2 h3 h4 h5)
 unfold gH at hout;cases hg:o.guard with
 |none=>
  rw[hg]at hout;exact⟨λ_=>run hout,λh=>by simp[Region.wanted,hg]at h⟩
 |some gw=>
  obtain⟨g,want⟩:=gw;rw[hg]at hout;obtain⟨hgn,hgi,hcase⟩:=hout;have hgl:listed g=true:=hD g hgi;rcases hcase with hcase|⟨hp,hv,hoo⟩
  case inr=>
   have hy:yielded ops.toArray a.tmps g=none:=by
    have hx:=pL (R:=R) (st0:=st0) F.nd hgn hgl (F.len g hgn);obtain⟨og,hog⟩:∃og,ops[g]? =some og:=by
     have:=F.le;exact⟨ops[g],List.getElem?_eq_getElem ac⟩
    have hdg:=F.dst g og hgn hog;have hlt:dAt ops g<a.tmps.size:=by rw[hs.len,pM F.nd];exact F.len g hgn
    have hrel:=hs.tm _ _ _ hx (getElem?_eq_getElem hlt);rw[hp]at hrel;cases hrel with
    |one _ _ hrel=>
     have e:a.tmps[dAt ops g]=undef:=hrel;simp[yielded,hog,hdg,getElem?_eq_getElem hlt,e,undef]
   have hw:Region.wanted o (yielded ops.toArray a.tmps)=false:=by simp[Region.wanted,hg,hy]
   refine⟨λh=>(by rw[hw]at h;cases h),λ_=>hK _ _ ?_⟩;refine zY F hi ho hA hli hs (World.grownBy.refl w _) (λ_ h=>h) (λ_ h=> .inl h) (ρ':=ρ) ?_ ?_
   ·rw[hv];exact .one _ _ (show dZ Z w ρ .und undef from rfl)
   ·rw[hoo]
  obtain⟨p,hp,hcase⟩:=hcase;have hy:yielded ops.toArray a.tmps g=some p:=by
   have hx:=pL (R:=R) (st0:=st0) F.nd hgn hgl (F.len g hgn);obtain⟨og,hog⟩:∃og,ops[g]? =some og:=by
    have:=F.le;exact⟨ops[g],List.getElem?_eq_getElem ac⟩
   have hdg:=F.dst g og hgn hog;have hlt:dAt ops g<a.tmps.size:=by rw[hs.len,pM F.nd];exact F.len g hgn
   have hrel:=hs.tm _ _ _ hx (getElem?_eq_getElem hlt);rw[hp]at hrel;have:=bE hrel;simp[yielded,hog,hdg,hlt,this]
  have hw:Region.wanted o (yielded ops.toArray a.tmps)=(p==want):=by simp[Region.wanted,hg,hy]
  rcases hcase with⟨hpw,hf⟩|⟨hpw,hv,hoo⟩
  ·exact⟨λ_=>run hf,λh=>by rw[hw,hpw]at h;simp at h⟩
  ·refine⟨λh=>by rw[hw]at h;exact absurd (by simpa using h) hpw,λ_=>hK _ _ ?_⟩;refine zY F hi ho hA hli hs (World.grownBy.refl w _) (λ_ h=>h) (λ_ h=> .inl h) (ρ':=ρ) ?_ ?_
   ·rw[hv];exact .one _ _ (show dZ Z w ρ .und undef from rfl)
   ·rw[hoo]
theorem CH(F:wL E S ops D R n0 st0){listed:Nat->Bool}{i:Nat}{o:Oper}(hi:i<n0)(ho:ops[i]? =some o)(hli:listed i=false)(hD:∀j,inD D j i=true->listed j=true)(hA:∀j,j<n0->inD D i j=true->listed j=false)
  {a:Act} {w:World} (hs:dS E.W S (stS ops R n0 st0 listed) a w) {Kont:Act->World->Prop} {Q:Exit->Act->World->Prop} (hK:∀a' w',dS E.W S (stS ops R n0 st0 λj=>listed j||Nat.beq j i) a' w'->Kont a' w'):
  (Region.wanted o (yielded ops.toArray a.tmps)=true->o.wp E.P a w Kont Q)/\(Region.wanted o (yielded ops.toArray a.tmps)=false->Kont (a.put o.dst undef) w):=
 zZ F.toDBase hi ho hli hD hA (KZ (D:=D) F.nd F.len F.ob hli (λj _ h=>hD j h) hA) (F.out i o hi ho) hs hK
end
end
section
open Go.RowKit
section
variable {E:a6} {S:bj} {Z:Nat->Prop} {ρ:Nat->Value} {st:ASt} {a:Act} {w:World} {o:Oper}
def yX(E:a6)(Z:Nat->Prop)(ρ:Nat->Value)(o:Oper)(a:Act)(w:World)(v:AV)(oo:Option AO):Prop:=
 ∀(Kont:Act->World->Prop) Q,
  (∀ v' w' Z' ρ', w.grownBy w' none → (∀ b, Z b → Z' b) → (∀ b, Z' b → Z b ∨ (w.heap.size ≤ b ∧ b < w'.heap.size)) → bv Z' w' ρ' v v' →
   (match oo with
    |none=>ρ'=ρ
    |some ob=>∃d,o.dst=some d/\ρ'=(λi=>if i=d then v' else ρ i)/\(∀b,br v'=some b->w.heap.size<=b)/\cu Z' w' ρ' d ob/\Z'=Z)->Kont (a.put o.dst v') w')->Oper.wp E.P o a w Kont Q
theorem cA{K:AV->Option AO->Prop}(h:io E Z ρ o a w λv=>K v none):∃v oo,yX E Z ρ o a w v oo/\K v oo:=by
 obtain⟨x,v,hx,hr,hk⟩:=h;refine⟨x,none,λKont Q hK=>?_,hk⟩;unfold Oper.wp;rw[hr];exact hK v w Z ρ (World.grownBy.refl w _) (λ_ h=>h) (λ_ h=> .inl h) hx rfl
theorem nO{K:AV->Option AO->Prop}(h:io E Z ρ o a w (λv=>K v none)\/False):∃v oo,yX E Z ρ o a w v oo/\K v oo:=by
 rcases h with h|h
 ·exact cA h
 ·exact h.elim
theorem Ar{id:Nat}:∀{cs:List AC},Et id cs=true->cs.all (pY id)=true
 |[],_=>rfl
 |c::r,h=>by
  simp only[Et]at h;split at h
  ·rename_i hc;simp[hc,Ar h]
  ·cases h
theorem z6{K:AV->Option AO->Prop}(h:Sim E.W S Z ρ st a w){t:TypeId}{cs:List AC}{v:Value}(hrel:yZ Z w ρ cs v.cells.toList)
  (hr:(execOp a.eval o).run E.P w= .ok (.value (.pointer (some ⟨w.heap.size,0,none⟩))) (w.alloc (.cells v.cells t))) (hk:Fc o.dst t cs K):∃x oo,yX E Z ρ o a w x oo/\K x oo:=by
 unfold Fc at hk;split at hk
 ·rename_i d hd;split at hk
  ·rename_i hno;have hno:=Ar hno;refine⟨_,_,λKont Q hK=>?_,hk⟩;unfold Oper.wp;rw[hr];have hg:=gf w (.cells v.cells t) none;have hz:=h.ws.zsame hg ai;refine hK _ _ Z (λi=>if i=d then .pointer (some ⟨w.heap.size,0,none⟩)else ρ i) hg (λ_ h=>h) (λ_ h=> .inl h) (oa (id:=d) (k:=0) (s:=0) (off:=0) (b:=w.heap.size) (by simp[br]) ai) ⟨d,hd,rfl,λb hb=>by simp[br]at hb;omega,?_,rfl⟩;refine⟨w.heap.size,v.cells.toList,by simp,by rw[toArray_toList];exact heap_alloc_new w _,hrel.1,λi c u h1 h2=>?_⟩;have hc:iu d c=c:=pn (all_eq_true.1 hno c (List.mem_of_getElem? h1));have:=lw (id:=d) (y:= .pointer (some ⟨w.heap.size,0,none⟩)) ((hrel.2 i c u h1 h2).mono (λ_ h=>h) hz);rwa[hc]at this
  ·exact hk.elim
 ·exact hk.elim
theorem FK{K:AV->Option AO->Prop}(h:Sim E.W S Z ρ st a w){f:FuncId}{args:List AV}{us:List Value}(hl:us.length=args.length)(hrel:∀(i:Nat) x u,args[i]? =some x->us[i]? =some u->bv Z w ρ x u)
  (hr:(execOp a.eval o).run E.P w=(callFunc f us.toArray).run E.P w) (hk:aH E st.ob f args λr=>K r none):∃x oo,yX E Z ρ o a w x oo/\K x oo:=by
 obtain⟨ps,res,hc,hargs,hk⟩:=hk.h;refine⟨_,_,λKont Q hK=>?_,hk⟩;unfold Oper.wp;rw[hr,hc.enter];rcases hargs with hps|⟨hps,hsc⟩|⟨hext,hsc⟩
 ·have hws0:WS E.W S Z w ρ []:=h.ws.sub Tx;obtain⟨ps',h1,h2,rfl⟩:=g8 (st:=⟨[],[]⟩) hws0 hl hrel (DR hps);refine(hc.run Z w us h.ws.zlt h.ws.g h1 λi p u h3 h4=>?_).mono ?_
  ·have:=h2 i p u h3 h4;have hz:∀b,g6 Z ρ [] b->Z b:=by rintro b (hb|⟨id,o,ho,_⟩);exact hb;cases ho
   cases p with
   |one d=>exact bK.mono hz (λ_ _=>rfl) this
   |agg ds=>obtain⟨us,e,hl,hr⟩:=this;exact⟨us,e,hl,λi d u h5 h6=>(hr i d u h5 h6).mono hz λ_ _=>rfl⟩
  ·rintro e w' ⟨v,Z',rfl,hb,hz,hz2,hv⟩;exact hK v w' Z' ρ (eJ hb) hz hz2 hv.v rfl
 ·obtain⟨ps',h1,h2,rfl⟩:=g8 h.ws hl hrel hps;refine(hc.run (g6 Z ρ st.ob) w us (g6.lt h.ws) ?_ h1 h2).mono ?_
  ·obtain⟨w1,g1,g2,g3⟩:=h.ws.g;exact⟨w1,g1,g2,λb hb=> .inl (g3 b hb)⟩
  ·rintro e w' ⟨v,Z',rfl,hb,hz,hz2,hv⟩;exact hK v w' Z ρ (eJ hb) (λ_ h=>h) (λ_ h=> .inl h) (hv.any hsc).v rfl
 ·obtain⟨Z2,z1,z2,h1,h2⟩:=hext.h S Z ρ w us h.ws hl hrel;refine(hc.run Z2 w us z2 ?_ h1 h2).mono ?_
  ·obtain⟨w1,g1,g2,g3⟩:=h.ws.g;exact⟨w1,g1,g2,λb hb=>z1 b (g3 b hb)⟩
  ·rintro e w' ⟨v,Z',rfl,hb,hz,hz2,hv⟩;exact hK v w' Z ρ (eJ hb) (λ_ h=>h) (λ_ h=> .inl h) (hv.any hsc).v rfl
theorem Lq(he:E.Ok){K:AV->Option AO->Prop}(h:Sim E.W S Z ρ st a w)(hk:kB E o st K):∃v oo,yX E Z ρ o a w v oo/\K v oo:=by
 unfold kB at hk;split at hk
 ·rename_i x ho;exact cA (px h (.inl ho) hk)
 ·rename_i x ho;exact cA (px h (.inr ho) hk)
 ·rename_i c x y ho;exact cA (AI (K:=λv=>K v none) h ho hk)
 ·rename_i op t x y t2 ho;rcases C3 he h ho hk with h1|h1
  ·exact cA h1
  ·obtain⟨v,hk1,hr⟩:=h1.h;obtain⟨u,hu,hrun⟩:=hr S Z ρ a w h;exact cA ⟨v,u,hu,hrun,hk1⟩
 ·rename_i op t x ho;exact nO (GC h ho hk)
 ·rename_i s d x ho;exact nO (AG he h ho hk)
 ·rename_i t x f ho;exact cA (pZ he h ho hk)
 ·rename_i t x ho;exact cA (AH he h ho hk)
 ·rename_i t ps ho;exact cA (xX he h ho hk)
 ·rename_i t n ps ho;obtain⟨i,hi,hk⟩:=be he hk;split at hk
  ·rename_i e hs;obtain⟨j,hj,hk⟩:=be he hk;split at hk
   ·exact hk.elim
   ·rename_i s hjs;split at hk
    ·rename_i hle;have hle:=Nat.le_of_ble_eq_true hle;have hjs':j.size=s+1:=hjs;rw[<-hjs']at hk hle;obtain⟨xs,us,hn,h2,h3,h4,h5,hz,hnm,hk⟩:=Ne h ho (hi.sl hs) hj hle ac hk;refine⟨_,_,λKont Q hK=>?_,hk⟩;unfold Oper.wp;rw[hz];have hg:=gf w (.cells us.flatten.toArray e) none;have hzs:=h.ws.zsame hg ai;refine hK _ _ (λb=>Z b\/b=w.heap.size) ρ hg (λb hb=> .inl hb) (λb hb=>hb.imp id λe=>⟨ac,by simp[e]⟩) (NT ?_) rfl;have hd:=bK.sl (Z:=λb=>Z b\/b=w.heap.size) (w:=w.alloc (.cells us.flatten.toArray e)) xs (some ⟨w.heap.size,0,none⟩) n j.size us ac hnm h2 h3 h4 (.inr ⟨w.heap.size,0,rfl,.inr rfl,λi u hu=>by
       rw[cell_of_row _ w.heap.size (0+i) _ _ _ (heap_alloc_new w _),Nat.zero_add];simpa using hu⟩) λi k x u p q e1 e2 e3 e4=>(h5 i k x u p q e1 e2 e3 e4).mono (λb hb=> .inl hb) hzs
     rwa[hn]at hd
    ·exact hk.elim
  ·exact hk.elim
 ·rename_i t x ho;obtain⟨vx,hx,hk⟩:=a7 h hk;obtain⟨cs,hk,_,hrel⟩:=lE hx hk;refine z6 h hrel ?_ hk;simp[execOp,ho,Instr.box,newVar,newRow]
 ·rename_i t ho;obtain⟨i,hi,hk⟩:=be he hk;obtain⟨cs,hk,_,hrel⟩:=tg hk;refine z6 h (hrel Z w ρ) ?_ hk;simp[execOp,ho,Instr.alloc,hi.zr,newVar,newRow]
 ·rename_i t x lo hi ho;exact nO (x5 he h ho hk)
 ·rename_i t x i ho;exact cA (p5 he h ho hk)
 ·rename_i t x i ho;exact nO (xZ he h ho hk)
 ·rename_i t x f ho;exact cA (xY he h ho hk)
 ·rename_i x i ho;exact cA (ug (K:=λv=>K v none) h ho hk)
 ·rename_i x ho;obtain⟨vx,hx,hk⟩:=a7 h hk;split at hk
  ·have hx':=hx;cases hx with
   |one _ _ hx=>
    obtain⟨b,hb,e⟩:=hx;exact cA ⟨_,_,hx',by simp[execOp,ho,e],hk⟩
  ·have hx':=hx;cases hx with
   |one _ _ hx=>
    obtain⟨b,off,us,e,_⟩:=hx;exact cA ⟨_,_,hx',by simp[execOp,ho,e],hk⟩
  ·exact hk.elim
 ·rename_i c ho;split at hk
  ·rename_i hb;obtain⟨vs,hl,hv,hk1⟩:=qS h hk;clear hk;split at hk1
   ·rename_i t ts x hts;have hlen:c.args.toList.length=1:=by simpa using hl.symm
    obtain⟨y,hy⟩:=List.length_eq_one_iff.1 hlen;have h0:=hv 0 y x (by rw[hy];rfl) rfl;have ht:c.argTypes[0]? =some t:=by rw[<-Array.getElem?_toList,hts];rfl
    refine nO (C4 he h (ts:=c.argTypes) h0 ?_ ht hk1);simp only[execOp,ho,resolve,hb,Sem.run_bind,Sem.run_pure,Result.andThen_ok,invoke,tj c.args a.eval,hy];simp[builtin]
   ·exact hk1.elim
  ·rename_i fo hf;obtain⟨vf,hvf,hk1⟩:=a7 h hk;clear hk;split at hk1
   ·rename_i f first caps
    have ef:=bE hvf;split at hk1
    ·rename_i h1 h2;obtain⟨vs,hl,hv,hk2⟩:=qS h hk1;have e1:first= #[]:=by simpa using h1
     have e2:caps= #[]:=by simpa using h2
     subst e1 e2;refine FK h (us:=c.args.toList.map a.eval) (by simp[hl]) (λi x u h3 h4=>?_) ?_ hk2
     ·rw[List.getElem?_map]at h4;obtain⟨y,hy,rfl⟩:=Option.map_eq_some_iff.1 h4;exact hv i y x hy h3
     ·simp only[execOp,ho,resolve,hf,ef,Deferred.ofValue,invoke,Sem.run_bind,Sem.run_pure,Result.andThen_ok,tj c.args a.eval];simp
    ·exact hk1.elim
   ·exact hk1.elim
  ·exact hk.elim
 ·obtain⟨v,hk1,hr⟩:=hk.h;obtain⟨u,hu,hrun⟩:=hr S Z ρ a w h;exact cA ⟨v,u,hu,hrun,hk1⟩
end
theorem z7{E:a6}(he:E.Ok){S:bj}{o:Oper}{P:ASt}{v:AV}{oo:Option AO}(h:kB E o P λv' oo'=>v'=v/\oo'=oo):mi E S o P v oo:=by
 intro Z ρ a w hs Kont Q hK;obtain⟨v',oo',hf,rfl,rfl⟩:=Lq he hs h;exact hf Kont Q hK
end
section
open Go.RowKit
def aMk(fl:Nat->Nat):List Oper->List (AV×Option AO)->Nat->List AV->(List AV->List (Nat×AO)->Prop)->Prop
 |[],_,_,tm,K=>K tm []
 |_::_,[],_,_,_=>False
 |o::ops,r::R,j,tm,K=>match fl j with
  |0=>aMk fl ops R (j+1) tm K
  |1=>match o.dst with
   |none=>False
   |some d=>match r with
    |(v,oo)=>mn tm d v λtm=>match oo with
     |none=>aMk fl ops R (j+1) tm K
     |some x=>aMk fl ops R (j+1) tm λtm obs=>K tm ((d,x)::obs)
  |_+2=>match o.dst with
   |none=>False
   |some d=>mn tm d (.one .dead) λtm=>aMk fl ops R (j+1) tm K
def upF(ops:List Oper)(R:List (AV×Option AO))(fl:Nat->Nat)(j:Nat):Option (Nat×AV):=
 match fl j with
 |0=>none
 |1=>some (dAt ops j,vAt R j)
 |_+2=>some (dAt ops j,.one .dead)
theorem te{fl:Nat->Nat}{opsA:List Oper}{RA:List (AV×Option AO)}:∀(ops:List Oper) (R:List (AV×Option AO)) (j:Nat) (tm:List AV) (K:List AV->List (Nat×AO)->Prop),(∀k,k<ops.length->opsA[j+k]? =ops[k]?)->(∀k,RA[j+k]? =R[k]?)->aMk fl ops R j tm K->
  K (iA tm ((List.range' j ops.length).filterMap (upF opsA RA fl))) ((List.range' j ops.length).filterMap (obF opsA RA λj=>Nat.beq (fl j) 1))
 |[],R,j,tm,K,_,_,h=>h
 |_::_,[],_,_,_,_,_,h=>h.elim
 |o::ops,r::R,j,tm,K,ho,hR,h=>by
  have ho':∀k,k<ops.length->opsA[j+1+k]? =ops[k]? :=λk hk=>by
   have:=ho (k+1) al;rw[show j+1+k=j+(k+1)by omega];simpa using this
  have hR':∀k,RA[j+1+k]? =R[k]? :=λk=>by
   have:=hR (k+1);rw[show j+1+k=j+(k+1)by omega];simpa using this
  have hd:∀d,o.dst=some d->dAt opsA j=d:=λd hd=>by
   have:=ho 0 ai;simp only[Nat.add_zero,List.getElem?_cons_zero]at this;simp[dAt,this,hd]
  have hr:RA[j]? =some r:=by simpa using hR 0
  rw[List.length_cons,List.range'_succ];unfold aMk at h;split at h
  ·rename_i hf;have:=te ops R (j+1) tm K ho' hR' h;rw[filterMap_cons,filterMap_cons];simpa[upF,obF,hf]using this
  ·rename_i hf;split at h
   ·exact h.elim
   ·rename_i d hdst;obtain⟨v,oo⟩:=r;have hv:vAt RA j=v:=by simp[vAt,List.getD,hr]
    have hoo:oAt RA j=oo:=by simp[oAt,List.getD,hr]
    cases oo with
    |none=>
     have h1:aMk fl ops R (j+1) (tm.set d v) K:=iR (K:=λtm=>aMk fl ops R (j+1) tm K) h;have:=te ops R (j+1) _ K ho' hR' h1;rw[filterMap_cons,filterMap_cons];simpa[upF,obF,hf,hd d hdst,hv,hoo,iA,Nat.beq]using this
    |some x=>
     have h1:aMk fl ops R (j+1) (tm.set d v) (λtm obs=>K tm ((d,x)::obs)):=iR (K:=λtm=>aMk fl ops R (j+1) tm λtm obs=>K tm ((d,x)::obs)) h;have:=te ops R (j+1) _ (λtm obs=>K tm ((d,x)::obs)) ho' hR' h1;rw[filterMap_cons,filterMap_cons];simpa[upF,obF,hf,hd d hdst,hv,hoo,iA,Nat.beq]using this
  ·rename_i m hf;split at h
   ·exact h.elim
   ·rename_i d hdst;have h1:=iR (K:=λtm=>aMk fl ops R (j+1) tm K) h;have:=te ops R (j+1) _ K ho' hR' h1;rw[filterMap_cons,filterMap_cons];simpa[upF,obF,hf,hd d hdst,iA,Nat.beq]using this
def MW{α:Type}:List α->List α->(List α->Prop)->Prop
 |[],l,K=>K l
 |x::r,l,K=>MW r l λl'=>K (x::l')
theorem y4{α:Type}:∀{r l:List α} {K:List α->Prop},MW r l K->K (r++l)
 |[],_,_,h=>h
 |x::r,l,K,h=>y4 (r:=r) (l:=l) (K:=λl'=>K (x::l')) h
def flP(D:List (List Nat))(i j:Nat):Nat:=
 match inD D j i with
 |true=>1
 |false=>match inD D i j with
  |true=>0
  |false=>match Nat.beq j i with
   |true=>0
   |false=>2
theorem RV(ops:List Oper)(R:List (AV×Option AO))(D:List (List Nat))(i:Nat):upF ops R (flP D i)=upP ops D R i:=by
 funext j;unfold upF upP flP;cases h1:inD D j i
 ·cases h2:inD D i j
  ·cases h3:Nat.beq j i<;>simp_all
  ·simp_all
 ·simp_all
theorem OE(D:List (List Nat))(i:Nat):(λj=>Nat.beq (flP D i j) 1)=λj=>inD D j i:=by
 funext j;unfold flP;cases h1:inD D j i
 ·cases h2:inD D i j
  ·cases h3:Nat.beq j i<;>rfl
  ·rfl
 ·rfl
def Cg(D:List (List Nat))(pre:List Oper)(R:List (AV×Option AO))(i:Nat)(st:ASt)(K:ASt->Prop):Prop:=
 match st with
 |⟨tm,ob⟩=>aMk (flP D i) pre R 0 tm λtm obs=>MW obs ob λob=>K ⟨tm,ob⟩
def ur(pre:List Oper)(R:List (AV×Option AO))(st:ASt)(K:ASt->Prop):Prop:=
 match st with
 |⟨tm,ob⟩=>aMk (λ_=>1) pre R 0 tm λtm obs=>MW obs ob λob=>K ⟨tm,ob⟩
theorem Hx{ops:List Oper}{n0:Nat}(hle:n0<=ops.length):(ops.take n0).length=n0/\∀k,k<(ops.take n0).length->ops[0+k]? =(ops.take n0)[k]? :=by
 have h:(ops.take n0).length=n0:=al;exact⟨h,λk hk=>by rw[h]at hk;simp[List.getElem?_take,hk]⟩
theorem wQ{D:List (List Nat)}{ops:List Oper}{n0:Nat}{R:List (AV×Option AO)}{i:Nat}{st:ASt}{K:ASt->Prop}(hle:n0<=ops.length)(h:Cg D (ops.take n0) R i st K):K (stP ops D R n0 st i):=by
 obtain⟨h1,h2⟩:=Hx hle;obtain⟨tm,ob⟩:=st;have:=te (opsA:=ops) (RA:=R) (ops.take n0) R 0 tm _ h2 (λk=>by simp) h;rw[h1,RV,OE]at this;have:=y4 (K:=λob=>K ⟨_,ob⟩) this;rw[<-List.range_eq_range']at this;exact this
theorem oG{ops:List Oper}{n0:Nat}{R:List (AV×Option AO)}{st:ASt}{K:ASt->Prop}(hle:n0<=ops.length)(h:ur (ops.take n0) R st K):K (stS ops R n0 st λ_=>true):=by
 obtain⟨h1,h2⟩:=Hx hle;obtain⟨tm,ob⟩:=st;have:=te (opsA:=ops) (RA:=R) (ops.take n0) R 0 tm _ h2 (λk=>by simp) h;rw[h1]at this;have:=y4 (K:=λob=>K ⟨_,ob⟩) this;rw[<-List.range_eq_range']at this;have e:upF ops R (λ_=>1)=upS ops R λ_=>true:=by funext j;rfl
 rw[e]at this;exact this
def J6(E:a6)(D:List (List Nat))(pre:List Oper)(R:List (AV×Option AO))(st:ASt)(i:Nat)(o:Oper)(r:AV×Option AO):Prop:=
 match o.guard with
 |none=>Cg D pre R i st λP=>kB E o P λv oo=>v=r.1/\oo=r.2
 |some (g,want)=>inD D g i=true/\Nat.blt g pre.length=true/\nq R g λrg=>match rg.1 with
  | .one (.d (.pv (.bool p)))=>AB p
    (match want with
     |true=>Cg D pre R i st λP=>kB E o P λv oo=>v=r.1/\oo=r.2
     |false=>r=(.one .und,none))
    (match want with
     |true=>r=(.one .und,none)
     |false=>Cg D pre R i st λP=>kB E o P λv oo=>v=r.1/\oo=r.2)
  |_=>False
def nodupB:List Nat->Bool
 |[]=>true
 |x::r=> !r.contains x&&nodupB r
theorem xa:∀{l:List Nat},nodupB l=true->l.Nodup
 |[],_=>List.nodup_nil
 |x::r,h=>by
  simp only[nodupB,and_eq_true,Bool.not_eq_true']at h;exact nodup_cons.2 ⟨by simpa using h.1,xa h.2⟩
def H7(ops:List Oper)(D:List (List Nat))(n0:Nat):Bool:=
 Nat.ble n0 ops.length&&nodupB ((List.range n0).map (dAt ops))&&
 (List.range ops.length).all λi=>match ops[i]? with
  |some o=>((oK o).all λx=>Nat.blt x i)&&(if i<n0 then o.dst.isSome else(List.range i).all λj=>inD D j i)
  |none=>true
def IF(ops:List Oper)(n0 n:Nat):Bool:=(List.range n0).all λi=>Nat.blt (dAt ops i) n
def noB(ops:List Oper)(D:List (List Nat))(R:List (AV×Option AO))(n0:Nat)(st:ASt):Bool:=
 (List.range n0).all λi=>match oAt R i with
  |none=>true
  |some _=>(a5 st.ob (dAt ops i)).isNone&&st.tm.all (ud (dAt ops i))&&(st.ob.all λp=>CV (dAt ops i) p.2)&&
   (List.range n0).all λj=>inD D i j||Nat.beq j i||(ud (dAt ops i) (vAt R j)&&(match oAt R j with|none=>true|some o=>CV (dAt ops i) o))
end
section
open Go.RowKit
def lI(lf:Nat->Bool):Nat->Nat
 |0=>0
 |n+1=>lI lf n+(if lf n then 0 else 1)
theorem tk{lf:Nat->Bool}{i:Nat}(hi:lf i=false):∀{n:Nat},lI (λj=>lf j||Nat.beq j i) n<=lI lf n/\(i<n->lI (λj=>lf j||Nat.beq j i) n<lI lf n)
 |0=>⟨Nat.le_refl _,λh=>absurd h (Nat.not_lt_zero _)⟩
 |n+1=>by
  obtain⟨h1,h2⟩:=tk hi (n:=n);simp only[lI];by_cases hin:n=i
  ·subst hin;have:Nat.beq n n=true:=Nat.beq_refl n;simp only[hi,this,Bool.or_true,if_true];exact⟨by simp;omega,λ_=>by simp;omega⟩
  ·have:Nat.beq n i=false:=by
    cases h:Nat.beq n i with
    |false=>rfl
    |true=>exact absurd (eq_of_beq_eq_true h) hin
   simp only[this,Bool.or_false];exact⟨ac,λh=>by have:=h2 ac;omega⟩
theorem D0{lf:Nat->Bool}{m:Nat}(h:∀j,m<=j->lf j=false):∀{n:Nat},n-m<=lI lf n
 |0=>by simp
 |n+1=>by
  have ih:=D0 h (n:=n);simp only[lI];by_cases hn:m<=n
  ·rw[h n hn];simp;omega
  ·omega
theorem wZ{lf:Nat->Bool}:∀{n:Nat},lI lf n=0->∀j,j<n->lf j=true
 |0,_,j,hj=>absurd hj (Nat.not_lt_zero _)
 |n+1,h,j,hj=>by
  simp only[lI]at h;by_cases hjn:j=n
  ·subst hjn;cases hl:lf j with
   |true=>rfl
   |false=>rw[hl]at h;simp at h
  ·exact wZ (n:=n) ac j ac
section
variable {E:a6} {S:bj} {ops:Array Oper} {n0:Nat} {st0:ASt} {R:List (AV×Option AO)} {K:ASt->Prop} {Q:Exit->Act->World->Prop}
theorem bw{ops:List Oper}{i:Nat}{o:Oper}(h:ops[i]? =some o):dO ops i=oK o:=by simp[dO,h]
theorem tn{α β:Type}{f g:α->Option β}:∀{l:List α},(∀j∈l,f j=g j)->l.filterMap f=l.filterMap g
 |[],_=>rfl
 |x::r,h=>by
  rw[filterMap_cons,filterMap_cons,h x ai,tn λj hj=>h j (by simp[hj])]
theorem oA{ops:List Oper}{R:List (AV×Option AO)}{n0:Nat}{st0:ASt}{l1 l2:Nat->Bool}(h:∀j,j<n0->l1 j=l2 j):stS ops R n0 st0 l1=stS ops R n0 st0 l2:=by
 have e1:(List.range n0).filterMap (upS ops R l1)=(List.range n0).filterMap (upS ops R l2):=tn λj hj=>by simp[upS,h j (mem_range.1 hj)]
 have e2:(List.range n0).filterMap (obF ops R l1)=(List.range n0).filterMap (obF ops R l2):=tn λj hj=>by simp[obF,h j (mem_range.1 hj)]
 simp only[stS,e1,e2]
structure tV (ops:List Oper) (D:List (List Nat)) (n0:Nat):Prop where
 hD:mQ [] ops=D
 le:n0<=ops.length
 nd:((List.range n0).map (dAt ops)).Nodup
 edge:∀i o,ops[i]? =some o->∀x∈oK o,x<i
 dst:∀i o,i<n0->ops[i]? =some o->o.dst=some (dAt ops i)
 tail:∀i,n0<=i->i<ops.length->∀j,j<i->inD D j i=true
theorem FD{ops:List Oper}{D:List (List Nat)}{n0:Nat}(hD:mQ [] ops=D)(h:H7 ops D n0=true):tV ops D n0:=by
 simp only[H7,and_eq_true,all_eq_true]at h;obtain⟨⟨h1,h2⟩,h3⟩:=h;have key:∀i o,ops[i]? =some o->_:=λi o ho=>by
  have hlt:=(List.getElem?_eq_some_iff.1 ho).1;have:=h3 i (mem_range.2 hlt);rw[ho]at this;simp only[and_eq_true,all_eq_true]at this;exact this
 refine⟨hD,Nat.le_of_ble_eq_true h1,xa h2,λi o ho e he=>?_,λi o hi ho=>?_,λi hi hlt j hj=>?_⟩
 ·exact Nat.le_of_ble_eq_true ((key i o ho).1 e he)
 ·have:=(key i o ho).2;rw[if_pos hi]at this;obtain⟨d,hd⟩:=Option.isSome_iff_exists.1 this;rw[hd];simp[dAt,ho,hd]
 ·have:=(key i ops[i] (List.getElem?_eq_getElem hlt)).2;rw[if_neg ac,all_eq_true]at this;exact this j (mem_range.2 hj)
theorem kF{ops:List Oper}{D:List (List Nat)}{n0:Nat}(T:tV ops D n0){lf:Nat->Bool}(hc:∀j,lf j=true->∀e∈dO ops j,lf e=true){i:Nat}(hi:∀e∈dO ops i,lf e=true){j:Nat}(hj:inD D j i=true):lf j=true:=by
 have:=mR ops (λj=>lf j=true) hc ops [] (λk=>by simp) (λj hj=>absurd hj (Nat.not_lt_zero _)) i hi j;rw[T.hD]at this;refine this ?_;simpa[inD]using hj
def bS(listed:Array Bool)(j:Nat):Bool:=listed.getD j false
theorem kO{listed:Array Bool}{i:Nat}(hi:i<listed.size):bS (listed.setIfInBounds i true)=λj=>bS listed j||Nat.beq j i:=by
 funext j;simp only[bS,Array.getD_eq_getD_getElem?,Array.getElem?_setIfInBounds];by_cases h:i=j
 ·subst h;simp[hi,Nat.beq_refl]
 ·have:Nat.beq j i=false:=by
   cases h':Nat.beq j i with
   |false=>rfl
   |true=>exact absurd (eq_of_beq_eq_true h').symm h
  simp[h,this]
theorem sG{D:List (List Nat)}(T:tV ops.toList D n0){listed:Array Bool}(hs:listed.size=ops.size){i:Nat}:
  i∈Region.ready .any ops listed↔i<ops.size/\bS listed i=false/\∀e∈dO ops.toList i,bS listed e=true:=by
 rw[mem_ready];constructor
 ·rintro⟨h1,o,ho,h2⟩;have hlt:=(Array.getElem?_eq_some_iff.1 ho).1;refine⟨hlt,?_,λe he=>?_⟩
  ·simp only[bS,Array.getD_eq_getD_getElem?]at h1⊢;rw[getElem?_eq_getElem ac]at h1⊢;simpa using h1
  ·rw[bw (by simpa using ho)]at he;obtain⟨e',he',rfl⟩:=mem_map.1 he;obtain⟨hm,hb⟩:=List.mem_filter.1 he';exact h2 e' (by simpa using hm) hb
 ·rintro⟨hlt,h1,h2⟩;refine⟨?_,ops[i],getElem?_eq_getElem hlt,λe he hb=>?_⟩
  ·simp only[bS,Array.getD_eq_getD_getElem?]at h1⊢;rw[getElem?_eq_getElem ac]at h1⊢;simpa using h1
  ·refine h2 _ ?_;rw[bw (o:=ops[i]) (by simp[hlt])];exact mem_map.2 ⟨e,List.mem_filter.2 ⟨by simpa using he,hb⟩,rfl⟩
theorem Lt(he:E.Ok){D:List (List Nat)}(T:tV ops.toList D n0)(hQ:∀a w,(∃st',dS E.W S st' a w/\K st')->Q .normal a w):
  ∀(fuel m:Nat) (listed:Array Bool) (st:ASt) (a:Act) (w:World),listed.size=ops.size->n0<=m->(∀j,j<ops.size->bS listed j=decide (j<m))->ops.size-m<=fuel->dS E.W S st a w->tL E S ops.toList (ops.toList.drop m) st K->wpAny E.P .any ops Q fuel listed a w:=by
 intro fuel;induction fuel with
 |zero=>
  intro m listed st a w hs hm hl hf h hk;rw[List.drop_eq_nil_of_le al]at hk;refine⟨?_,hQ a w ⟨st,h,hk⟩⟩;rw[List.eq_nil_iff_forall_not_mem];intro i hi;obtain⟨h1,h2,_⟩:=(sG T hs).1 hi;rw[hl i h1]at h2;simp at h2;omega
 |succ fuel ih=>
  intro m listed st a w hs hm hl hf h hk;have hready:∀i,i∈Region.ready .any ops listed↔i=m/\m<ops.size:=by
   intro i;rw[sG T hs];constructor
   ·rintro⟨h1,h2,h3⟩;rw[hl i h1]at h2;simp at h2;have hc:∀j,bS listed j=true->∀e∈dO ops.toList j,bS listed e=true:=by
     intro j hj e hej;by_cases hjs:j<ops.size
     ·rw[hl j hjs]at hj;rw[bw (o:=ops[j]) (by simp[hjs])]at hej;have:=T.edge j ops[j] (by simp[hjs]) _ hej;rw[hl _ ac];simp at hj⊢;omega
     ·simp[bS,Array.getD_eq_getD_getElem?,Array.getElem?_eq_none (show listed.size<=j by omega)]at hj
    refine⟨?_,ac⟩;apply Nat.le_antisymm _ h2;apply le_of_not_lt;intro hlt;have:=kF T hc h3 (T.tail i ac (by simpa using h1) m hlt);rw[hl m ac]at this;simp at this
   ·rintro⟨rfl,h1⟩;refine⟨h1,by rw[hl i h1];simp,λe hej=>?_⟩;rw[bw (o:=ops[i]) (by simp[h1])]at hej;have:=T.edge i ops[i] (by simp[h1]) _ hej;rw[hl _ ac];simpa using this
  refine⟨λhnil=>?_,λi hi=>?_⟩
  ·have:ops.size<=m:=by
    apply le_of_not_lt;intro hlt;have:=(hready m).2 ⟨rfl,hlt⟩;rw[hnil]at this;cases this
   rw[List.drop_eq_nil_of_le (by simpa using this)]at hk;exact hQ a w ⟨st,h,hk⟩
  ·obtain⟨rfl,hlt⟩:=(hready i).1 hi;rw[List.drop_eq_getElem_cons (by simpa using hlt)]at hk;unfold wpOp;rw[getElem?_eq_getElem hlt];have next:∀st' a' w',dS E.W S st' a' w'->tL E S ops.toList (ops.toList.drop (i+1)) st' K->wpAny E.P .any ops Q fuel (listed.setIfInBounds i true) a' w':=by
    intro st' a' w' h' hk';refine ih (i+1) _ st' a' w' (by simpa using hs) ac (λj hj=>?_) ac h' hk';rw[kO ac];simp only[];rw[hl j hj];by_cases hji:j=i
    ·subst hji;simp[Nat.beq_refl]
    ·have:Nat.beq j i=false:=by
      cases h':Nat.beq j i with
      |false=>rfl
      |true=>exact absurd (eq_of_beq_eq_true h') hji
     simp[this];omega
   obtain⟨Z,ρ,h⟩:=h;simp only[Array.getElem_toList]at hk;rcases iE h hk with⟨hw,st',hs',hk⟩|⟨hw,st',hs',hk⟩
   ·simp only[toArray_toList]at hw;simp only[hw,if_true];refine .inl (Oper.wp_mono (λa' w' h'=>?_) (nC he hs' hk Q));obtain⟨st2,h2,hk2⟩:=h';exact next st2 a' w' h2 hk2
   ·simp only[toArray_toList]at hw;simp only[hw,Bool.false_eq_true,if_false];have:=hs'.put ops[i].dst (x:= .one .und) (v:=undef) (.one _ _ (show dZ Z w ρ .und undef from rfl));exact next _ _ w ⟨Z,ρ,this⟩ (fB hk)
theorem Ls(he:E.Ok){D:List (List Nat)}(T:tV ops.toList D n0)(F:wL E S ops.toList D R n0 st0)(hQ:∀a w,(∃st',dS E.W S st' a w/\K st')->Q .normal a w)
  (ht:ur (ops.toList.take n0) R st0 λst=>tL E S ops.toList (ops.toList.drop n0) st K):
  ∀(fuel:Nat) (listed:Array Bool) (a:Act) (w:World),listed.size=ops.size->(∀j,n0<=j->bS listed j=false)->(∀j,bS listed j=true->∀e∈dO ops.toList j,bS listed e=true)->lI (bS listed) ops.size<=fuel->
   dS E.W S (stS ops.toList R n0 st0 (bS listed)) a w->wpAny E.P .any ops Q fuel listed a w:=by
 intro fuel;have hle:n0<=ops.toList.length:=T.le;have hle':n0<=ops.size:=by simpa using hle
 induction fuel with
 |zero=>
  intro listed a w hs htl hc hf h;have hall:=wZ (Nat.le_zero.1 hf);have hn0:ops.size<=n0:=by
   apply le_of_not_lt;intro hlt;have h1:=hall n0 hlt;rw[htl n0 (Nat.le_refl _)]at h1;cases h1
  refine⟨?_,hQ a w ⟨_,h,?_⟩⟩
  ·rw[List.eq_nil_iff_forall_not_mem];intro i hi;obtain⟨h1,h2,_⟩:=(sG T hs).1 hi;rw[hall i h1]at h2;cases h2
  ·have:=oG hle ht;rw[List.drop_eq_nil_of_le (by simpa using hn0)]at this;have e:stS ops.toList R n0 st0 (bS listed)=stS ops.toList R n0 st0 λ_=>true:=oA λj hj=>by rw[hall j ac]
   rw[e];exact this
 |succ fuel ih=>
  intro listed a w hs htl hc hf h;by_cases hall:∀j,j<n0->bS listed j=true
  ·have e:stS ops.toList R n0 st0 (bS listed)=stS ops.toList R n0 st0 λ_=>true:=oA λj hj=>by rw[hall j hj]
   rw[e]at h;have h2:=D0 htl (n:=ops.size);refine Lt he T hQ (fuel+1) n0 listed _ a w hs (Nat.le_refl _) (λj hj=>?_) ac h (oG hle ht);by_cases hj0:j<n0
   ·rw[hall j hj0];simp[hj0]
   ·rw[htl j ac];simp[hj0]
  ·refine⟨λhnil=>?_,λi hi=>?_⟩
   ·exfalso;apply hall;intro j;induction j using Nat.strongRecOn with
    |ind j ihj=>
     intro hj;cases hlj:bS listed j with
     |true=>rfl
     |false=>
      have:j∈Region.ready .any ops listed:=(sG T hs).2 ⟨ac,hlj,λe hej=>by
       have hjs:j<ops.size:=ac;rw[bw (o:=ops[j]) (by simp[hjs])]at hej;have:=T.edge j ops[j] (by simp[hjs]) _ hej;exact ihj _ this ac⟩
      rw[hnil]at this;cases this
   ·obtain⟨hlt,hli,haf⟩:=(sG T hs).1 hi;have hi0:i<n0:=by
     apply Nat.lt_of_not_le;intro hge;apply hall;intro j hj;exact kF T hc haf (T.tail i hge (by simpa using hlt) j ac)
    have hDl:∀j,inD D j i=true->bS listed j=true:=λj hj=>kF T hc haf hj;have hAl:∀j,j<n0->inD D i j=true->bS listed j=false:=λj _ hj=>by
     cases hlj:bS listed j with
     |false=>rfl
     |true=>
      have:=kF T hc (hc j hlj) hj;rw[hli]at this;cases this
    have hget:ops.toList[i]? =some ops[i]:=by simp[hlt]
    have hlen:=hs;have step:=CH (Kont:=wpAny E.P .any ops Q fuel (listed.setIfInBounds i true)) (Q:=Q) F hi0 hget hli hDl hAl h λa' w' h'=>by
     have e:=kO (listed:=listed) (i:=i) ac;refine ih _ a' w' (by simpa using hs) (λj hj=>?_) (λj hj e' hej=>?_) ?_ ?_
     ·rw[e];simp only[htl j hj,Bool.false_or];cases hb:Nat.beq j i with
      |false=>rfl
      |true=>have:=eq_of_beq_eq_true hb;omega
     ·rw[e]at hj⊢;simp only[or_eq_true]at hj⊢;rcases hj with hj|hj
      ·exact .inl (hc j hj e' hej)
      ·rw[eq_of_beq_eq_true hj]at hej;exact .inl (haf e' hej)
     ·rw[e];have:=(tk hli (n:=ops.size)).2 hlt;omega
     ·rw[e];exact h'
    simp only[toArray_toList]at step;unfold wpOp;rw[getElem?_eq_getElem hlt];simp only;split
    ·rename_i hw;exact .inl (step.1 hw)
    ·rename_i hw;exact step.2 (by simpa using hw)
theorem Oy{D:List (List Nat)}{ops:List Oper}(T:tV ops D n0)(hl:IF ops n0 st0.tm.length=true)(hno:noB ops D R n0 st0=true):DBase ops D R n0 st0:=by
 simp only[IF,all_eq_true]at hl;simp only[noB,all_eq_true]at hno;have hno':∀i,i<n0->∀o,oAt R i=some o->_:=λi hi o ho=>by
  have:=hno i (mem_range.2 hi);rw[ho]at this;simp only[and_eq_true,all_eq_true]at this;exact this
 refine⟨T.le,T.nd,T.dst,λj hj=>Nat.le_of_ble_eq_true (hl j (mem_range.2 hj)),λj hj hne=>?_,λi hi hne=>?_,λi j hi hj hne hd hji=>?_⟩
 ·obtain⟨o,ho⟩:=Option.ne_none_iff_exists'.1 hne;have:=(hno' j hj o ho).1.1.1;simpa using this
 ·obtain⟨o,ho⟩:=Option.ne_none_iff_exists'.1 hne;have:=hno' i hi o ho;exact⟨this.1.1.2,this.1.2⟩
 ·obtain⟨o,ho⟩:=Option.ne_none_iff_exists'.1 hne;have:=(hno' i hi o ho).2 j (mem_range.2 hj);simp only[hd,Bool.false_or,or_eq_true,and_eq_true]at this;rcases this with this|⟨h1,h2⟩
  ·exact absurd (eq_of_beq_eq_true this) hji
  ·refine⟨h1,λo' ho'=>?_⟩;rw[ho']at h2;exact h2
end
def Py(E:a6)(S:bj)(c:Code)(K:Exit->ASt->Prop):Nat->ASt->Prop
 |0,_=>False
 | n + 1, st => AWP E S c (fun e st' => match e with
  | .normal=>Py E S c K n st'
  |e=>K e st') st
theorem Ub{E:a6}{S:bj}{c:Code}{K:Exit->ASt->Prop}{st:ASt}(n:Nat)(h:Py E S c K n st):AWP E S (.loop c) K st:=by
 refine⟨λa w hs=>wp_loop_rounds n ?_⟩;have key:∀n st a w,Py E S c K n st->dS E.W S st a w->Code.rounds E.P c (λe a' w'=>∃st',dS E.W S st' a' w'/\K e st') n a w:=by
  intro n;induction n with
  |zero=>intro st a w h _;exact h.elim
  |succ n ih=>
   intro st a w h hs;refine wp_mono ((show AWP E S c _ st from h).run a w hs) λe a' w' h'=>?_;obtain⟨st',hs',hk⟩:=h';cases e with
   |normal=>exact ih st' a' w' hk hs'
   |_=>exact⟨st',hs',hk⟩
 exact key n st a w h hs
end
end
section
open Go.ChangeShapes Go.WideShapes Go.RowKit
variable {F:List Nat}{cs:List Value}{w:World}
def TP{α β:Type}(f:β->α)(R:Rep α):Rep β where
 size:=R.size
 rd:=λw cs b F=>R.rd w cs (f b) F
 len:=λh=>R.len h
 one:=λh=>R.one h
 lt:=λh=>R.lt h
 keep:=λh k=>R.keep h k
theorem Vu{α:Type}{R:Rep α}{l:List α}(h:R.sl.rd w cs l F):∃A cap,cs=[.slice A l.length cap]:=by
 obtain⟨A,cap,xs,F1,rfl,_⟩:=h;exact⟨_,_,rfl⟩
structure DStep where
 kind:Int
 a:Int
 b:Int
 c:Int
 fates:(List Int)
 deriving DecidableEq
def TC:Rep DStep:=TP (λx=>(x.kind,x.a,x.b,x.c,x.fates)) (TH (Rep.int .i64) (TH (Rep.int .i64) (TH (Rep.int .i64) (TH (Rep.int .i64) (Rep.sl (Rep.int .i64))))))
theorem oD{x:DStep}(h:TC.rd w cs x F):∃(A0:Option Addr) (cap0:Nat) (F0:List Nat),cs=[.int .i64 x.kind,.int .i64 x.a,.int .i64 x.b,.int .i64 x.c,.slice A0 x.fates.length cap0]/\F=F0/\(Lit.int .i64 x.kind).wf=true/\(Lit.int .i64 x.a).wf=true/\(Lit.int .i64 x.b).wf=true/\(Lit.int .i64 x.c).wf=true/\(Rep.sl (Rep.int .i64)).rd w [.slice A0 x.fates.length cap0] x.fates F0:=by
 simp only[TC,TP,TH]at h;obtain⟨c0,d0,G0,H0,rfl,rfl,⟨rfl,w0,rfl⟩,⟨c1,d1,G1,H1,rfl,rfl,⟨rfl,w1,rfl⟩,⟨c2,d2,G2,H2,rfl,rfl,⟨rfl,w2,rfl⟩,⟨c3,d3,G3,H3,rfl,rfl,⟨rfl,w3,rfl⟩,h0⟩⟩⟩⟩:=h;obtain⟨A0,cap0,rfl⟩:=Vu h0;exact⟨A0,cap0,_,by simp,by simp,w0,w1,w2,w3,h0⟩
theorem eR{x:DStep}{A0:Option Addr}{cap0:Nat}{F0:List Nat}(w0:(Lit.int .i64 x.kind).wf=true)(w1:(Lit.int .i64 x.a).wf=true)(w2:(Lit.int .i64 x.b).wf=true)(w3:(Lit.int .i64 x.c).wf=true)(h0:(Rep.sl (Rep.int .i64)).rd w [.slice A0 x.fates.length cap0] x.fates F0):TC.rd w [.int .i64 x.kind,.int .i64 x.a,.int .i64 x.b,.int .i64 x.c,.slice A0 x.fates.length cap0] x (F0):=by
 simp only[TC,TP,TH];exact⟨_,_,[],(F0),rfl,(by simp),⟨rfl,w0,rfl⟩,⟨_,_,[],(F0),rfl,(by simp),⟨rfl,w1,rfl⟩,⟨_,_,[],(F0),rfl,(by simp),⟨rfl,w2,rfl⟩,⟨_,_,[],(F0),rfl,(by simp),⟨rfl,w3,rfl⟩,h0⟩⟩⟩⟩
structure DOp where
 kind:Int
 a:Int
 b:Int
 c:Int
 d:Int
 deriving DecidableEq
def Ux:Rep DOp:=TP (λx=>(x.kind,x.a,x.b,x.c,x.d)) (TH (Rep.int .i64) (TH (Rep.int .i64) (TH (Rep.int .i64) (TH (Rep.int .i64) (Rep.int .i64)))))
structure DEntry where
 index:Int
 time:Int
 client:Int
 seq:Int
 op:DOp
 deriving DecidableEq
def Ur:Rep DEntry:=TP (λx=>(x.index,x.time,x.client,x.seq,x.op)) (TH (Rep.int .i64) (TH (Rep.int .i64) (TH (Rep.int .i64) (TH (Rep.int .i64) Ux))))
structure DMsg where
 frm:Int
 to_:Int
 row:(List Int)
 deriving DecidableEq
def U5:Rep DMsg:=TP (λx=>(x.frm,x.to_,x.row)) (TH (Rep.int .i64) (TH (Rep.int .i64) (Rep.sl (Rep.int .i64))))
structure DLink where
 a:Int
 b:Int
 deriving DecidableEq
def UF:Rep DLink:=TP (λx=>(x.a,x.b)) (TH (Rep.int .i64) (Rep.int .i64))
structure DNet where
 flight:(List DMsg)
 cuts:(List DLink)
 deriving DecidableEq
def U6:Rep DNet:=TP (λx=>(x.flight,x.cuts)) (TH (Rep.sl U5) (Rep.sl UF))
structure DWant where
 kind:Int
 op:DOp
 key:Int
 deriving DecidableEq
def UI:Rep DWant:=TP (λx=>(x.kind,x.op,x.key)) (TH (Rep.int .i64) (TH Ux (Rep.int .i64)))
end
section
open Go.RowKit
variable {F:List Nat}{Z:Nat->Prop}{α β:Type}{w:World}
def tX(Z:Nat->Prop)(w:World)(ds:List AD)(cs:List Value):Prop:=cs.length=ds.length/\∀(i:Nat) d u,ds[i]? =some d->cs[i]? =some u->bK Z w d u
theorem tX.append{ds es:List AD}{cs bs:List Value}(h:tX Z w ds cs)(h':tX Z w es bs):tX Z w (ds++es) (cs++bs):=by
 refine⟨by simp[h.1,h'.1],λi d u hd hu=>?_⟩;by_cases hi:i<ds.length
 ·rw[List.getElem?_append_left hi]at hd;rw[List.getElem?_append_left (by rw[h.1];exact hi)]at hu;exact h.2 i d u hd hu
 ·rw[List.getElem?_append_right ac]at hd;rw[List.getElem?_append_right (by rw[h.1];omega),h.1]at hu;exact h'.2 _ d u hd hu
theorem tX.one{d:AD}{u:Value}(h:bK Z w d u):tX Z w [d] [u]:=⟨rfl,λi x y hx hy=>by
 cases i with
 |zero=>simp at hx hy;subst hx hy;exact h
 |succ i=>simp at hx⟩
def Enc{α:Type}(R:Rep α)(enc:α->List AD):Prop:=∀{w cs a F},R.rd w cs a F->tX (λb=>b<w.heap.size) w (enc a) cs
theorem Enc.int{k:IntKind}:Enc (Rep.int k) λn=>[.pv (.int k n)]:=by
 rintro w cs a F ⟨rfl,_,_⟩;exact .one (.pv _ rfl)
theorem Enc.bool:Enc Rep.bool λb=>[.pv (.bool b)]:=by
 rintro w cs a F ⟨rfl,_⟩;exact .one (.pv _ rfl)
theorem Enc.str:Enc Rep.str λb=>[.pv (.string b)]:=by
 rintro w cs a F ⟨rfl,_⟩;exact .one (.pv _ rfl)
theorem TL{R:Rep α}{S:Rep β}{f:α->List AD}{g:β->List AD}(h:Enc R f)(h':Enc S g):Enc (TH R S) λx=>f x.1++g x.2:=by
 rintro w cs a F ⟨c1,c2,F1,F2,rfl,rfl,h1,h2⟩;exact(h h1).append (h' h2)
theorem TS{R:Rep α}{f:β->α}{g:α->List AD}(h:Enc R g):Enc (TP f R) λx=>g (f x):=λhr=>h hr
theorem Enc.all{R:Rep α}{f:α->List AD}(h:Enc R f):∀{l:List α} {xs:List Value} {F:List Nat},R.all w xs l F->∃us:List (List Value),us.flatten=xs/\us.length=l.length/\(∀u∈us,u.length=R.size)/\
  ∀(i:Nat) a u,l[i]? =some a->us[i]? =some u->tX (λb=>b<w.heap.size) w (f a) u
 |[],_,_,⟨rfl,_⟩=>⟨[],rfl,rfl,by simp,by simp⟩
 |a::l,_,_,⟨c1,c2,F1,F2,rfl,rfl,h1,h2⟩=>by
  obtain⟨us,e1,e2,e3,e4⟩:=Enc.all h h2;refine⟨c1::us,by simp[e1],by simp[e2],λu hu=>?_,λi b u hb hu=>?_⟩
  ·rcases List.mem_cons.1 hu with rfl|hu
   ·exact R.len h1
   ·exact e3 u hu
  ·cases i with
   |zero=>simp at hb hu;subst hb hu;exact h h1
   |succ i=>exact e4 i b u (by simpa using hb) (by simpa using hu)
theorem Enc.len{R:Rep α}{f:α->List AD}(h:Enc R f){w cs a F}(hr:R.rd w cs a F):(f a).length=R.size:=by rw[<-(h hr).1,R.len hr]
theorem Enc.sl{R:Rep α}{f:α->List AD}(h:Enc R f):Enc (Rep.sl R) λl=>[.sl (l.map f)]:=by
 rintro w cs l F ⟨A,cap,xs,F1,rfl,hc,hm,hrow,hall,rfl⟩;obtain⟨us,rfl,e2,e3,e4⟩:=Enc.all h hall;refine .one ?_;have:=bK.sl (Z:=λb=>b<w.heap.size) (w:=w) (l.map f) A cap R.size us (by simpa using hc) hm (by simpa using e2) (λx hx=>?_) e3 ?_ λi j x u a b hx hu ha hb=>?_
 ·simpa using this
 ·obtain⟨a,ha,rfl⟩:=List.mem_map.1 hx;obtain⟨i,hi,rfl⟩:=List.getElem_of_mem ha;have hlt:i<us.length:=ac;have h1:=(e4 i l[i] us[i] (List.getElem?_eq_getElem hi) (List.getElem?_eq_getElem hlt)).1;rw[<-h1];exact e3 _ (List.getElem_mem hlt)
 ·by_cases h0:us.flatten=[]
  ·exact .inl h0
  ·obtain⟨b,off,hA,hlt,hcell⟩:=hrow 0 (List.length_pos_iff.2 h0);exact .inr ⟨b,off,hA,hlt,hcell⟩
 ·rw[List.getElem?_map]at hx;obtain⟨y,hy,rfl⟩:=Option.map_eq_some_iff.1 hx;exact(e4 i y u hy hu).2 j a b ha hb
theorem Enc.agg{R:Rep α}{f:α->List AD}(h:Enc R f){cs:Array Value}{a:α}(hr:R.rd w cs.toList a F):dJ (λb=>b<w.heap.size) w (.agg (f a)) (.agg cs):=
 ⟨cs.toList,by simp,(h hr).1,(h hr).2⟩
theorem Enc.cell{R:Rep α}{f:α->AD}(h:Enc R λa=>[f a]){v:Value}{a:α}(hr:R.rd w [v] a F):dJ (λb=>b<w.heap.size) w (.one (f a)) v:=
 (h hr).2 0 _ _ rfl rfl
theorem aM.walk{E:a6}{f:FuncId}{args:List AP1}{p:Bool}(h:aM E f args (.val (.one (.pv (.bool p))))){W:World}(hT:E.W W){us:Array Value}(hl:us.size=args.length)(hr:∀(i:Nat) p u,args[i]? =some p->us.toList[i]? =some u->dJ (λb=>b<W.heap.size) W p u):
  Calls E.P f us W λe W'=>e= .returned (.bool p)/\Below W.heap.size W W':=by
 have:=h.run (λb=>b<W.heap.size) W us.toList (λ_ hb=>hb) ⟨W,hT,Below.refl _ _,λ_ hb=>hb⟩ (by simpa using hl) hr;rw[Array.toArray_toList]at this;refine this.mono ?_;rintro e w' ⟨v,Z',rfl,hb,_,_,hv⟩;have hv':bK Z' w' (.pv (.bool p)) v:=hv;cases hv' with
 |pv=>exact⟨rfl,hb⟩
end
section
open Go.ChangeShapes Go.WideShapes Go.RowKit
section
variable {H:Type} {enc:TypeId×Value->H} {P:Program}
theorem BK{f:Func}{s:ChangeSpec}{apart fresh handsOn again:Bool}{W W':World}{args:Array Value}{v:Value}{ds gs:List (DataW H)}{before pa pv:List MemPlace}
  (hW:DataW.Whole enc P f.params.toList s.vars apart W args.toList ds gs before)
  (hres:∀(b:Nat) (sp:Nat->Bool) (hd:Bool),DataW.TrodAll enc P W' b sp hd f.resultTypes.toList (v.resultList f.resultTypes.size) (s.fn H (ds++gs)).results [])
  (hargs:∀sp:Nat->Bool,(∀p∈before,sp p.block=true)->DataW.TrodAll enc P W' 0 sp true f.params.toList args.toList (s.fn H (ds++gs)).args pa)
  (hvars:∀sp:Nat->Bool,(∀p∈before,sp p.block=true)->DataW.TrodVars enc P W' sp s.vars (s.fn H (ds++gs)).vars pv)
  (hps:before=pa++pv) (hb:Below W.heap.size W W')
  (hok:∀(j:Nat) (t:TypeId) (r:Value),f.resultTypes[j]? =some t->(v.resultList f.resultTypes.size)[j]? =some r->Value.okWide P W' .any 0 t r):
  s.post enc P f apart fresh handsOn again W args v W':=by
 have hlt:∀p∈before,p.block<W.heap.size:=λp hp=>hW.lt p hp;have hold:∀p∈before,(λb=>decide (b<W.heap.size)) p.block=true:=λp hp=>by simpa using hlt p hp
 refine⟨ds,gs,before,[],pa,pv,hW,hres _ _ _,hargs _ hold,hvars _ hold,World.keptBut_mono (λp hp=>⟨hp,?_⟩) (hb.frame (· ∈before)),λ_=>?_⟩
 ·rw[hps,List.mem_append]at hp;exact Or.inr hp
 ·obtain⟨_,_,_,_,_,hz,hn⟩:=hW;refine⟨hok,_,_,([]++pa)++pv,⟨[]++pa,pv,trodAll_append (hargs _ (λ_ _=>rfl)) (hres _ _ _),hvars _ (λ_ _=>rfl),rfl,?_,?_⟩,?_⟩
  ·intro b off hp;have hin:MemPlace.cell b off∈before:=by rw[hps];simpa using hp
   rw[hb.frozen (hlt _ hin)];exact hz b off hin
  ·intro ha;have:=hn ha;rw[hps]at this;simpa using this
  ·intro p hp _;rw[hps];simpa using hp
theorem Ca(hl:laidOutB P=true):∀(ts:List TypeId) (vs:List Value) (ds:List (DataW H)) (ps:List MemPlace) (W W':World) (sp:Nat->Bool),
  (ts.all λt=>P.readableRec t&&decide (t<P.types.size))=true->DataW.TrodAll enc P W 0 (λ_=>true) true ts vs ds ps->(∀x∈ps,W.sameAt W' x)->(∀x∈ps,sp x.block=true)->
  DataW.TrodAll enc P W' 0 sp true ts vs ds ps:=by
 intro ts;induction ts with
 |nil=>
  intro vs ds ps W W' sp _ h _ _;cases vs<;>cases ds<;>simp_all[DataW.TrodAll]
 |cons t ts ih=>
  intro vs ds ps W W' sp hr h hs hsp;cases vs with
  |nil=>simp[DataW.TrodAll]at h
  |cons v vs=>
   cases ds with
   |nil=>simp[DataW.TrodAll]at h
   |cons d ds=>
    obtain⟨p,q,h1,h2,rfl⟩:=h;simp only[List.all_cons,Bool.and_eq_true,decide_eq_true_eq]at hr;exact⟨p,q,WideElems.Trod_stays hl hr.1.1 hr.1.2 h1 (λx hx=>hs x (List.mem_append_left _ hx)) (λx hx=>hsp x (List.mem_append_left _ hx)),
     ih vs ds q W W' sp hr.2 h2 (λx hx=>hs x (List.mem_append_right _ hx)) (λx hx=>hsp x (List.mem_append_right _ hx)),rfl⟩
theorem law_lifted{C:Checked}{os:Os}{f:FuncId}{fn:Func}{s:ChangeSpec}{tb:TypeId}{apart fresh handsOn again:Bool}
  (own:ownKnob C.prog.godebug=none) (started:os.Started) (noInit:C.prog.inits.idxOf? f=none) (hfn:C.prog.funcs[f]? =some fn)
  (hl:laidOutB C.prog=true) (hr:(fn.params.toList.all λt=>C.prog.readableRec t&&decide (t<C.prog.types.size))=true)
  (hvars:s.vars=[]) (hres:fn.resultTypes= #[tb]) (hb:C.prog.underlying tb=some .bool)
  (hspec:∀ds:List (DataW H),ds.length=fn.params.size->s.fn H (ds++[])={results:=[.lit (.bool true)],args:=ds})
  (witness : ∃ (w : World) (tape : Tape) (i : Input), w.os = os ∧ (w.forCall tape i).Shaped C.prog ∧ i.vars = [] ∧ Input.okWide C.prog (w.forCall tape i) .any w.heap.size f i ∧
   s.pre6 enc C.prog fn [] apart (w.forCall tape i).memory i.args/\({}:Assume).holds C.prog (lone (Frame.enter C.prog f i.args .normal) [] (w.forCall tape i)))
  (walk:∀(W:World) (base:Nat) (args:Array Value) (ds:List (DataW H)) (ps:List MemPlace),
   (∀(j:Nat) t v,fn.params[j]? =some t->args[j]? =some v->Value.okWide C.prog W .any base t v)->
   DataW.TrodAll enc C.prog W 0 (λ_=>true) true fn.params.toList args.toList ds ps->W.noneFrozen ps->
   Calls C.prog f args W λe W'=>e= .returned (.bool true)/\Below W.heap.size W W'):
  ReturnsInHanded {} C os f .any (s.pre6 enc C.prog fn [] apart) (s.post enc C.prog fn apart fresh handsOn again):=by
 refine returnsInHanded_of_change own started noInit hfn witness ?_;intro W base args ds gs before hval hW _ _;have hW':=hW;obtain⟨p,q,hA,hV,rfl,hfz,hnd⟩:=hW;rw[hvars]at hV;obtain⟨rfl,rfl⟩:=trodVars_none hV;have hlen:ds.length=fn.params.size:=by
  have aux:∀(ts:List TypeId) (vs:List Value) (ds:List (DataW H)) (ps:List MemPlace),DataW.TrodAll enc C.prog W 0 (λ_=>true) true ts vs ds ps->ds.length=ts.length:=by
   intro ts;induction ts with
   |nil=>intro vs ds ps h;cases vs<;>cases ds<;>simp_all[DataW.TrodAll]
   |cons t ts ih=>
    intro vs ds ps h;cases vs with
    |nil=>simp[DataW.TrodAll]at h
    |cons v vs=>
     cases ds with
     |nil=>simp[DataW.TrodAll]at h
     |cons d ds=>obtain⟨p,q,_,h2,_⟩:=h;simp[ih _ _ _ h2]
  simpa using aux _ _ _ _ hA
 have hsp:=hspec ds hlen;have hlt:∀x∈p++[],x.block<W.heap.size:=λx hx=>hW'.lt x hx;simp only[List.append_nil]at hW' hlt hfz;refine(walk W base args ds p hval hA hfz).mono λe W' ⟨he,hbl⟩=>⟨_,he,?_⟩;refine BK (pa:=p) (pv:=[]) hW' (λb sp hd=>?_) (λsp hh=>?_) (λsp hh=>?_) (by simp) hbl ?_
 ·rw[hsp,hres];exact trodAll_cons_mk (shut_bool hb _) trodAll_mk0
 ·rw[hsp];exact Ca hl _ _ _ _ _ _ _ hr hA (λx hx=>hbl.same (hlt x hx)) hh
 ·rw[hsp,hvars];rfl
 ·exact ok_one hres rfl (okWide_bool_mk hb _)
end
end
section
open Go.ChangeShapes Go.WideShapes Go.RowKit Go.Deep
variable {P:Program}{t:TypeId}
def HE(P:Program)(t:TypeId){α:Type}(R:Rep α):Prop:=
 ∀(H:Type) (enc:TypeId×Value->H) (w:World) (base:Nat) (spare:Nat->Bool) (held:Bool) (fuel:Nat) (cs:List Value) (y:DataW H×List MemPlace),
  DataW.trod enc P w base spare held fuel t cs=some y->∃a F,R.rd w cs a F
theorem JZ{k:IntKind}(ht:P.underlying t=some (.int k)):HE P t (Rep.int k):=by
 intro H enc w base spare held fuel cs y h;obtain⟨n,rfl,_,hw⟩:=DataW.trod_int ht h;exact⟨n,[],rfl,hw,rfl⟩
theorem MN{e:TypeId}{α:Type}{R:Rep α}(ht:P.underlying t=some (.slice e))(hc:P.cellsOf e=R.size)(hr:HE P e R):HE P t (Rep.sl R):=by
 intro H enc w base spare held fuel cs y h;rcases open_slice ht h with⟨rfl,_⟩|⟨a,len,cap,m,n,D,Pl,rfl,hb,hl,hm,hmm,_,hi⟩
 ·exact⟨[],[],none,0,[],[],rfl,Nat.le_refl _,Nat.zero_le _,λj hj=>absurd hj (Nat.not_lt_zero _),⟨rfl,rfl⟩,rfl⟩
 ·have hlm:len<=m:=by rw[hmm];split<;>omega
  have key:∀q,q<=len->∃(l:List α) (xs:List Value) (F:List Nat),l.length=q/\R.all w xs l F/\∀(j:Nat) (u:Value),xs[j]? =some u->w.cell? (a.add j)=some u:=by
   intro q;induction q with
   |zero=>intro _;exact⟨[],[],[],rfl,⟨rfl,rfl⟩,by intro j u hu;simp at hu⟩
   |succ q ih=>
    intro hq;obtain⟨l,xs,F,hll,hall,hx⟩:=ih (by omega);obtain⟨cs',h1,h2⟩:=hi q (by omega);obtain⟨_,hcl,hat⟩:=World.cells?_some h1;obtain⟨b,F',hrd⟩:=hr H enc w base spare held n cs' _ h2;have hxl:=Ui hall;refine⟨l++[b],xs++cs',F++F',by simp[hll],Uy hall hrd,λj u hu=>?_⟩;by_cases hj:j<xs.length
    ·rw[List.getElem?_append_left hj]at hu;exact hx j u hu
    ·rw[List.getElem?_append_right (by omega)]at hu;have hjl:j-xs.length<cs'.length:=(List.getElem?_eq_some_iff.1 hu).1;have:=hat (j-xs.length) (by omega);rw[hu,Go.Deep.add_add,hc,<-hll,<-hxl,show xs.length+(j-xs.length)=j by omega]at this;exact this
  obtain⟨l,xs,F,hll,hall,hx⟩:=key len (Nat.le_refl _);refine⟨l,fu (some a) xs++F,some a,cap,xs,F,by rw[hll],by omega,hm,?_,hall,rfl⟩;intro j0 hj0;have h0:=hx 0 xs[0] (List.getElem?_eq_getElem (by omega));have ea:a.add 0=a:=by simp[Addr.add]
  rw[ea]at h0;have hlt:=World.block_lt_of_cell? w a h0;have hsp:a.spot=none:=by
   unfold World.cell? at h0;split at h0
   ·split at h0
    ·cases h0
    ·rename_i hs;simpa using hs
   ·cases h0
  obtain⟨b,off,sp⟩:=a;simp only at hsp;subst hsp;refine⟨b,off,rfl,hlt,λi u hu=>?_⟩;have:=hx i u hu;rwa[show(⟨b,off,none⟩:Addr).add i=⟨b,off+i,none⟩by unfold Addr.add;split<;>simp_all]at this
end
open Go.RowKit
def Se(tm':List AV)(ob':List (Nat×AO)):Exit->ASt->Prop
 | .normal,st=>And (DT st.tm tm') (aK st.ob ob')
 |_,_=>False
theorem V5{E:a6}{S:bj}{x y:Code}{K:Exit->ASt->Prop}{tm:List AV}{ob:List (Nat×AO)}(ws:List Nat)(sl:List (Nat×AV))(ob':List (Nat×AO))
  (h1:Ci tm ws sl λtm'=>AWP E S x (Se tm' ob') ⟨tm,ob⟩) (h2:Ci tm ws sl λtm'=>AWP E S y K ⟨tm',ob'⟩):AWP E S x (PZ E S y K) ⟨tm,ob⟩:=by
 have g1:=nn h1;have g2:=nn h2;refine⟨λa w hs=>wp_mono (g1.run a w hs) λe a' w' h'=>?_⟩;obtain⟨st',hs',hk⟩:=h';cases e with
 |normal=>
  refine⟨⟨iA (D1 tm ws) sl,ob'⟩,hs'.sub (qY hk.1) hk.2,g2⟩
 |_=>exact hk.elim
section
variable {α β:Type}
def aS{α:Type}(R:Rep α)(enc:α->List AD):Prop:=∀{w cs a F} {Z:Nat->Prop},(∀b∈F,Z b)->R.rd w cs a F->tX Z w (enc a) cs
theorem aS.int{k:IntKind}:aS (Rep.int k) λn=>[.pv (.int k n)]:=by
 rintro w cs a F Z _ ⟨rfl,_,_⟩;exact .one (.pv _ rfl)
theorem TG{R:Rep α}{S:Rep β}{f:α->List AD}{g:β->List AD}(h:aS R f)(h':aS S g):aS (TH R S) λx=>f x.1++g x.2:=by
 rintro w cs a F Z hz ⟨c1,c2,F1,F2,rfl,rfl,h1,h2⟩;exact(h (λb hb=>hz b (List.mem_append_left _ hb)) h1).append (h' (λb hb=>hz b (List.mem_append_right _ hb)) h2)
theorem TQ{R:Rep α}{f:β->α}{g:α->List AD}(h:aS R g):aS (TP f R) λx=>g (f x):=λhz hr=>h hz hr
theorem aS.all{R:Rep α}{f:α->List AD}(h:aS R f){w:World}{Z:Nat->Prop}:∀{l:List α} {xs:List Value} {F:List Nat},(∀b∈F,Z b)->R.all w xs l F->∃us:List (List Value),us.flatten=xs/\us.length=l.length/\(∀u∈us,u.length=R.size)/\
  ∀(i:Nat) a u,l[i]? =some a->us[i]? =some u->tX Z w (f a) u
 |[],_,_,_,⟨rfl,_⟩=>⟨[],rfl,rfl,by simp,by simp⟩
 |a::l,xs,F,hz,h0=>by
  obtain⟨c1,c2,F1,F2,e1,e2,h1,h2⟩:=h0;subst e1 e2;obtain⟨us,e1,e2,e3,e4⟩:=aS.all h (λb hb=>hz b (List.mem_append_right _ hb)) h2;refine⟨c1::us,by simp[e1],by simp[e2],λu hu=>?_,λi b u hb hu=>?_⟩
  ·rcases List.mem_cons.1 hu with rfl|hu
   ·exact R.len h1
   ·exact e3 u hu
  ·cases i with
   |zero=>simp at hb hu;subst hb hu;exact h (λb hb=>hz b (List.mem_append_left _ hb)) h1
   |succ i=>exact e4 i b u (by simpa using hb) (by simpa using hu)
theorem aS.sl{R:Rep α}{f:α->List AD}(h:aS R f):aS (Rep.sl R) λl=>[.sl (l.map f)]:=by
 rintro w cs l F Z hz ⟨A,cap,xs,F1,rfl,hc,hm,hrow,hall,rfl⟩;obtain⟨us,rfl,e2,e3,e4⟩:=aS.all h (λb hb=>hz b (List.mem_append_right _ hb)) hall;refine .one ?_;have:=bK.sl (Z:=Z) (w:=w) (l.map f) A cap R.size us (by simpa using hc) hm (by simpa using e2) (λx hx=>?_) e3 ?_ λi j x u a b hx hu ha hb=>?_
 ·simpa using this
 ·obtain⟨a,ha,rfl⟩:=List.mem_map.1 hx;obtain⟨i,hi,rfl⟩:=List.getElem_of_mem ha;have hlt:i<us.length:=ac;have h1:=(e4 i l[i] us[i] (List.getElem?_eq_getElem hi) (List.getElem?_eq_getElem hlt)).1;rw[<-h1];exact e3 _ (List.getElem_mem hlt)
 ·by_cases h0:us.flatten=[]
  ·exact .inl h0
  ·obtain⟨b,off,hA,hlt,hcell⟩:=hrow 0 (List.length_pos_iff.2 h0);refine .inr ⟨b,off,hA,hz b (List.mem_append_left _ ?_),hcell⟩;rw[hA];simp[fu,h0]
 ·rw[List.getElem?_map]at hx;obtain⟨y,hy,rfl⟩:=Option.map_eq_some_iff.1 hx;exact(e4 i y u hy hu).2 j a b ha hb
theorem aS.bool:aS Rep.bool λb=>[.pv (.bool b)]:=by
 rintro w cs a F Z _ ⟨rfl,_⟩;exact .one (.pv _ rfl)
end
section
open Go.Proofs.Tryz
variable {st:ASt}{c x y:Code}{K:Exit->ASt->Prop}{X Y:Prop}{S:bj}
theorem WA{α:Type}{a b:Array α}(h:a=b):a.toList=b.toList:=congrArg Array.toList h
abbrev zzI:Value:= .int .i64 0
abbrev zzS:Value:= .slice none 0 0
def ti2:TI:=⟨1,8,false,(.int .i64),zzI⟩
theorem ty2:aR Tryz.prog 2 ti2:=⟨sizeOf2,isAgg2,by rw[underlying2];rfl,by kernel_rfl,rfl⟩
theorem ty3:aR Tryz.prog 3 ti2:=⟨sizeOf3,isAgg3,by rw[underlying3];rfl,by kernel_rfl,rfl⟩
def ti4:TI:=⟨1,1,false,.bool,(.bool false)⟩
theorem ty4:aR Tryz.prog 4 ti4:=⟨sizeOf4,isAgg4,by rw[underlying4];rfl,by kernel_rfl,rfl⟩
def ti5:TI:=⟨1,1,false,(.int .u8),(.int .u8 0)⟩
theorem ty5:aR Tryz.prog 5 ti5:=⟨sizeOf5,isAgg5,by rw[underlying5];rfl,by kernel_rfl,rfl⟩
def ti9:TI:=⟨1,16,false,.str,(.string ⟨#[]⟩)⟩
theorem ty9:aR Tryz.prog 9 ti9:=⟨sizeOf9,isAgg9,by rw[underlying9];rfl,by kernel_rfl,rfl⟩
def O7:TI:=⟨1,8,false,(.int .u64),(.int .u64 0)⟩
theorem Sy:aR Tryz.prog 12 O7:=⟨sizeOf12,isAgg12,by rw[underlying12];rfl,by kernel_rfl,rfl⟩
def QS:TI:=⟨2,24,true,(.st [(0,9),(1,12)]),(.agg #[(.string ⟨#[]⟩),(.int .u64 0)])⟩
theorem Sz:aR Tryz.prog 13 QS:=⟨sizeOf13,isAgg13,by rw[underlying13];rfl,by kernel_rfl,rfl⟩
def QT:TI:=⟨1,4,false,(.int .i32),(.int .i32 0)⟩
theorem SA:aR Tryz.prog 21 QT:=⟨sizeOf21,isAgg21,by rw[underlying21];rfl,by kernel_rfl,rfl⟩
def QU:TI:=⟨1,24,false,(.sl 5),zzS⟩
theorem SB:aR Tryz.prog 22 QU:=⟨sizeOf22,isAgg22,by rw[underlying22];rfl,by kernel_rfl,rfl⟩
def QV:TI:=⟨1,24,false,(.sl 32),zzS⟩
theorem SC:aR Tryz.prog 24 QV:=⟨sizeOf24,isAgg24,by rw[underlying24];rfl,by kernel_rfl,rfl⟩
def QW:TI:=⟨1,24,false,(.sl 2),zzS⟩
theorem SD:aR Tryz.prog 30 QW:=⟨sizeOf30,isAgg30,by rw[underlying30];rfl,by kernel_rfl,rfl⟩
def O8:TI:=⟨5,56,true,(.st [(0,2),(1,2),(2,2),(3,2),(4,30)]),(.agg #[zzI,zzI,zzI,zzI,zzS])⟩
theorem SE:aR Tryz.prog 31 O8:=⟨sizeOf31,isAgg31,by rw[underlying31];rfl,by kernel_rfl,rfl⟩
theorem SF:aR Tryz.prog 32 O8:=⟨sizeOf32,isAgg32,by rw[underlying32];rfl,by kernel_rfl,rfl⟩
def QX:TI:=⟨1,8,false,(.ptr 94),(.pointer none)⟩
theorem SG:aR Tryz.prog 34 QX:=⟨sizeOf34,isAgg34,by rw[underlying34];rfl,by kernel_rfl,rfl⟩
def QY:TI:=⟨1,24,false,(.sl 30),zzS⟩
theorem SH:aR Tryz.prog 36 QY:=⟨sizeOf36,isAgg36,by rw[underlying36];rfl,by kernel_rfl,rfl⟩
def QZ:TI:=⟨1,24,false,(.sl 209),zzS⟩
theorem SI:aR Tryz.prog 37 QZ:=⟨sizeOf37,isAgg37,by rw[underlying37];rfl,by kernel_rfl,rfl⟩
def O9:TI:=⟨2,48,true,(.st [(0,36),(1,37)]),(.agg #[zzS,zzS])⟩
theorem SJ:aR Tryz.prog 38 O9:=⟨sizeOf38,isAgg38,by rw[underlying38];rfl,by kernel_rfl,rfl⟩
theorem SK:aR Tryz.prog 39 O9:=⟨sizeOf39,isAgg39,by rw[underlying39];rfl,by kernel_rfl,rfl⟩
def Pa:TI:=⟨4,96,true,(.st [(0,39),(2,39)]),(.agg #[zzS,zzS,zzS,zzS])⟩
theorem SL:aR Tryz.prog 40 Pa:=⟨sizeOf40,isAgg40,by rw[underlying40];rfl,by kernel_rfl,rfl⟩
theorem SM:aR Tryz.prog 41 Pa:=⟨sizeOf41,isAgg41,by rw[underlying41];rfl,by kernel_rfl,rfl⟩
def Q0:TI:=⟨1,24,false,(.sl 193),zzS⟩
theorem SN:aR Tryz.prog 42 Q0:=⟨sizeOf42,isAgg42,by rw[underlying42];rfl,by kernel_rfl,rfl⟩
def Pb:TI:=⟨4,48,true,(.st [(0,2),(1,2),(2,2),(3,42)]),(.agg #[zzI,zzI,zzI,zzS])⟩
theorem SO:aR Tryz.prog 43 Pb:=⟨sizeOf43,isAgg43,by rw[underlying43];rfl,by kernel_rfl,rfl⟩
theorem SP:aR Tryz.prog 44 Pb:=⟨sizeOf44,isAgg44,by rw[underlying44];rfl,by kernel_rfl,rfl⟩
def Q3:TI:=⟨1,24,false,(.sl 244),zzS⟩
theorem SQ:aR Tryz.prog 45 Q3:=⟨sizeOf45,isAgg45,by rw[underlying45];rfl,by kernel_rfl,rfl⟩
def Hy:TI:=⟨3,40,true,(.st [(0,2),(1,2),(2,45)]),(.agg #[zzI,zzI,zzS])⟩
theorem SR:aR Tryz.prog 46 Hy:=⟨sizeOf46,isAgg46,by rw[underlying46];rfl,by kernel_rfl,rfl⟩
theorem SS:aR Tryz.prog 47 Hy:=⟨sizeOf47,isAgg47,by rw[underlying47];rfl,by kernel_rfl,rfl⟩
def Q4:TI:=⟨1,24,false,(.sl 249),zzS⟩
theorem ST:aR Tryz.prog 48 Q4:=⟨sizeOf48,isAgg48,by rw[underlying48];rfl,by kernel_rfl,rfl⟩
def Pc:TI:=⟨19,296,true,(.st [(0,41),(4,44),(8,44),(12,4),(13,47),(16,42),(17,2),(18,48)]),(.agg #[zzS,zzS,zzS,zzS,zzI,zzI,zzI,zzS,zzI,zzI,zzI,zzS,(.bool false),zzI,zzI,zzS,zzS,zzI,zzS])⟩
theorem SU:aR Tryz.prog 49 Pc:=⟨sizeOf49,isAgg49,by rw[underlying49];rfl,by kernel_rfl,rfl⟩
theorem SV:aR Tryz.prog 50 Pc:=⟨sizeOf50,isAgg50,by rw[underlying50];rfl,by kernel_rfl,rfl⟩
def Q5:TI:=⟨1,24,false,(.sl 315),zzS⟩
theorem SW:aR Tryz.prog 51 Q5:=⟨sizeOf51,isAgg51,by rw[underlying51];rfl,by kernel_rfl,rfl⟩
def Q6:TI:=⟨1,24,false,(.sl 256),zzS⟩
theorem SX:aR Tryz.prog 52 Q6:=⟨sizeOf52,isAgg52,by rw[underlying52];rfl,by kernel_rfl,rfl⟩
def Hz:TI:=⟨3,24,true,(.st [(0,2),(1,2),(2,2)]),(.agg #[zzI,zzI,zzI])⟩
theorem SY:aR Tryz.prog 53 Hz:=⟨sizeOf53,isAgg53,by rw[underlying53];rfl,by kernel_rfl,rfl⟩
theorem SZ:aR Tryz.prog 54 Hz:=⟨sizeOf54,isAgg54,by rw[underlying54];rfl,by kernel_rfl,rfl⟩
def Pd:TI:=⟨7,88,true,(.st [(0,2),(1,2),(2,51),(3,52),(4,54)]),(.agg #[zzI,zzI,zzS,zzS,zzI,zzI,zzI])⟩
theorem S0:aR Tryz.prog 55 Pd:=⟨sizeOf55,isAgg55,by rw[underlying55];rfl,by kernel_rfl,rfl⟩
theorem S1:aR Tryz.prog 56 Pd:=⟨sizeOf56,isAgg56,by rw[underlying56];rfl,by kernel_rfl,rfl⟩
def Pe:TI:=⟨12,160,true,(.st [(0,39),(2,56),(9,2),(10,2),(11,2)]),(.agg #[zzS,zzS,zzI,zzI,zzS,zzS,zzI,zzI,zzI,zzI,zzI,zzI])⟩
theorem S2:aR Tryz.prog 57 Pe:=⟨sizeOf57,isAgg57,by rw[underlying57];rfl,by kernel_rfl,rfl⟩
theorem S3:aR Tryz.prog 58 Pe:=⟨sizeOf58,isAgg58,by rw[underlying58];rfl,by kernel_rfl,rfl⟩
def Q7:TI:=⟨1,24,false,(.sl 335),zzS⟩
theorem S4:aR Tryz.prog 59 Q7:=⟨sizeOf59,isAgg59,by rw[underlying59];rfl,by kernel_rfl,rfl⟩
def Pf:TI:=⟨6,64,true,(.st [(0,2),(1,2),(2,2),(3,2),(4,2),(5,59)]),(.agg #[zzI,zzI,zzI,zzI,zzI,zzS])⟩
theorem S5:aR Tryz.prog 60 Pf:=⟨sizeOf60,isAgg60,by rw[underlying60];rfl,by kernel_rfl,rfl⟩
theorem S6:aR Tryz.prog 61 Pf:=⟨sizeOf61,isAgg61,by rw[underlying61];rfl,by kernel_rfl,rfl⟩
def Pg:TI:=⟨6,64,true,(.st [(0,61)]),(.agg #[zzI,zzI,zzI,zzI,zzI,zzS])⟩
theorem S7:aR Tryz.prog 62 Pg:=⟨sizeOf62,isAgg62,by rw[underlying62];rfl,by kernel_rfl,rfl⟩
theorem S8:aR Tryz.prog 63 Pg:=⟨sizeOf63,isAgg63,by rw[underlying63];rfl,by kernel_rfl,rfl⟩
def yD:TI:=⟨5,40,true,(.st [(0,2),(1,2),(2,2),(3,2),(4,2)]),(.agg #[zzI,zzI,zzI,zzI,zzI])⟩
theorem S9:aR Tryz.prog 64 yD:=⟨sizeOf64,isAgg64,by rw[underlying64];rfl,by kernel_rfl,rfl⟩
theorem Ta:aR Tryz.prog 65 yD:=⟨sizeOf65,isAgg65,by rw[underlying65];rfl,by kernel_rfl,rfl⟩
def Ph:TI:=⟨15,136,true,(.st [(0,2),(1,2),(2,63),(8,4),(9,65),(14,2)]),(.agg #[zzI,zzI,zzI,zzI,zzI,zzI,zzI,zzS,(.bool false),zzI,zzI,zzI,zzI,zzI,zzI])⟩
theorem Tb:aR Tryz.prog 66 Ph:=⟨sizeOf66,isAgg66,by rw[underlying66];rfl,by kernel_rfl,rfl⟩
theorem Tc:aR Tryz.prog 67 Ph:=⟨sizeOf67,isAgg67,by rw[underlying67];rfl,by kernel_rfl,rfl⟩
def Q8:TI:=⟨1,24,false,(.sl 110),zzS⟩
theorem Td:aR Tryz.prog 68 Q8:=⟨sizeOf68,isAgg68,by rw[underlying68];rfl,by kernel_rfl,rfl⟩
def Q9:TI:=⟨1,24,false,(.sl 151),zzS⟩
theorem Te:aR Tryz.prog 69 Q9:=⟨sizeOf69,isAgg69,by rw[underlying69];rfl,by kernel_rfl,rfl⟩
def Pi:TI:=⟨4,64,true,(.st [(0,2),(1,68),(2,69),(3,2)]),(.agg #[zzI,zzS,zzS,zzI])⟩
theorem Tf:aR Tryz.prog 70 Pi:=⟨sizeOf70,isAgg70,by rw[underlying70];rfl,by kernel_rfl,rfl⟩
theorem Tg:aR Tryz.prog 71 Pi:=⟨sizeOf71,isAgg71,by rw[underlying71];rfl,by kernel_rfl,rfl⟩
def Ra:TI:=⟨1,24,false,(.sl 120),zzS⟩
theorem Th:aR Tryz.prog 72 Ra:=⟨sizeOf72,isAgg72,by rw[underlying72];rfl,by kernel_rfl,rfl⟩
def Rb:TI:=⟨1,24,false,(.sl 161),zzS⟩
theorem Ti:aR Tryz.prog 73 Rb:=⟨sizeOf73,isAgg73,by rw[underlying73];rfl,by kernel_rfl,rfl⟩
def Pj:TI:=⟨2,48,true,(.st [(0,72),(1,73)]),(.agg #[zzS,zzS])⟩
theorem Tj:aR Tryz.prog 74 Pj:=⟨sizeOf74,isAgg74,by rw[underlying74];rfl,by kernel_rfl,rfl⟩
theorem Tk:aR Tryz.prog 75 Pj:=⟨sizeOf75,isAgg75,by rw[underlying75];rfl,by kernel_rfl,rfl⟩
def Rc:TI:=⟨1,24,false,(.sl 4),zzS⟩
theorem Tl:aR Tryz.prog 76 Rc:=⟨sizeOf76,isAgg76,by rw[underlying76];rfl,by kernel_rfl,rfl⟩
def Pk:TI:=⟨73,952,true,(.st [(0,50),(19,58),(31,67),(46,67),(61,71),(65,71),(69,75),(71,30),(72,76)]),(.agg #[zzS,zzS,zzS,zzS,zzI,zzI,zzI,zzS,zzI,zzI,zzI,zzS,(.bool false),zzI,zzI,zzS,zzS,zzI,zzS,zzS,zzS,zzI,zzI,zzS,zzS,zzI,zzI,zzI,zzI,zzI,zzI,zzI,zzI,zzI,zzI,zzI,zzI,zzI,zzS,(.bool false),zzI,zzI,zzI,zzI,zzI,zzI,zzI,zzI,zzI,zzI,zzI,zzI,zzI,zzS,(.bool false),zzI,zzI,zzI,zzI,zzI,zzI,zzI,zzS,zzS,zzI,zzI,zzS,zzS,zzI,zzS,zzS,zzS,zzS])⟩
theorem Tm:aR Tryz.prog 77 Pk:=⟨sizeOf77,isAgg77,by rw[underlying77];rfl,by kernel_rfl,rfl⟩
theorem Tn:aR Tryz.prog 78 Pk:=⟨sizeOf78,isAgg78,by rw[underlying78];rfl,by kernel_rfl,rfl⟩
def Rd:TI:=⟨1,8,false,.oth,.nilFunc⟩
theorem To:aR Tryz.prog 85 Rd:=⟨sizeOf85,isAgg85,by rw[underlying85];rfl,by kernel_rfl,rfl⟩
def Re:TI:=⟨14,112,true,(.arr 14 85),(.agg #[.nilFunc,.nilFunc,.nilFunc,.nilFunc,.nilFunc,.nilFunc,.nilFunc,.nilFunc,.nilFunc,.nilFunc,.nilFunc,.nilFunc,.nilFunc,.nilFunc])⟩
theorem Tp:aR Tryz.prog 86 Re:=⟨sizeOf86,isAgg86,by rw[underlying86];rfl,by kernel_rfl,rfl⟩
def Pm:TI:=⟨3,40,true,(.st [(0,22),(1,3),(2,2)]),(.agg #[zzS,zzI,zzI])⟩
theorem Tq:aR Tryz.prog 93 Pm:=⟨sizeOf93,isAgg93,by rw[underlying93];rfl,by kernel_rfl,rfl⟩
theorem Tr:aR Tryz.prog 94 Pm:=⟨sizeOf94,isAgg94,by rw[underlying94];rfl,by kernel_rfl,rfl⟩
def K0:TI:=⟨1,8,true,(.st [(0,2)]),(.agg #[zzI])⟩
theorem Rh:aR Tryz.prog 101 K0:=⟨sizeOf101,isAgg101,by rw[underlying101];rfl,by kernel_rfl,rfl⟩
theorem Ri:aR Tryz.prog 102 K0:=⟨sizeOf102,isAgg102,by rw[underlying102];rfl,by kernel_rfl,rfl⟩
def K1:TI:=⟨7,56,true,(.st [(0,2),(1,65),(6,2)]),(.agg #[zzI,zzI,zzI,zzI,zzI,zzI,zzI])⟩
theorem Rj:aR Tryz.prog 109 K1:=⟨sizeOf109,isAgg109,by rw[underlying109];rfl,by kernel_rfl,rfl⟩
theorem Rk:aR Tryz.prog 110 K1:=⟨sizeOf110,isAgg110,by rw[underlying110];rfl,by kernel_rfl,rfl⟩
def K2:TI:=⟨3,40,true,(.st [(0,2),(1,2),(2,30)]),(.agg #[zzI,zzI,zzS])⟩
theorem Rl:aR Tryz.prog 119 K2:=⟨sizeOf119,isAgg119,by rw[underlying119];rfl,by kernel_rfl,rfl⟩
theorem Rn:aR Tryz.prog 120 K2:=⟨sizeOf120,isAgg120,by rw[underlying120];rfl,by kernel_rfl,rfl⟩
theorem Ro:aR Tryz.prog 126 O7:=⟨sizeOf126,isAgg126,by rw[underlying126];rfl,by kernel_rfl,rfl⟩
def p9:TI:=⟨4,32,true,(.st [(0,2),(1,2),(2,2),(3,2)]),(.agg #[zzI,zzI,zzI,zzI])⟩
theorem Rp:aR Tryz.prog 150 p9:=⟨sizeOf150,isAgg150,by rw[underlying150];rfl,by kernel_rfl,rfl⟩
theorem Rq:aR Tryz.prog 151 p9:=⟨sizeOf151,isAgg151,by rw[underlying151];rfl,by kernel_rfl,rfl⟩
def qa:TI:=⟨2,16,true,(.st [(0,2),(1,2)]),(.agg #[zzI,zzI])⟩
theorem Rr:aR Tryz.prog 160 qa:=⟨sizeOf160,isAgg160,by rw[underlying160];rfl,by kernel_rfl,rfl⟩
theorem Rs:aR Tryz.prog 161 qa:=⟨sizeOf161,isAgg161,by rw[underlying161];rfl,by kernel_rfl,rfl⟩
theorem Rt:aR Tryz.prog 192 Hz:=⟨sizeOf192,isAgg192,by rw[underlying192];rfl,by kernel_rfl,rfl⟩
theorem Ru:aR Tryz.prog 193 Hz:=⟨sizeOf193,isAgg193,by rw[underlying193];rfl,by kernel_rfl,rfl⟩
def K3:TI:=⟨2,32,true,(.st [(0,2),(1,30)]),(.agg #[zzI,zzS])⟩
theorem Rv:aR Tryz.prog 208 K3:=⟨sizeOf208,isAgg208,by rw[underlying208];rfl,by kernel_rfl,rfl⟩
theorem Rw:aR Tryz.prog 209 K3:=⟨sizeOf209,isAgg209,by rw[underlying209];rfl,by kernel_rfl,rfl⟩
def K4:TI:=⟨8,96,true,(.st [(0,2),(1,56)]),(.agg #[zzI,zzI,zzI,zzS,zzS,zzI,zzI,zzI])⟩
theorem Rx:aR Tryz.prog 230 K4:=⟨sizeOf230,isAgg230,by rw[underlying230];rfl,by kernel_rfl,rfl⟩
theorem Ry:aR Tryz.prog 231 K4:=⟨sizeOf231,isAgg231,by rw[underlying231];rfl,by kernel_rfl,rfl⟩
def K5:TI:=⟨9,72,true,(.st [(0,2),(1,2),(2,2),(3,2),(4,65)]),(.agg #[zzI,zzI,zzI,zzI,zzI,zzI,zzI,zzI,zzI])⟩
theorem RB:aR Tryz.prog 243 K5:=⟨sizeOf243,isAgg243,by rw[underlying243];rfl,by kernel_rfl,rfl⟩
theorem RC:aR Tryz.prog 244 K5:=⟨sizeOf244,isAgg244,by rw[underlying244];rfl,by kernel_rfl,rfl⟩
theorem RD:aR Tryz.prog 248 p9:=⟨sizeOf248,isAgg248,by rw[underlying248];rfl,by kernel_rfl,rfl⟩
theorem RE:aR Tryz.prog 249 p9:=⟨sizeOf249,isAgg249,by rw[underlying249];rfl,by kernel_rfl,rfl⟩
theorem RF:aR Tryz.prog 255 yD:=⟨sizeOf255,isAgg255,by rw[underlying255];rfl,by kernel_rfl,rfl⟩
theorem RG:aR Tryz.prog 256 yD:=⟨sizeOf256,isAgg256,by rw[underlying256];rfl,by kernel_rfl,rfl⟩
def K6:TI:=⟨7,56,true,(.st [(0,2),(1,2),(2,65)]),(.agg #[zzI,zzI,zzI,zzI,zzI,zzI,zzI])⟩
theorem RH:aR Tryz.prog 261 K6:=⟨sizeOf261,isAgg261,by rw[underlying261];rfl,by kernel_rfl,rfl⟩
theorem RI:aR Tryz.prog 262 K6:=⟨sizeOf262,isAgg262,by rw[underlying262];rfl,by kernel_rfl,rfl⟩
theorem RJ:aR Tryz.prog 269 Hy:=⟨sizeOf269,isAgg269,by rw[underlying269];rfl,by kernel_rfl,rfl⟩
theorem RK:aR Tryz.prog 270 Hy:=⟨sizeOf270,isAgg270,by rw[underlying270];rfl,by kernel_rfl,rfl⟩
theorem RL:aR Tryz.prog 276 p9:=⟨sizeOf276,isAgg276,by rw[underlying276];rfl,by kernel_rfl,rfl⟩
theorem RM:aR Tryz.prog 277 p9:=⟨sizeOf277,isAgg277,by rw[underlying277];rfl,by kernel_rfl,rfl⟩
theorem RN:aR Tryz.prog 280 yD:=⟨sizeOf280,isAgg280,by rw[underlying280];rfl,by kernel_rfl,rfl⟩
theorem RO:aR Tryz.prog 281 yD:=⟨sizeOf281,isAgg281,by rw[underlying281];rfl,by kernel_rfl,rfl⟩
theorem RP:aR Tryz.prog 314 qa:=⟨sizeOf314,isAgg314,by rw[underlying314];rfl,by kernel_rfl,rfl⟩
theorem RQ:aR Tryz.prog 315 qa:=⟨sizeOf315,isAgg315,by rw[underlying315];rfl,by kernel_rfl,rfl⟩
theorem RR:aR Tryz.prog 334 qa:=⟨sizeOf334,isAgg334,by rw[underlying334];rfl,by kernel_rfl,rfl⟩
theorem RS:aR Tryz.prog 335 qa:=⟨sizeOf335,isAgg335,by rw[underlying335];rfl,by kernel_rfl,rfl⟩
def Pw:TI:=⟨1,4,false,(.int .u32),(.int .u32 0)⟩
theorem RT:aR Tryz.prog 398 Pw:=⟨sizeOf398,isAgg398,by rw[underlying398];rfl,by kernel_rfl,rfl⟩
def Px:TI:=⟨1,8,false,(.ptr 5),(.pointer none)⟩
theorem RU:aR Tryz.prog 402 Px:=⟨sizeOf402,isAgg402,by rw[underlying402];rfl,by kernel_rfl,rfl⟩
def tys:TT:=(.node 71 Pi (.node 46 Hy (.node 32 O8 (.node 13 QS (.node 5 ti5 (.node 3 ti2 (.node 2 ti2 .leaf .leaf) (.node 4 ti4 .leaf .leaf)) (.node 12 O7 (.node 9 ti9 .leaf .leaf) .leaf)) (.node 24 QV (.node 22 QU (.node 21 QT .leaf .leaf) .leaf) (.node 31 O8 (.node 30 QW .leaf .leaf) .leaf))) (.node 40 Pa (.node 37 QZ (.node 36 QY (.node 34 QX .leaf .leaf) .leaf) (.node 39 O9 (.node 38 O9 .leaf .leaf) .leaf)) (.node 43 Pb (.node 42 Q0 (.node 41 Pa .leaf .leaf) .leaf) (.node 45 Q3 (.node 44 Pb .leaf .leaf) .leaf)))) (.node 59 Q7 (.node 53 Hz (.node 50 Pc (.node 48 Q4 (.node 47 Hy .leaf .leaf) (.node 49 Pc .leaf .leaf)) (.node 52 Q6 (.node 51 Q5 .leaf .leaf) .leaf)) (.node 56 Pd (.node 55 Pd (.node 54 Hz .leaf .leaf) .leaf) (.node 58 Pe (.node 57 Pe .leaf .leaf) .leaf))) (.node 65 yD (.node 62 Pg (.node 61 Pf (.node 60 Pf .leaf .leaf) .leaf) (.node 64 yD (.node 63 Pg .leaf .leaf) .leaf)) (.node 68 Q8 (.node 67 Ph (.node 66 Ph .leaf .leaf) .leaf) (.node 70 Pi (.node 69 Q9 .leaf .leaf) .leaf))))) (.node 208 K3 (.node 102 K0 (.node 78 Pk (.node 75 Pj (.node 73 Rb (.node 72 Ra .leaf .leaf) (.node 74 Pj .leaf .leaf)) (.node 77 Pk (.node 76 Rc .leaf .leaf) .leaf)) (.node 93 Pm (.node 86 Re (.node 85 Rd .leaf .leaf) .leaf) (.node 101 K0 (.node 94 Pm .leaf .leaf) .leaf))) (.node 150 p9 (.node 119 K2 (.node 110 K1 (.node 109 K1 .leaf .leaf) .leaf) (.node 126 O7 (.node 120 K2 .leaf .leaf) .leaf)) (.node 161 qa (.node 160 qa (.node 151 p9 .leaf .leaf) .leaf) (.node 193 Hz (.node 192 Hz .leaf .leaf) .leaf)))) (.node 269 Hy (.node 248 p9 (.node 231 K4 (.node 230 K4 (.node 209 K3 .leaf .leaf) .leaf) (.node 244 K5 (.node 243 K5 .leaf .leaf) .leaf)) (.node 256 yD (.node 255 yD (.node 249 p9 .leaf .leaf) .leaf) (.node 262 K6 (.node 261 K6 .leaf .leaf) .leaf))) (.node 314 qa (.node 277 p9 (.node 276 p9 (.node 270 Hy .leaf .leaf) .leaf) (.node 281 yD (.node 280 yD .leaf .leaf) .leaf)) (.node 335 qa (.node 334 qa (.node 315 qa .leaf .leaf) .leaf) (.node 402 Px (.node 398 Pw .leaf .leaf) .leaf))))))
theorem Qa:tys.ok Tryz.prog:=⟨Tg,⟨SR,⟨SF,⟨Sz,⟨ty5,⟨ty3,⟨ty2,trivial,trivial⟩,⟨ty4,trivial,trivial⟩⟩,⟨Sy,⟨ty9,trivial,trivial⟩,trivial⟩⟩,⟨SC,⟨SB,⟨SA,trivial,trivial⟩,trivial⟩,⟨SE,⟨SD,trivial,trivial⟩,trivial⟩⟩⟩,⟨SL,⟨SI,⟨SH,⟨SG,trivial,trivial⟩,trivial⟩,⟨SK,⟨SJ,trivial,trivial⟩,trivial⟩⟩,⟨SO,⟨SN,⟨SM,trivial,trivial⟩,trivial⟩,⟨SQ,⟨SP,trivial,trivial⟩,trivial⟩⟩⟩⟩,⟨S4,⟨SY,⟨SV,⟨ST,⟨SS,trivial,trivial⟩,⟨SU,trivial,trivial⟩⟩,⟨SX,⟨SW,trivial,trivial⟩,trivial⟩⟩,⟨S1,⟨S0,⟨SZ,trivial,trivial⟩,trivial⟩,⟨S3,⟨S2,trivial,trivial⟩,trivial⟩⟩⟩,⟨Ta,⟨S7,⟨S6,⟨S5,trivial,trivial⟩,trivial⟩,⟨S9,⟨S8,trivial,trivial⟩,trivial⟩⟩,⟨Td,⟨Tc,⟨Tb,trivial,trivial⟩,trivial⟩,⟨Tf,⟨Te,trivial,trivial⟩,trivial⟩⟩⟩⟩⟩,⟨Rv,⟨Ri,⟨Tn,⟨Tk,⟨Ti,⟨Th,trivial,trivial⟩,⟨Tj,trivial,trivial⟩⟩,⟨Tm,⟨Tl,trivial,trivial⟩,trivial⟩⟩,⟨Tq,⟨Tp,⟨To,trivial,trivial⟩,trivial⟩,⟨Rh,⟨Tr,trivial,trivial⟩,trivial⟩⟩⟩,⟨Rp,⟨Rl,⟨Rk,⟨Rj,trivial,trivial⟩,trivial⟩,⟨Ro,⟨Rn,trivial,trivial⟩,trivial⟩⟩,⟨Rs,⟨Rr,⟨Rq,trivial,trivial⟩,trivial⟩,⟨Ru,⟨Rt,trivial,trivial⟩,trivial⟩⟩⟩⟩,⟨RJ,⟨RD,⟨Ry,⟨Rx,⟨Rw,trivial,trivial⟩,trivial⟩,⟨RC,⟨RB,trivial,trivial⟩,trivial⟩⟩,⟨RG,⟨RF,⟨RE,trivial,trivial⟩,trivial⟩,⟨RI,⟨RH,trivial,trivial⟩,trivial⟩⟩⟩,⟨RP,⟨RM,⟨RL,⟨RK,trivial,trivial⟩,trivial⟩,⟨RO,⟨RN,trivial,trivial⟩,trivial⟩⟩,⟨RS,⟨RR,⟨RQ,trivial,trivial⟩,trivial⟩,⟨RU,⟨RT,trivial,trivial⟩,trivial⟩⟩⟩⟩⟩⟩
noncomputable def av:a6:=⟨Tryz.prog,tys,λ_=>True⟩
theorem aL:av.Ok:=⟨Qa,by kernel_rfl,λ_ _ h _=>h⟩
theorem pO{f:FuncId}{fn:Func}{n:Nat}{rs:Array ResultVar}{args:List AP1}{res:AP}(hf:av.P.funcs[f]? =some fn)(enter:∀(us:Array Value) w,(callFunc f us).run av.P w= .ok (.enter f us) w)(hn:fn.ntmps=n)(hrs:fn.results=rs)(h:∀S,zk args n λtm=>AWP av S c (QN av rs.toList res) ⟨tm,[]⟩)(hb:fn.body=some c:=by rfl):aM av f args res:=NO aL hf hb enter hn (congrArg Array.toList hrs) h
theorem aw0(h:AWP av S x (PZ av S y K) st):AWP av S (.seq x y) K st:=AWP.seq h
theorem aw1{id:Nat}{ops:Array Oper}(h:tL av S ops.toList ops.toList st (K .normal)):AWP av S (.region id ops false) K st:=AWP.region aL h
theorem aw2(h:K .ret st):AWP av S .ret K st:=AWP.ret h
theorem aw3(h:K .normal st):AWP av S .skip K st:=AWP.skip h
theorem aw4{id:Nat}(h:K (.exit id) st):AWP av S (.exit id) K st:=AWP.exit h
theorem aw5{id:Nat}(h:AWP av S c (HX id K) st):AWP av S (.block id c) K st:=AWP.block h
theorem aw6{c:Operand}(h:aEv st c λv=>vk v (AWP av S x K st) (AWP av S y K st)):AWP av S (.cond c x y) K st:=AWP.cond h
theorem cP{Q K P:Prop}(h:Q)(k:K)(t:Q->K->P:=by first|exact λh k=>Tt h rfl k|exact λh k=>aH.mk ⟨_,_,h,.inl rfl,k⟩):P:=t h k
theorem aw7(h:X):AB true X Y:=V3 h
theorem aw8(h:Y):AB false X Y:=V2 h
end
section
variable {st:ASt}{K:ASt->Prop}{p:Bool}{o:Oper}{X Y:Prop}{α:Type}{E:a6}{S:bj}
theorem Tw(h:p=true)(hx:X):AB p X Y:=⟨λ_=>hx,λe=>(by rw[h]at e;cases e)⟩
theorem Tv(h:p=false)(hy:Y):AB p X Y:=⟨λe=>(by rw[h]at e;cases e),λ_=>hy⟩
theorem bT(hx:X)(h:p=true:=by assumption):AB p X Y:=Tw h hx
theorem bF(hy:Y)(h:p=false:=by assumption):AB p X Y:=Tv h hy
theorem AOp.reads(h:∀Z ρ a w,Sim E.W S Z ρ st a w->io E Z ρ o a w λv=>eT st o.dst v K):AOp E S o st K:=by
 refine⟨λa w Q hs=>?_⟩;obtain⟨Z,ρ,hs⟩:=hs;exact jA hs (h Z ρ a w hs) Q
theorem TO{enc:α->List AD}{l:List α}{k:Nat}{K:Nat->List AD->Prop}(hk:k<l.length)(h:∀_:k<l.length,K k (enc l[k])):AIx (l.map enc) (k:Int) K:=TJ hk (h hk)
def eU(n:Int):List AD:=[.pv (.int .u8 n)]
theorem NU{Z:Nat->Prop}{w:World}{v u:Value}(h:bK Z w (.pv v) u):u=v:=by cases h;rfl
theorem FI{β:Type}(f:α->β):∀l:List α,(l.map λx=>[f x]).flatten=l.map f
 |[]=>rfl
 |x::r=>by rw[List.map_cons,List.flatten_cons,FI f r];rfl
theorem AOp.bytes{S:bj}{st:ASt}{K:ASt->Prop}{src dst e:TypeId}{x:Operand}(l:List Int)(ho:o.op= .convert src dst x)(hs:E.P.underlying src=some (.slice e))(he:E.P.underlying e=some (.int .u8))(hd:E.P.underlying dst=some .string)
  (hx:aEv st x λv=>qW st v λxs=>xs=l.map eU) (hk:eT st o.dst (vS (strOfNums l)) K):AOp E S o st K:=by
 refine .reads λZ ρ a w hsim=>?_;obtain⟨v,hv,hx⟩:=a7 hsim hx;obtain⟨xs,A,cap,hval,hcap,rfl,s,us,h1,h2,h3,h4,h5⟩:=uz hsim hv hx;have hlen:(l.map eU).length=l.length:=ai;have hus:us=l.map λn=>[Value.int .u8 n]:=by
  apply List.ext_getElem?;intro i;rw[List.getElem?_map];cases hl:l[i]? with
  |none=>rw[List.getElem?_eq_none];rfl;rw[h1,hlen];exact List.getElem?_eq_none_iff.1 hl
  |some n=>
   have hlt:i<us.length:=by rw[h1,hlen];exact(List.getElem?_eq_some_iff.1 hl).1
   rw[List.getElem?_eq_getElem hlt];have hx:(l.map eU)[i]? =some (eU n):=by simp[hl]
   have hs1:s=1:=(h2 _ (List.mem_of_getElem? hx)).symm;have hu:=h3 us[i] (List.getElem_mem hlt);rw[hs1]at hu;obtain⟨y,hy⟩:=List.length_eq_one_iff.1 hu;have:=NU (h5 i 0 _ _ _ y hx (List.getElem?_eq_getElem hlt) rfl (by rw[hy];rfl));simp[hy,this]
 have hfl:us.flatten=l.map (Value.int .u8):=by rw[hus];exact FI (λn=>Value.int .u8 n) l
 rw[hfl]at h4;rw[hlen]at hval;refine⟨_,_,cC rfl,?_,hk⟩;have key:(convert src dst (.slice A l.length cap)).run E.P w= .ok (.string (strOfNums l)) w:=by
  rcases h4 with h4|⟨b,off,rfl,hc⟩
  ·have:l=[]:=by simpa using h4
   subst this;cases A with
   |none=>exact run_convert_bytes_nil w src e hs he 0 cap dst hd
   |some ad=>
    have hl:(loadCells ad 0).run E.P w= .ok (([]:List Int).map (Value.int .u8)).toArray w:=by
     have:=run_loadCells_list (P:=E.P) w ad [] (λj v hj=>by simp at hj);simpa using this
    rw[show([]:List Int).length=0 from rfl,run_convert_bytes_string w src dst e _ 0 cap hs he hd,run_bytesToString w _ 0 cap [] hl,foldl_push_bytes];simp[strOfNums,ByteArray.empty,ByteArray.emptyWithCapacity];rfl
  ·refine run_convert_bytes_arg w src e hs he b off l.length cap l rfl (λi hi=>?_) dst hd;refine(hc i _ ?_);simp[List.getD,hi]
 simp[execOp,ho,hval,key]
end
section
def Kz(v:Value):Option (DataW Value×List MemPlace):=some (.held v,[])
def atF(f:Int->Option Value)(x:Int)(z:DataW Value):DataW Value:=match f x with|some v=> .held v|none=>z
def R5(P:Program)(k:TypeId)(N:Nat)(f:Int->Option Value)(w:World)(v:Value):Prop:=
 ∃b n D,v= .map (some b)/\n<=N/\w.ownsMap P k Kz b n D/\∀x:Int,(Lit.int .i64 x).wf=true->Maps.has D (.int .i64 x)=(f x).isSome/\∀z,D.atKey (.int .i64 x) z=atF f x z
def OS(P:Program)(k:TypeId)(N:Nat)(f:Int->Option Value):AO:= .any (R5 P k N f)
section
variable {P:Program} {k:TypeId} {N:Nat} {f:Int->Option Value} {Z:Nat->Prop} {w:World} {ρ:Nat->Value} {id:Nat}
theorem Ny(h:cu Z w ρ id (OS P k N f)):∃b n D,ρ id= .map (some b)/\n<=N/\w.ownsMap P k Kz b n D/\∀x:Int,(Lit.int .i64 x).wf=true->Maps.has D (.int .i64 x)=(f x).isSome/\∀z,D.atKey (.int .i64 x) z=atF f x z:=by
 obtain⟨b,_,_,hq⟩:=h;exact hq w rfl
end
section
variable {E:a6} {S:bj} {o:Oper} {st:ASt} {K:ASt->Prop} {k e:TypeId} {N:Nat} {f:Int->Option Value}
theorem Ak{Z:Nat->Prop}{ρ:Nat->Value}{a:Act}{w:World}{t:TypeId}{x i:Operand}{ok:Bool}{id:Nat}{n:Int}{z:Value}(hs:Sim E.W S Z ρ st a w)(ho:o.op= .lookup t x i ok)(ht:E.P.underlying t=some (.map k e))(hk:E.P.underlying k=some (.int .i64))(hz:∀w,(zeroValue e).run E.P w= .ok z w)
  (hx:aEv st x λv=>v= .one (.own id)) (hi:aEv st i λv=>v=vI .i64 n) (hob:aOb st.ob id λo=>o=OS E.P k N f) (hn:(Lit.int .i64 n).wf=true) (r:AV) (hr:∀Z w ρ,bv Z w ρ r ((f n).getD z)):
  ∃u,bv Z w ρ (match(generalizing:=false) ok with|true=> .tup [r,vB (f n).isSome]|false=>r) u/\(execOp a.eval o).run E.P w= .ok (.value u) w:=by
 obtain⟨vx,hvx,rfl⟩:=a7 hs hx;obtain⟨vi,hvi,rfl⟩:=a7 hs hi;obtain⟨ob,hob,rfl⟩:=bY hob;obtain⟨b,m,D,hρ,hm,hown,hf⟩:=Ny (Z:=Z) (w:=w) (hs.ws.obj id _ hob);have e1:a.eval x= .map (some b):=by
  cases hvx with
  |one _ _ h=>exact h.1.trans hρ
 have e2:a.eval i= .int .i64 n:=bE hvi;have hl:=Maps.int_keyed hk;have hkey:=Maps.keyOf_int_mk hk hn;have at_:D.atKey (.int .i64 n) (.held z)= .held ((f n).getD z):=by
  rw[(hf n hn).2];unfold atF;cases f n<;>rfl
 cases ok with
 |false=>
  obtain⟨v,ps,hrun,hv⟩:=hown.lookup hl ht (hz w) (zd:= .held z) (zp:=[]) rfl hkey;have hv':v=(f n).getD z:=by
   simp only[Kz,Option.some.injEq,Prod.mk.injEq]at hv;rw[at_]at hv;injection hv.1
  exact⟨v,by rw[hv'];exact hr Z w ρ,by simp[execOp,ho,e1,e2,hrun]⟩
 |true=>
  obtain⟨v,ps,hrun,hv⟩:=hown.look_ok hl ht (hz w) (zd:= .held z) (zp:=[]) rfl hkey;have hv':v=(f n).getD z:=by
   simp only[Kz,Option.some.injEq,Prod.mk.injEq]at hv;rw[at_]at hv;injection hv.1
  refine⟨.tuple #[v,.bool (Maps.has D (.int .i64 n))],?_,by simp[execOp,ho,e1,e2,hrun]⟩;have:(Value.tuple #[v,.bool (Maps.has D (.int .i64 n))])= .tuple [v,.bool (Maps.has D (.int .i64 n))].toArray:=rfl;rw[this];refine .tup _ _ rfl λj c u hc hu=>?_;match j,hc,hu with
  |0,hc,hu=>simp at hc hu;subst hc hu;rw[hv'];exact hr Z w ρ
  |1,hc,hu=>simp at hc hu;subst hc hu;rw[(hf n hn).1];exact cC rfl
  |j+2,hc,_=>simp at hc
theorem Wq{t:TypeId}{x i:Operand}{ok:Bool}{id:Nat}{n:Int}{z:Value}(ho:o.op= .lookup t x i ok)(ht:E.P.underlying t=some (.map k e))(hk:E.P.underlying k=some (.int .i64))(hz:∀w,(zeroValue e).run E.P w= .ok z w)
  (hx:aEv st x λv=>v= .one (.own id)) (hi:aEv st i λv=>v=vI .i64 n) (hob:aOb st.ob id λo=>o=OS E.P k N f) (hn:(Lit.int .i64 n).wf=true) (r:AV) (hr:∀Z w ρ,bv Z w ρ r ((f n).getD z))
  (hK:eT st o.dst (match(generalizing:=false) ok with|true=> .tup [r,vB (f n).isSome]|false=>r) K):AOp E S o st K:=by
 refine .reads λZ ρ a w hs=>?_;obtain⟨u,hu,hrun⟩:=Ak hs ho ht hk hz hx hi hob hn r hr;exact⟨_,u,hu,hrun,hK⟩
theorem Wo{K:AV->Prop}{t:TypeId}{x i:Operand}{ok:Bool}{id:Nat}{n:Int}{z:Value}(ho:o.op= .lookup t x i ok)(ht:E.P.underlying t=some (.map k e))(hk:E.P.underlying k=some (.int .i64))(hz:∀w,(zeroValue e).run E.P w= .ok z w)
  (hx:aEv st x λv=>v= .one (.own id)) (hi:aEv st i λv=>v=vI .i64 n) (hob:aOb st.ob id λo=>o=OS E.P k N f) (hn:(Lit.int .i64 n).wf=true) (r:AV) (hr:∀Z w ρ,bv Z w ρ r ((f n).getD z))
  (hK:K (match(generalizing:=false) ok with|true=> .tup [r,vB (f n).isSome]|false=>r)):kT E o st K:=
 ⟨_,hK,λS Z ρ a w hs=>Ak hs ho ht hk hz hx hi hob hn r hr⟩
end
end
def Ey:AD->Value
 | .pv v=>v
 |_=>undef
def AD.isPv:AD->Bool
 | .pv _=>true
 |_=>false
def Wy:AP1->Value
 | .one d=>Ey d
 | .agg ds=> .agg (ds.map Ey).toArray
theorem Ez{Z:Nat->Prop}{w:World}{d:AD}{u:Value}(h:d.isPv=true)(hr:bK Z w d u):u=Ey d:=by
 cases hr with
 |pv=>rfl
 |sl=>cases h
 |x=>cases h
section
structure Cps {α:Type} (F:(α->Prop)->Prop):Prop where
 mono:∀{P Q:α->Prop},(∀x,P x->Q x)->F P->F Q
 dj:∀{K:α->Prop},F K->∃x,K x/\F (· =x)
section
variable {α β γ:Type}
theorem Cps.ret(x:α):Cps λK:α->Prop=>K x:=⟨λh hp=>h x hp,λh=>⟨x,h,rfl⟩⟩
theorem TM:Cps λ_:α->Prop=>False:=⟨λ_ h=>h,λh=>h.elim⟩
theorem Cps.bind{G:(β->Prop)->Prop}{H:β->(α->Prop)->Prop}(hg:Cps G)(hh:∀y,Cps (H y)):Cps λK=>G λy=>H y K:=
 ⟨λh hp=>hg.mono (λy=>(hh y).mono h) hp,λhk=>by
  obtain⟨y,hy,g⟩:=hg.dj hk;obtain⟨x,hx,e⟩:=(hh y).dj hy;exact⟨x,hx,hg.mono (λy' e'=>by subst e';exact e) g⟩⟩
theorem Cps.map{G:(β->Prop)->Prop}(hg:Cps G)(f:β->α):Cps λK=>G λy=>K (f y):=hg.bind λy=>Cps.ret (f y)
theorem Cps.and{F:(α->Prop)->Prop}(p:Prop)(hf:Cps F):Cps λK=>p/\F K:=
 ⟨λh hp=>⟨hp.1,hf.mono h hp.2⟩,λhk=>by obtain⟨x,hx,e⟩:=hf.dj hk.2;exact⟨x,hx,hk.1,e⟩⟩
theorem Vh{F:β->(α->Prop)->Prop}(hf:∀y,Cps (F y)):Cps λK=>∃y,F y K:=
 ⟨λh ⟨y,hp⟩=>⟨y,(hf y).mono h hp⟩,fun⟨y,hk⟩=>by obtain⟨x,hx,e⟩:=(hf y).dj hk;exact⟨x,hx,y,e⟩⟩
theorem V6{F G:(α->Prop)->Prop}(p:Bool)(hf:Cps F)(hg:Cps G):Cps λK=>AB p (F K) (G K):=by
 cases p with
 |true=>exact⟨λh hp=>V3 (hf.mono h (hp.t rfl)),λhk=>by obtain⟨x,hx,e⟩:=hf.dj (hk.t rfl);exact⟨x,hx,V3 e⟩⟩
 |false=>exact⟨λh hp=>V2 (hg.mono h (hp.f rfl)),λhk=>by obtain⟨x,hx,e⟩:=hg.dj (hk.f rfl);exact⟨x,hx,V2 e⟩⟩
theorem Uh(k:IntKind)(n:Int){F:Int->(α->Prop)->Prop}(hf:∀c,Cps (F c)):Cps λK=>AW k n λc=>F c K:=
 ⟨λh ⟨⟨c,e,hp⟩⟩=>⟨⟨c,e,(hf c).mono h hp⟩⟩,fun⟨⟨c,e,hk⟩⟩=>by obtain⟨x,hx,g⟩:=(hf c).dj hk;exact⟨x,hx,⟨⟨c,e,g⟩⟩⟩⟩
theorem Vg(xs:List (List AD))(n:Int){F:Nat->List AD->(α->Prop)->Prop}(hf:∀k x,Cps (F k x)):Cps λK=>AIx xs n λk x=>F k x K:=
 ⟨λh ⟨⟨k,x,e1,e2,hp⟩⟩=>⟨⟨k,x,e1,e2,(hf k x).mono h hp⟩⟩,fun⟨⟨k,x,e1,e2,hk⟩⟩=>by obtain⟨y,hy,g⟩:=(hf k x).dj hk;exact⟨y,hy,⟨⟨k,x,e1,e2,g⟩⟩⟩⟩
theorem T7{F G:(α->Prop)->Prop}(h:∀K,F K=G K)(hg:Cps G):Cps F:=by
 have:F=G:=funext h;rw[this];exact hg
end
section
variable {E:a6} {st:ASt}
theorem Kf:∀(l:List AV) (n:Nat),Cps (aTm l n)
 |[],_=>TM
 |x::_,0=>Cps.ret x
 |_::r,n+1=>Kf r n
theorem yE:∀(l:List (Nat×AO)) (i:Nat),Cps (aOb l i)
 |[],_=>TM
 |(k,o)::r,i=>by
  refine T7 (G:=λK=>match Nat.beq k i with|true=>K o|false=>aOb r i K) (λK=>rfl) ?_;cases Nat.beq k i with
  |true=>exact Cps.ret o
  |false=>exact yE r i
theorem qV{α:Type}:∀(l:List α) (n:Nat),Cps (nq l n)
 |[],_=>TM
 |x::_,0=>Cps.ret x
 |_::r,n+1=>qV r n
theorem nj{α:Type}:∀(l:List α) (n:Nat),Cps (vn l n)
 |l,0=>by refine T7 (G:=λK=>K l) (λK=>by cases l<;>rfl) (Cps.ret l)
 |[],n+1=>TM
 |_::r,n+1=>nj r n
theorem Cz{α:Type}:∀(n:Nat) (l:List α),Cps (Ke l n)
 |0,l=>by refine T7 (G:=λK=>K []) (λK=>by cases l<;>rfl) (Cps.ret [])
 |n+1,[]=>TM
 |n+1,x::r=>(Cz n r).map λr'=>x::r'
theorem td:∀(l:List AD),Cps (xB l)
 |[]=>Cps.ret []
 |x::r=>(td r).map λr'=>AC.d x::r'
theorem c8(T:TT)(t:TypeId):Cps (aTI T t):=by
 unfold aTI;cases T.get t with
 |some i=>exact Cps.ret i
 |none=>exact TM
theorem zt(v:Value):Cps (DP v):=T7 (G:=λK=>K (ofC v)) (λK=>by unfold DP ofC;split<;>rfl) (Cps.ret _)
theorem zv:∀l:List Value,Cps (Lk l)
 |[]=>Cps.ret []
 |v::r=>(zt v).bind λc=>(zv r).map λr'=>c::r'
theorem dc(x:Operand):Cps (aEv st x):=by
 cases x with
 |tmp t=>exact Kf _ _
 |const v=>
  by_cases hv:∃cs,v= .agg cs
  ·obtain⟨cs,rfl⟩:=hv;exact(zv cs.toList).map AV.agg
  ·have key:∀K,aEv st (.const v) K=DP v λc=>K (AV.one c):=λK=>by
    cases v<;>first|rfl|exact absurd ⟨_,rfl⟩ hv
   exact T7 key ((zt v).map AV.one)
 |func f=>exact Cps.ret _
 |global g=>exact TM
theorem vo:∀xs:List Operand,Cps (DK st xs)
 |[]=>Cps.ret []
 |x::r=>(dc x).bind λv=>(vo r).map λr'=>v::r'
theorem vw(i:TI)(cs:List AC):Cps (qZ i cs):=by
 unfold qZ;cases i.agg with
 |true=>exact(Cz _ _).map AV.agg
 |false=>
  cases cs with
  |nil=>exact TM
  |cons c r=>exact Cps.ret _
theorem vu:∀l:List AC,Cps (Fs l)
 |[]=>Cps.ret []
 |c::r=>by
  cases c with
  |d x=>exact(vu r).map λr'=>x::r'
  |nil=>exact(vu r).map λr'=>AD.sl []::r'
  |_=>exact TM
theorem Lh(op:BinOp)(k:IntKind)(a b:Int):Cps (xA op k a b):=by
 cases op with
 |add=>exact Uh _ _ λc=>Cps.ret _
 |sub=>exact Uh _ _ λc=>Cps.ret _
 |mul=>exact Uh _ _ λc=>Cps.ret _
 |quo=>exact Cps.and _ (Uh _ _ λc=>Cps.ret _)
 |rem=>exact Cps.and _ (Cps.ret _)
 |shr=>
  refine T7 (G:=λK=>match decide (0<=b)with|true=>K (vI k (Mx k a b))|false=>False) (λK=>rfl) ?_;cases decide (0<=b)with
  |true=>exact Cps.ret _
  |false=>exact TM
 |_=>first|exact Cps.ret _|exact TM
theorem Cy(op:BinOp)(a b:ByteArray):Cps (Kd op a b):=by
 cases op with
 |add=>exact Cps.and _ (Cps.ret _)
 |_=>first|exact Cps.ret _|exact TM
theorem HF(op:BinOp)(a b:Bool):Cps (DI op a b):=by
 cases op with
 |_=>first|exact Cps.ret _|exact TM
theorem Cw(op:BinOp)(k k':IntKind)(a b:Int):Cps (λK=>match zJ k k' with|true=>xA op k a b K|false=>False):=by
 cases zJ k k' with
 |true=>exact Lh ..
 |false=>exact TM
theorem y5(op:BinOp)(t:TypeId)(a b:Bool):Cps (λK=>aTI E.T t λi=>match i.kind with| .bool=>DI op a b K|_=>False):=
 (c8 _ _).bind λi=>by
  cases i.kind with
  |bool=>exact HF ..
  |_=>exact TM
theorem MX{α:Type}(f:AV->α)(op:BinOp)(t:TypeId)(x y:AV){F:(α->Prop)->Prop}(hF:Cps F):Cps λK=>Lb E op t x y (F K) λv=>K (f v):=by
 refine⟨fun{P Q} hpq h=>?_,fun{K} h=>?_⟩<;>unfold Lb at h⊢<;>split at h
 all_goals first
  |exact hF.mono hpq h
  |exact hF.dj h
  |exact((Cw ..).map f).mono hpq h
  |exact((Cw ..).map f).dj h
  |exact((Cy ..).map f).mono hpq h
  |exact((Cy ..).map f).dj h
  |exact((y5 ..).map f).mono hpq h
  |exact((y5 ..).map f).dj h
theorem yT{α:Type}(f:AV->α)(o:Oper):Cps λK=>kT E o st λv=>K (f v):=
 ⟨λhpq h=>by obtain⟨v,hk,hr⟩:=h.h;exact⟨v,hpq _ hk,hr⟩,λh=>by obtain⟨v,hk,hr⟩:=h.h;exact⟨_,hk,⟨v,rfl,hr⟩⟩⟩
theorem Oq(op:UnOp)(x:AV):Cps (aUn op x False):=by
 refine⟨fun{P Q} hpq h=>?_,fun{K} h=>?_⟩<;>unfold aUn at h⊢<;>split at h
 all_goals first
  |exact h.elim
  |exact(Cps.ret _).mono hpq h
  |exact(Cps.ret _).dj h
  |exact(Uh _ _ λc=>Cps.ret _).mono hpq h
  |exact(Uh _ _ λc=>Cps.ret _).dj h
theorem g7{α:Type}(b:Bool){F:(α->Prop)->Prop}(hf:Cps F):Cps λK=>match(generalizing:=false) b with|true=>F K|false=>False:=by
 cases b with
 |true=>exact hf
 |false=>exact TM
theorem Lf(s d:TypeId)(x:AV):Cps (Ce E s d x False):=by
 refine⟨fun{P Q} hpq h=>?_,fun{K} h=>?_⟩<;>unfold Ce at h⊢<;>split at h
 all_goals first
  |exact h.elim
  |skip
 ·rename_i k n;exact((c8 E.T s).bind λ_=>(c8 E.T d).bind (H:=λi K=>match i.kind with| .int k=>AW k n λc=>K (vI k c)|_=>False) λi=>by
   cases i.kind with
   |int k=>exact Uh _ _ λc=>Cps.ret _
   |_=>exact TM).mono hpq h
 ·rename_i k n;exact((c8 E.T s).bind λ_=>(c8 E.T d).bind (H:=λi K=>match i.kind with| .int k=>AW k n λc=>K (vI k c)|_=>False) λi=>by
   cases i.kind with
   |int k=>exact Uh _ _ λc=>Cps.ret _
   |_=>exact TM).dj h
theorem zf(t:TypeId)(x:AV)(f:Nat):Cps (jY E t x f):=by
 unfold jY;refine(c8 _ _).bind λi=>?_;cases i.kind with
 |st fs=>
  refine(qV _ _).bind λp=>(c8 _ _).bind λj=>?_;cases j.size with
  |zero=>exact TM
  |succ n=>
   cases x with
   |one c=>
    cases c with
    |ref id k s off=>exact Cps.ret _
    |ptr cs=>exact(nj _ _).bind λr=>Cps.ret _
    |_=>exact TM
   |_=>exact TM
 |_=>exact TM
theorem Lj(t:TypeId)(x:AV):Cps (tZ E st t x):=by
 unfold tZ;refine(c8 _ _).bind λi=>?_;cases x with
 |one c=>
  cases c with
  |ref id k s off=>
   refine(yE _ _).bind λo=>?_;cases o with
   |cells u cs=>
    cases k with
    |zero=>exact(nj _ _).bind λr=>vw _ _
    |succ k=>exact TM
   |row e s' xs=>exact g7 _ (Vg _ _ λ_ x=>(nj _ _).bind λr=>(td _).bind λr=>vw _ _)
   |frame vs us=>exact TM
   |any Q=>exact TM
   |many P Q=>exact TM
  |ptr cs=>exact(td _).bind λcs=>vw _ _
  |_=>exact TM
 |_=>exact TM
theorem oH(x:AV):Cps (lD x):=by
 cases x with
 |one c=>exact g7 _ (Cps.ret _)
 |agg cs=>exact g7 _ (Cps.ret _)
 |tup vs=>exact TM
theorem CB(z:Value):Cps (vz z):=by
 by_cases hv:∃cs,z= .agg cs
 ·obtain⟨cs,rfl⟩:=hv;exact(zv cs.toList).bind λl=>g7 _ (Cps.ret _)
 ·have key:∀K,vz z K=DP z λc=>match iG [c]with|true=>K [c]|false=>False:=λK=>by
   cases z<;>first|rfl|exact absurd ⟨_,rfl⟩ hv
  exact T7 key ((zt z).bind λc=>g7 _ (Cps.ret _))
theorem kz:∀(l:List AC) (n:Nat) (xs:List AC),Cps (lk l n xs)
 |l,0,[]=>by refine T7 (G:=λK=>K l) (λK=>by cases l<;>rfl) (Cps.ret l)
 |_::r,0,x::xs=>(kz r 0 xs).map λr'=>x::r'
 |c::r,n+1,xs=>by
  refine T7 (G:=λK=>lk r n xs λr'=>K (c::r')) (λK=>by cases xs<;>rfl) ((kz r n xs).map λr'=>c::r')
 |[],0,_::_=>TM
 |[],_+1,[]=>TM
 |[],_+1,_::_=>TM
theorem wN{place:Nat->(Nat×Nat->Prop)->Prop}(hp:∀n,Cps (place n)):∀(ps:List (Nat×Operand)) (l:List AC),Cps (Fd st place ps l)
 |[],l=>Cps.ret l
 |(i,x)::r,l=>(hp i).bind λp=>(dc x).bind λv=>(oH v).bind λvs=>g7 _ ((kz _ _ _).bind λl'=>wN hp r l')
theorem xC:∀fs:List (Nat×TypeId),Cps (yF E fs)
 |[]=>Cps.ret []
 |p::r=>(c8 _ _).bind λj=>(xC r).map λq=>(p.1,j.size)::q
theorem HH(t:TypeId)(ps:List (Nat×Operand)):Cps (y8 E st t ps):=by
 unfold y8;refine(c8 _ _).bind λi=>(CB _).bind λz=>?_;cases i.kind with
 |st fs=>exact(xC _).bind λplaces=>(wN (λn=>qV _ _) _ _).bind λl=>Cps.ret _
 |arr n e=>exact(c8 _ _).bind λj=>(wN (λn=>Cps.ret _) _ _).bind λl=>Cps.ret _
 |_=>exact TM
theorem zc(s:Nat):∀(ps:List (Nat×Operand)) (a n:Nat),Cps (kU st s ps a n)
 |[],a,n=>g7 _ (Cps.ret [])
 |(i,x)::r,a,n=>g7 _ ((dc x).bind λv=>(oH v).bind λvs=>g7 _ ((vu _).bind λds=>(zc s r (a+1) n).map λr'=>ds::r'))
theorem HS(x:AV):Cps (qW st x):=by
 cases x with
 |one c=>
  cases c with
  |nil=>exact Cps.ret _
  |d x=>
   cases x with
   |sl xs=>exact Cps.ret _
   |pv v=>exact TM
   |x R=>exact TM
  |own id=>
   refine(yE _ _).bind λo=>?_;cases o with
   |row _ _ xs=>exact Cps.ret _
   |_=>exact TM
  |_=>exact TM
 |_=>exact TM
theorem MZ(t:TypeId)(x:AV):Cps (HM E st t x False):=by
 have rest:Cps λK:AV->Prop=>aTI E.T t λi=>match i.kind with| .sl _=>qW st x λxs=>K (vI .i64 xs.length)|_=>False:=
  (c8 _ _).bind λi=>by
   cases i.kind with
   |sl e=>exact(HS _).bind λxs=>Cps.ret _
   |_=>exact TM
 by_cases hs:∃s,x= .one (.d (.pv (.string s)))
 ·obtain⟨s,rfl⟩:=hs;exact(c8 E.T t).bind (H:=λi K=>match i.kind with| .str=>K (vI .i64 s.size)|_=>False) λi=>by
   cases i.kind with
   |str=>exact Cps.ret _
   |_=>exact TM
 ·refine T7 (λK=>?_) rest;unfold HM;split
  ·exact absurd ⟨_,rfl⟩ hs
  ·rfl
theorem zj(t:TypeId)(x i:AV):Cps (jZ E st t x i):=by
 refine⟨fun{P Q} hpq h=>?_,fun{K} h=>?_⟩<;>unfold jZ at h⊢<;>split at h
 all_goals first
  |exact h.elim
  |skip
 all_goals
  rename_i k n;have key:Cps λK:AV->Prop=>aTI E.T t λti=>match ti.kind with
   | .sl e=>aTI E.T e λj=>match j.size with
    |0=>False
    |s+1=>match(generalizing:=false) x with
     | .one (.d (.sl xs))=>AIx xs n λ_ x=>match Fg x (s+1)with
      |true=>K (.one (.ptr x))
      |false=>False
     | .one (.own id)=>aOb st.ob id λo=>match o with
      | .row _ s' xs=>match Nat.beq (s+1) s' with
       |true=>AIx xs n λk _=>K (.one (.ref id k (s+1) 0))
       |false=>False
      |_=>False
     |_=>False
   | .arr len e=>aTI E.T e λj=>match(generalizing:=false) x with
    | .one (.ref id k s off)=>Om n len λi=>K (.one (.ref id k s (off+i*j.size)))
    |_=>False
   |_=>False:=(c8 _ _).bind λti=>by
    cases ti.kind with
    |arr len e=>
     refine(c8 _ _).bind λj=>?_;cases x with
     |one c=>
      cases c with
      |ref id k s off=>exact⟨fun{P Q} hp ⟨⟨i,h1,h2,h3⟩⟩=>⟨⟨i,h1,h2,hp _ h3⟩⟩,fun⟨⟨i,h1,h2,h3⟩⟩=>⟨_,h3,⟨⟨i,h1,h2,rfl⟩⟩⟩⟩
      |_=>exact TM
     |_=>exact TM
    |sl e=>
     refine(c8 _ _).bind λj=>?_;cases j.size with
     |zero=>exact TM
     |succ s=>
      cases x with
      |one c=>
       cases c with
       |d x=>
        cases x with
        |sl xs=>exact Vg _ _ λ_ x=>g7 _ (Cps.ret _)
        |pv v=>exact TM
        |x R=>exact TM
       |own id=>
        refine(yE _ _).bind λo=>?_;cases o with
        |row e' s' xs=>exact g7 _ (Vg _ _ λk _=>Cps.ret _)
        |_=>exact TM
       |_=>exact TM
      |_=>exact TM
    |_=>exact TM
  first
   |exact key.mono hpq h
   |exact key.dj h
theorem HJ(t:TypeId)(x i:AV):Cps (wT E t x i False):=by
 refine⟨fun{P Q} hpq h=>?_,fun{K} h=>?_⟩<;>unfold wT at h⊢<;>split at h
 all_goals first
  |exact h.elim
  |skip
 all_goals
  rename_i s k n;have key:Cps λK:AV->Prop=>aTI E.T t λti=>match ti.kind with
   | .str=>∃(k:Nat) (b:UInt8),n=(k:Int)/\s[k]? =some b/\K (vI .u8 b.toNat)
   |_=>False:=(c8 _ _).bind λti=>by
    cases ti.kind with
    |str=>exact Vh λk=>Vh λb=>Cps.and _ (Cps.and _ (Cps.ret _))
    |_=>exact TM
  first
   |exact key.mono hpq h
   |exact key.dj h
theorem y7(x:Option Operand):Cps (y6 st x):=by
 cases x with
 |none=>exact Cps.ret none
 |some x=>
  refine(dc x).bind λv=>?_;refine⟨fun{P Q} hpq h=>?_,fun{K} h=>?_⟩<;>split at h
  all_goals first
   |exact h.elim
   |exact hpq _ h
   |exact⟨_,h,rfl⟩
theorem vm{α:Type}(len:Nat)(lo hi:Option Int){F:Nat->Nat->(α->Prop)->Prop}(hf:∀l h,Cps (F l h)):Cps λK=>PE len lo hi λl h=>F l h K:=
 Vh λl=>Vh λh=>Cps.and _ (Cps.and _ (Cps.and _ (Cps.and _ (hf l h))))
theorem Fq(x:AV)(lo hi:Option Int)(i:TI):Cps λK=>vt E x lo hi False K i:=by
 refine⟨fun{P Q} hpq h=>?_,fun{K} h=>?_⟩<;>unfold vt at h⊢<;>split at h
 all_goals first
  |exact h.elim
  |skip
 ·rename_i s;revert h;cases i.kind with
  |str=>exact(vm s.size lo hi λl h=>Cps.ret (vS (s.extract l h))).mono hpq
  |_=>exact λh=>h.elim
 ·rename_i xs;revert h;cases i.kind with
  |sl e=>exact((c8 E.T e).bind λj=>vm xs.length lo hi λl h=>Cps.and _ (Cps.ret (AV.one (.d (.sl ((xs.take h).drop l)))))).mono hpq
  |_=>exact λh=>h.elim
 ·rename_i s;revert h;cases i.kind with
  |str=>exact(vm s.size lo hi λl h=>Cps.ret (vS (s.extract l h))).dj
  |_=>exact λh=>h.elim
 ·rename_i xs;revert h;cases i.kind with
  |sl e=>exact((c8 E.T e).bind λj=>vm xs.length lo hi λl h=>Cps.and _ (Cps.ret (AV.one (.d (.sl ((xs.take h).drop l)))))).dj
  |_=>exact λh=>h.elim
theorem HT(t:TypeId)(x:AV)(lo hi:Option Operand):Cps (zL E st t x lo hi False):=
 (y7 lo).bind λlo=>(y7 hi).bind λhi=>(c8 _ _).bind λi=>Fq x lo hi i
theorem HI(t:TypeId)(x:AV)(f:Nat):Cps (uu E t x f):=by
 cases x with
 |agg cs=>
  refine(c8 E.T t).bind (H:=λi K=>match i.kind with| .st fs=>nq fs f λp=>aTI E.T p.2 λj=>vn cs p.1 λr=>qZ j r K|_=>False) λi=>?_;cases i.kind with
  |st fs=>exact(qV _ _).bind λp=>(c8 _ _).bind λj=>(nj _ _).bind λr=>vw _ _
  |_=>exact TM
 |_=>exact TM
theorem yS(ob:List (Nat×AO))(f:FuncId)(args:List AV):Cps (aH E ob f args):=
 ⟨λhpq h=>by obtain⟨ps,res,h1,h2,h3⟩:=h.h;exact⟨⟨ps,res,h1,h2,hpq _ h3⟩⟩,λh=>by obtain⟨ps,res,h1,h2,h3⟩:=h.h;exact⟨_,h3,⟨⟨ps,res,h1,h2,rfl⟩⟩⟩⟩
theorem Cf(d:Option Tmp)(t:TypeId)(cs:List AC):Cps λK:AV×Option AO->Prop=>Fc d t cs λv oo=>K (v,oo):=by
 cases d with
 |none=>exact TM
 |some d=>exact g7 _ (Cps.ret ((.one (.ref d 0 0 0),some (.cells t cs)):AV×Option AO))
theorem Lc{α:Type}(v:AV){F G:(α->Prop)->Prop}(hf:Cps F)(hg:Cps G):Cps λK=>vk v (F K) (G K):=by
 refine⟨fun{P Q} hpq h=>?_,fun{K} h=>?_⟩<;>unfold vk at h⊢<;>split at h
 all_goals first
  |exact h.elim
  |exact(V6 _ hf hg).mono hpq h
  |exact(V6 _ hf hg).dj h
theorem Cps.v{G:(AV->Prop)->Prop}(h:Cps G):Cps λK:AV×Option AO->Prop=>G λv=>K (v,none):=h.map λv=>(v,none)
theorem CD(o:Oper):Cps λK:AV×Option AO->Prop=>kB E o st λv oo=>K (v,oo):=by
 obtain⟨dst,op,ty,pos,g,af⟩:=o;cases op with
 |move x=>exact(dc x).v
 |assign x=>exact(dc x).v
 |pick c a b=>exact(dc c).bind λc=>Lc c (dc a).v (dc b).v
 |binOp op t x y z=>exact(dc x).bind λx=>(dc y).bind λy=>MX (λv=>((v,none):AV×Option AO)) op t x y (yT (λv=>((v,none):AV×Option AO)) _)
 |unOp op t x=>exact(dc x).bind λx=>(Oq op x).v
 |convert s d x=>exact(dc x).bind λx=>(Lf s d x).v
 |fieldAddr t x f=>exact(dc x).bind λx=>(zf t x f).v
 |load t x=>exact(dc x).bind λx=>(Lj t x).v
 |build t ps=>exact(HH t ps.toList).v
 |buildSlice t n ps=>
  refine (c8 E.T t).bind (H := fun i K => match i.kind with
   | .sl e=>aTI E.T e λj=>match j.size with
    |0=>False
    |s+1=>match Nat.ble (n*(s+1)) 16777216 with
     |true=>kU st (s+1) ps.toList 0 n λxs=>K ((.one (.d (.sl xs)),none):AV×Option AO)
     |false=>False
   |_=>False) λi=>?_
  cases i.kind with
  |sl e=>
   refine(c8 _ _).bind λj=>?_;cases j.size with
   |zero=>exact TM
   |succ s=>exact g7 _ ((zc _ _ _ _).bind λxs=>Cps.ret _)
  |_=>exact TM
 |box t x=>exact(dc x).bind λx=>(oH x).bind λcs=>Cf dst t cs
 |alloc t=>exact(c8 E.T t).bind λi=>(CB _).bind λcs=>Cf dst t cs
 |slice t x lo hi m=>
  cases m with
  |none=>exact(dc x).bind λx=>(HT t x lo hi).v
  |some m=>exact yT (λv=>((v,none):AV×Option AO)) _
 |indexAddr t x i=>exact(dc x).bind λx=>(dc i).bind λi=>(zj t x i).v
 |index t x i=>exact(dc x).bind λx=>(dc i).bind λi=>(HJ t x i).v
 |field t x f=>exact(dc x).bind λx=>(HI t x f).v
 |extract x i=>
  refine(dc x).bind (H:=λx K=>match x with| .tup vs=>nq vs i λv=>K ((v,none):AV×Option AO)|_=>False) λx=>?_;cases x with
  |tup vs=>exact(qV vs i).v
  |_=>exact TM
 |nilCheck x=>
  refine (dc x).bind (H := fun x K => match x with
   | .one (.ref i k s off)=>K ((.one (.ref i k s off),none):AV×Option AO)
   | .one (.ptr cs)=>K (.one (.ptr cs),none)
   |_=>False) λx=>?_
  cases x with
  |one c=>
   cases c with
   |ref i k s off=>exact Cps.ret _
   |ptr cs=>exact Cps.ret _
   |_=>exact TM
  |_=>exact TM
 |call c=>
  obtain⟨cl,args,ts⟩:=c;cases cl with
  |builtin b=>
   cases b with
   |len=>
    refine(vo args.toList).bind (H:=λvs K=>match ts.toList,vs with|t::_,[x]=>HM E st t x False λv=>K ((v,none):AV×Option AO)|_,_=>False) λvs=>?_;cases ts.toList with
    |nil=>exact TM
    |cons t r=>
     match vs with
     |[]=>exact TM
     |[x]=>exact(MZ t x).v
     |_::_::_=>exact TM
   |_=>exact TM
  |value f=>
   refine (dc f).bind (H := fun f K => match f with
    | .one (.d (.pv (.func (.func f) first caps)))=>match first.toList,caps.toList with
     |[],[]=>DK st args.toList λargs=>aH E st.ob f args λr=>K ((r,none):AV×Option AO)
     |_,_=>False
    |_=>False) λf=>?_
   refine⟨fun{P Q} hpq h=>?_,fun{K} h=>?_⟩<;>split at h
   all_goals first
    |exact h.elim
    |skip
   all_goals
    revert h;rename_i f first caps
    cases first.toList with
    |cons _ _=>exact λh=>h.elim
    |nil=>
     cases caps.toList with
     |cons _ _=>exact λh=>h.elim
     |nil=>
      first
       |exact((vo args.toList).bind λvs=>(yS st.ob f vs).v).mono hpq
       |exact((vo args.toList).bind λvs=>(yS st.ob f vs).v).dj
  |_=>exact TM
 |_=>exact yT (λv=>((v,none):AV×Option AO)) _
end
theorem CE{E:a6}(he:E.Ok){S:bj}{o:Oper}{P:ASt}{K:AV->Option AO->Prop}(h:kB E o P K):∃v oo,mi E S o P v oo/\K v oo:=by
 obtain⟨⟨v,oo⟩,hk,e⟩:=(CD (E:=E) (st:=P) o).dj (K:=λp=>K p.1 p.2) h;have e2:kB E o P λv' oo'=>v'=v/\oo'=oo:=(CD (E:=E) (st:=P) o).mono (P:=λp=>p=(v,oo)) (Q:=λp=>p.1=v/\p.2=oo) (λp hp=>by subst hp;exact⟨rfl,rfl⟩) e;exact⟨v,oo,z7 he e2,hk⟩
end
section
def mp{α:Type}:List α->Nat->α->(List α->Prop)->Prop
 |[],_,_,K=>K []
 |_::r,0,x,K=>K (x::r)
 |y::r,i+1,x,K=>mp r i x λr'=>K (y::r')
theorem j5{α:Type}:∀{l:List α} {i:Nat} {x:α} {K:List α->Prop},mp l i x K->K (l.set i x)
 |[],_,_,_,h=>h
 |_::_,0,_,_,h=>h
 |y::r,i+1,x,K,h=>j5 (l:=r) (K:=λr'=>K (y::r')) h
theorem zB{v:AV}{P Q:List AV->Prop}(h:∀l,P l->Q l):∀{l:List AV} {n:Nat},mn l n v P->mn l n v Q
 |[],_,hp=>hp.elim
 |_::r,0,hp=>h _ hp
 |x::r,n+1,hp=>zB (P:=λr'=>P (x::r')) (Q:=λr'=>Q (x::r')) (λl=>h _) (l:=r) (n:=n) hp
def HO:List Nat->List Oper->List (AV×Option AO)->List AV->(List AV->List (Nat×AO)->Prop)->Prop
 |_,[],_,tm,K=>K tm []
 |[],_::_,_,_,_=>False
 |_::_,_::_,[],_,_=>False
 |f::fs,o::ops,r::R,tm,K=>match f with
  |0=>HO fs ops R tm K
  |1=>match o.dst with
   |none=>False
   |some d=>match r with
    |(v,oo)=>mn tm d v λtm=>match oo with
     |none=>HO fs ops R tm K
     |some x=>HO fs ops R tm λtm obs=>K tm ((d,x)::obs)
  |_+2=>match o.dst with
   |none=>False
   |some d=>mn tm d (.one .dead) λtm=>HO fs ops R tm K
theorem vr{fl:Nat->Nat}:∀(ops:List Oper) (R:List (AV×Option AO)) (j:Nat) (tm:List AV) (K:List AV->List (Nat×AO)->Prop),HO ((List.range' j ops.length).map fl) ops R tm K->aMk fl ops R j tm K
 |[],R,j,tm,K,h=>by cases R<;>exact h
 |_::_,[],j,tm,K,h=>by rw[List.length_cons,List.range'_succ]at h;exact h.elim
 |o::ops,r::R,j,tm,K,h=>by
  rw[List.length_cons,List.range'_succ,List.map_cons]at h;unfold HO at h;unfold aMk;cases hf:fl j with
  |zero=>rw[hf]at h;exact vr ops R (j+1) tm K h
  |succ n=>
   rw[hf]at h;cases hd:o.dst with
   |none=>rw[hd]at h;cases n<;>exact h.elim
   |some d=>
    rw[hd]at h;cases n with
    |zero=>
     obtain⟨v,oo⟩:=r;refine zB ?_ h;intro tm' h2;cases oo with
     |none=>exact vr ops R (j+1) tm' K h2
     |some x=>exact vr ops R (j+1) tm' _ h2
    |succ n=>exact zB (λtm' h2=>vr ops R (j+1) tm' K h2) h
def qT(fs:List Nat)(pre:List Oper)(R:List (AV×Option AO))(st:ASt)(K:ASt->Prop):Prop:=
 match st with
 |⟨tm,ob⟩=>HO fs pre R tm λtm obs=>MW obs ob λob=>K ⟨tm,ob⟩
theorem xx{D:List (List Nat)}{pre:List Oper}{R:List (AV×Option AO)}{i:Nat}{st:ASt}{K:ASt->Prop}(h:qT ((List.range pre.length).map (flP D i)) pre R st K):Cg D pre R i st K:=by
 obtain⟨tm,ob⟩:=st;rw[List.range_eq_range']at h;exact vr pre R 0 tm _ h
def eS(E:a6)(pre:List Oper)(st:ASt):List Oper->List (List Nat)->Nat->List (AV×Option AO)->(List (AV×Option AO)->Prop)->Prop
 |[],_,_,R,K=>K R
 |_::_,[],_,_,_=>False
 |o::ops,fs::FL,i,R,K=>match o.guard with
  |none=>qT fs pre R st λP=>kB E o P λv oo=>mp R i (v,oo) λR=>eS E pre st ops FL (i+1) R K
  |some (g,want)=>nq fs g λf=>match f with
   |1=>nq R g λrg=>match rg.1 with
    | .one (.d (.pv (.bool p)))=>AB p
     (match want with
      |true=>qT fs pre R st λP=>kB E o P λv oo=>mp R i (v,oo) λR=>eS E pre st ops FL (i+1) R K
      |false=>mp R i (.one .und,none) λR=>eS E pre st ops FL (i+1) R K)
     (match want with
      |true=>mp R i (.one .und,none) λR=>eS E pre st ops FL (i+1) R K
      |false=>qT fs pre R st λP=>kB E o P λv oo=>mp R i (v,oo) λR=>eS E pre st ops FL (i+1) R K)
    | .one .und=>mp R i (.one .und,none) λR=>eS E pre st ops FL (i+1) R K
    |_=>False
   |_=>False
section
variable {E:a6} {S:bj} {ops:List Oper} {D:List (List Nat)} {n0:Nat} {st:ASt}
theorem kw{R:List (AV×Option AO)}{i j:Nat}{x:AV×Option AO}(h:j≠i):vAt (R.set i x) j=vAt R j:=by
 unfold vAt;rw[List.getD_eq_getElem?_getD,List.getD_eq_getElem?_getD,List.getElem?_set_ne (λe=>h e.symm)]
theorem tq{R:List (AV×Option AO)}{i j:Nat}{x:AV×Option AO}(h:j≠i):oAt (R.set i x) j=oAt R j:=by
 unfold oAt;rw[List.getD_eq_getElem?_getD,List.getD_eq_getElem?_getD,List.getElem?_set_ne (λe=>h e.symm)]
theorem sY{R:List (AV×Option AO)}{i:Nat}{x:AV×Option AO}(h:i<R.length):vAt (R.set i x) i=x.1:=by
 unfold vAt;rw[List.getD_eq_getElem?_getD,List.getElem?_set_self h];rfl
theorem sx{R:List (AV×Option AO)}{i:Nat}{x:AV×Option AO}(h:i<R.length):oAt (R.set i x) i=x.2:=by
 unfold oAt;rw[List.getD_eq_getElem?_getD,List.getElem?_set_self h];rfl
theorem wB{R R':List (AV×Option AO)}{i:Nat}(h:∀j,inD D j i=true->vAt R j=vAt R' j/\oAt R j=oAt R' j):stP ops D R n0 st i=stP ops D R' n0 st i:=by
 have e1:(List.range n0).filterMap (upP ops D R i)=(List.range n0).filterMap (upP ops D R' i):=tn λj _=>by
  unfold upP;cases hj:inD D j i with
  |true=>simp[(h j hj).1]
  |false=>simp
 have e2:(List.range n0).filterMap (obF ops R λj=>inD D j i)=(List.range n0).filterMap (obF ops R' λj=>inD D j i):=tn λj _=>by
  unfold obF;cases hj:inD D j i with
  |true=>simp[(h j hj).2]
  |false=>simp[hj]
 simp only[stP,e1,e2]
theorem Iy(T:tV ops D n0){i j:Nat}(hi:i<ops.length)(h:inD D j i=true):j<i:=by
 have:=kF T (lf:=λj=>decide (j<i)) (λk hk e he=>?_) (i:=i) (λe he=>?_) h
 ·simpa using this
 ·have hki:k<i:=by simpa using hk
  rw[bw (List.getElem?_eq_getElem (by omega:k<ops.length))]at he;have:=T.edge k _ (List.getElem?_eq_getElem ac) _ he;simp;omega
 ·rw[bw (List.getElem?_eq_getElem hi)]at he;have:=T.edge i _ (List.getElem?_eq_getElem hi) _ he;simpa using this
theorem gH.keep(T:tV ops D n0){R:List (AV×Option AO)}{i k:Nat}{o:Oper}{x:AV×Option AO}(hi:i<k)(hil:i<ops.length)(h:gH E S D R n0 (stP ops D R n0 st i) i o):gH E S D (R.set k x) n0 (stP ops D (R.set k x) n0 st i) i o:=by
 have hlt:∀j,inD D j i=true->j≠k:=λj hj e=>by have:=Iy T hil hj;omega
 have e:stP ops D (R.set k x) n0 st i=stP ops D R n0 st i:=wB λj hj=>⟨kw (hlt j hj),tq (hlt j hj)⟩;have e1:vAt (R.set k x) i=vAt R i:=kw ac;have e2:oAt (R.set k x) i=oAt R i:=tq ac;unfold gH at h⊢;rw[e,e1,e2];cases hg:o.guard with
 |none=>rw[hg]at h;exact h
 |some gw=>
  obtain⟨g,want⟩:=gw;rw[hg]at h;obtain⟨h1,h2,h3⟩:=h;refine⟨h1,h2,?_⟩;rw[kw (hlt g h2)];exact h3
theorem xK{D:List (List Nat)}{i j:Nat}(h:flP D i j=1):inD D j i=true:=by
 unfold flP at h;split at h
 ·assumption
 ·split at h
  ·cases h
  ·split at h<;>cases h
theorem CG(he:E.Ok)(T:tV ops D n0){K:List (AV×Option AO)->Prop}:∀(rest:List Oper) (i:Nat) (R:List (AV×Option AO)),(∀k,(ops.take n0)[i+k]? =rest[k]?)->R.length=n0->
  (∀j o,j<i->ops[j]? =some o->gH E S D R n0 (stP ops D R n0 st j) j o)->eS E (ops.take n0) st rest ((List.range' i rest.length).map λi=>(List.range n0).map (flP D i)) i R K->∃RA,K RA/\∀j o,j<n0->ops[j]? =some o->gH E S D RA n0 (stP ops D RA n0 st j) j o
 |[],i,R,hr,hl,hf,h=>by
  refine⟨R,h,λj o hj ho=>hf j o ?_ ho⟩;have:=hr 0;simp only[Nat.add_zero,List.getElem?_nil]at this;have h2:=List.getElem?_eq_none_iff.1 this;have:=T.le;simp at h2;omega
 |o::rest,i,R,hr,hl,hf,h=>by
  have h0:=hr 0;simp only[Nat.add_zero,List.getElem?_cons_zero]at h0;have hi:i<n0:=by
   have:=(List.getElem?_eq_some_iff.1 h0).1;simp at this;omega
  have hio:ops[i]? =some o:=by
   rw[List.getElem?_take,if_pos hi]at h0;exact h0
  have hil:i<ops.length:=(List.getElem?_eq_some_iff.1 hio).1;have hr':∀k,(ops.take n0)[i+1+k]? =rest[k]? :=λk=>by
   have:=hr (k+1);rw[show i+1+k=i+(k+1)by omega];simpa using this
  have next:∀x:AV×Option AO,eS E (ops.take n0) st rest ((List.range' (i+1) rest.length).map λi=>(List.range n0).map (flP D i)) (i+1) (R.set i x) K->gH E S D (R.set i x) n0 (stP ops D (R.set i x) n0 st i) i o->∃RA,K RA/\∀j o,j<n0->ops[j]? =some o->gH E S D RA n0 (stP ops D RA n0 st j) j o:=λx hk hd=>
   CG he T rest (i+1) (R.set i x) hr' (by simpa using hl) (λj o' hj ho'=>by
    rcases Nat.lt_succ_iff_lt_or_eq.1 hj with hj|hj
    ·exact(hf j o' hj ho').keep T hj ac
    ·subst hj;rw[hio]at ho';injection ho' with ho'
     subst ho';exact hd) hk
  have eP:∀x:AV×Option AO,stP ops D (R.set i x) n0 st i=stP ops D R n0 st i:=λx=>wB λj hj=>by
   have:=Iy T hil hj;exact⟨kw ac,tq ac⟩
  have free:(qT ((List.range n0).map (flP D i)) (ops.take n0) R st λP=>kB E o P λv oo=>mp R i (v,oo) λR=>eS E (ops.take n0) st rest ((List.range' (i+1) rest.length).map λi=>(List.range n0).map (flP D i)) (i+1) R K)->∃x:AV×Option AO,mi E S o (stP ops D R n0 st i) x.1 x.2/\eS E (ops.take n0) st rest ((List.range' (i+1) rest.length).map λi=>(List.range n0).map (flP D i)) (i+1) (R.set i x) K:=λh=>by
   have hlen:(ops.take n0).length=n0:=by have:=T.le;simp;omega
   have h1:=wQ T.le (xx (by rw[hlen];exact h));obtain⟨v,oo,h2,h3⟩:=CE he h1;exact⟨(v,oo),h2,j5 h3⟩
  rw[List.length_cons,List.range'_succ,List.map_cons]at h;unfold eS at h;cases hg:o.guard with
  |none=>
   rw[hg]at h;obtain⟨x,hx,hk⟩:=free h;refine next x hk ?_;unfold gH;rw[hg,eP,sY ac,sx ac];exact hx
  |some gw=>
   obtain⟨g,want⟩:=gw;rw[hg]at h;obtain⟨f,hf1,h3⟩:=d4 h;have hf0:f=flP D i g:=by
    rw[List.getElem?_map]at hf1;obtain⟨g',hg',rfl⟩:=Option.map_eq_some_iff.1 hf1;have:=List.getElem?_eq_some_iff.1 hg';obtain⟨_,e⟩:=this;simp at e;rw[e]
   split at h3
   case h_2=>exact h3.elim
   have h1:inD D g i=true:=xK hf0.symm;obtain⟨rg,hrg,h3⟩:=d4 h3;have hgi:=Iy T hil h1;have hvg:∀x:AV×Option AO,vAt (R.set i x) g=rg.1:=λx=>by
    rw[kw ac];unfold vAt;rw[List.getD_eq_getElem?_getD,hrg];rfl
   split at h3
   ·rename_i p hp;have run:(p=want)->(qT ((List.range n0).map (flP D i)) (ops.take n0) R st λP=>kB E o P λv oo=>mp R i (v,oo) λR=>eS E (ops.take n0) st rest ((List.range' (i+1) rest.length).map λi=>(List.range n0).map (flP D i)) (i+1) R K)->∃RA,K RA/\∀j o,j<n0->ops[j]? =some o->gH E S D RA n0 (stP ops D RA n0 st j) j o:=λe h=>by
     obtain⟨x,hx,hk⟩:=free h;refine next x hk ?_;unfold gH;rw[hg,eP,sY ac,sx ac];exact⟨ac,h1,.inl ⟨p,by rw[hvg,hp],.inl ⟨e,hx⟩⟩⟩
    have skip:(p≠want)->(mp R i (.one .und,none) λR=>eS E (ops.take n0) st rest ((List.range' (i+1) rest.length).map λi=>(List.range n0).map (flP D i)) (i+1) R K)->∃RA,K RA/\∀j o,j<n0->ops[j]? =some o->gH E S D RA n0 (stP ops D RA n0 st j) j o:=λe h=>by
     refine next (.one .und,none) (j5 h) ?_;unfold gH;rw[hg,eP,sY ac,sx ac];exact⟨ac,h1,.inl ⟨p,by rw[hvg,hp],.inr ⟨e,rfl,rfl⟩⟩⟩
    cases p with
    |true=>
     have h:=h3.t rfl;cases want with
     |true=>exact run rfl h
     |false=>exact skip ai h
    |false=>
     have h:=h3.f rfl;cases want with
     |true=>exact skip ai h
     |false=>exact run rfl h
   ·rename_i hp;refine next (.one .und,none) (j5 h3) ?_;unfold gH;rw[hg,eP,sY ac,sx ac];exact⟨ac,h1,.inr ⟨by rw[hvg,hp],rfl,rfl⟩⟩
   ·exact h3.elim
end
theorem VM{E:a6}(he:E.Ok){S:bj}{ops:Array Oper}{K:Exit->ASt->Prop}{id:Nat}{st:ASt}(n0:Nat)(D:List (List Nat))(R:List (AV×Option AO))(T:tV ops.toList D n0)(F:wL E S ops.toList D R n0 st)
  (ht:ur (ops.toList.take n0) R st λst=>tL E S ops.toList (ops.toList.drop n0) st (K .normal)):AWP E S (.region id ops true) K st:=by
 refine⟨λa w hs=>wp_region_any he.mixed ?_⟩;have hg:w.grownBy {w with drawn:=w.drawn+1} none:=⟨rfl,rfl,rfl,Nat.le_refl _,λb hb _=>rfl⟩;refine Ls (Q:=λe a' w'=>∃st',dS E.W S st' a' w'/\K e st') he T F (λa w h=>h) ht ops.size (Array.replicate ops.size false) a _ ai (λj _=>?_) (λj hj=>?_) ?_ ?_
 ·simp[bS,Array.getD_eq_getD_getElem?,Array.getElem?_replicate];split<;>rfl
 ·exfalso;simp[bS,Array.getD_eq_getD_getElem?,Array.getElem?_replicate]at hj;split at hj<;>simp at hj
 ·have:∀(lf:Nat->Bool) n,lI lf n<=n:=λlf n=>by
   induction n with
   |zero=>exact Nat.le_refl _
   |succ n ih=>simp only[lI];split<;>omega
  exact this _ _
 ·obtain⟨Z,ρ,hs⟩:=hs;have e:stS ops.toList R n0 st (bS (Array.replicate ops.size false))=st:=by
   have e1:∀j,bS (Array.replicate ops.size false) j=false:=λj=>by
    simp[bS,Array.getD_eq_getD_getElem?,Array.getElem?_replicate];split<;>rfl
   have e2:(List.range n0).filterMap (upS ops.toList R (bS (Array.replicate ops.size false)))=[]:=by
    rw[List.filterMap_eq_nil_iff];intro j _;simp[upS,e1]
   have e3:(List.range n0).filterMap (obF ops.toList R (bS (Array.replicate ops.size false)))=[]:=by
    rw[List.filterMap_eq_nil_iff];intro j _;simp[obF,e1]
   simp[stS,e2,e3,iA]
  rw[e];exact⟨Z,ρ,hs.grow hg (λ_ h=>h) λ_ h=> .inl h⟩
def unq:Nat->Nat->List Nat
 |0,_=>[]
 |n+1,x=>match Nat.beq x 0 with
  |true=>[]
  |false=>(x % 64-1)::unq n (x/64)
def a8:List Nat->List (List Nat)
 |[]=>[]
 |x::r=>unq 64 x::a8 r
def unp:Nat->Nat->List Nat
 |0,_=>[]
 |n+1,x=>(x % 3)::unp n (x/3)
def dN(n:Nat):List Nat->List (List Nat)
 |[]=>[]
 |x::r=>unp n x::dN n r
theorem TB{E:a6}(he:E.Ok){S:bj}{ops:Array Oper}{K:Exit->ASt->Prop}(id:Nat){st:ASt}(n0:Nat)(D FL:List (List Nat))(hD:mQ [] ops.toList=D)(hok:H7 ops.toList D n0=true)(hfl:((List.range n0).map λi=>(List.range n0).map (flP D i))=FL)(hl:IF ops.toList n0 st.tm.length=true)
  (h:eS E (ops.toList.take n0) st (ops.toList.take n0) FL 0 (List.replicate n0 (.one .dead,none)) λR=>noB ops.toList D R n0 st=true/\ur (ops.toList.take n0) R st λst=>tL E S ops.toList (ops.toList.drop n0) st (K .normal)):AWP E S (.region id ops true) K st:=by
 have T:=FD hD hok;have hlen:(ops.toList.take n0).length=n0:=by have:=T.le;simp at*;omega
 subst hfl;have e:((List.range n0).map λi=>(List.range n0).map (flP D i))=((List.range' 0 (ops.toList.take n0).length).map λi=>(List.range n0).map (flP D i)):=by rw[hlen,<-List.range_eq_range']
 rw[e]at h;obtain⟨R,⟨hno,ht⟩,hf⟩:=CG (S:=S) he T (ops.toList.take n0) 0 (List.replicate n0 (.one .dead,none)) (λk=>by simp) ai (λj o hj=>absurd hj (Nat.not_lt_zero _)) h;exact VM he n0 D R T ⟨Oy T hl hno,hf⟩ ht
end
section
variable {a b p q:Prop}
abbrev iv(n:Int):Value:= .int .i64 n
theorem awx(h:q)(e:q->p:=by first|exact λh=>aw1 h|exact λh=>aw2 h|exact λh=>aw3 h|exact λh=>aw4 h|exact λh=>aw5 h|exact λh=>aw6 h|exact λh=>aw7 h|exact λh=>aw8 h|exact λh=>bT h|exact λh=>bF h):p:=e h
structure Bx (q:Prop):Prop where
 h:q
theorem awy(h:q)(e:Bx q->p:=by first|(intro h;(first|refine aw0 ?_|refine aw1 ?_|refine aw2 ?_|refine aw3 ?_|refine aw4 ?_|refine aw5 ?_|refine aw6 ?_|refine aw7 ?_|refine aw8 ?_|refine bT ?_|refine bF ?_);(conv=>whnf);exact h.h)|(refine λ_:Bx True=>?_;(first|refine aw0 ?_|refine aw1 ?_|refine aw2 ?_|refine aw3 ?_|refine aw4 ?_|refine aw5 ?_|refine aw6 ?_|refine aw7 ?_|refine aw8 ?_|refine bT ?_|refine bF ?_);exact rfl)):p:=e ⟨h⟩
theorem awz(h:q)(e:Bx q->p:=by first|(intro h;(first|refine aw0 ?_|refine aw1 ?_|refine aw2 ?_|refine aw3 ?_|refine aw4 ?_|refine aw5 ?_|refine aw6 ?_|refine aw7 ?_|refine aw8 ?_|refine bT ?_|refine bF ?_|refine And.intro rfl ?_);(conv=>whnf);exact h.h)|(refine λ_:Bx True=>?_;(first|refine aw0 ?_|refine aw1 ?_|refine aw2 ?_|refine aw3 ?_|refine aw4 ?_|refine aw5 ?_|refine aw6 ?_|refine aw7 ?_|refine aw8 ?_|refine bT ?_|refine bF ?_|refine And.intro rfl ?_);exact rfl)):p:=e ⟨h⟩
theorem rZ(h:p:=by first|exact rr|(show AP.val _=AP.val _;rfl)|(show AP.tup _=AP.tup _;rfl)):p:=h
theorem tW(h:a)(k:b)(e:a->b->p:=by intro a b;first|(refine aJ.mk ?_ ?_;(conv=>whnf);exact a;(conv=>whnf);exact b)|exact AB.mk a b):p:=e h k
theorem tB(h:a)(k:b)(e:a->b->p:=by exact λa b=>AB.mk a b):p:=e h k
theorem sbW(h:p:=by repeat'(first|exact Tx|refine Tu rfl ?_|fail)):p:=h
end
open Go.Proofs.Tryz
open Go.ChangeShapes Go.WideShapes
def lT(o:DOp):Bool:=
 if o.kind=1 then aI o.a 0 9&&aI o.b 0 999&&(o.c==0)&&(o.d==0)
 else if o.kind=2 then aI o.a 0 9&&(o.b==0)&&(o.c==0)&&(o.d==0)
 else if o.kind=3 then aI o.a 1 20&&aI o.b 0 1000000&&aI o.c 0 9&&aI o.d 0 999
 else if o.kind=4 then aI o.a 1 20&&aI o.b 0 1000&&(o.c==0)&&(o.d==0)
 else if o.kind=5 then aI o.a 1 1000&&(o.b==0)&&(o.c==0)&&(o.d==0)
 else false
def bn(e:DEntry):Bool:=aI e.index 1 2000&&aI e.time 0 1000000&&aI e.client 2 5&&aI e.seq 1 2000&&lT e.op
def DEntry.ds(e:DEntry):List AD:=[dI e.index,dI e.time,dI e.client,dI e.seq,dI e.op.kind,dI e.op.a,dI e.op.b,dI e.op.c,dI e.op.d]
abbrev DOp.ds(o:DOp):List AD:=[dI o.kind,dI o.a,dI o.b,dI o.c,dI o.d]
def DOp.v(o:DOp):Value:= .agg #[.int .i64 o.kind,.int .i64 o.a,.int .i64 o.b,.int .i64 o.c,.int .i64 o.d]
def eC(x:DWant):Bool:=if x.kind==4 then(x.op==⟨0,0,0,0,0⟩&&aI x.key 0 9)else if x.kind==1||x.kind==2||x.kind==3 then(lT x.op&&x.op.kind==x.kind&&x.key==0)else false
def DWant.ds(e:DWant):List AD:=[dI e.kind,dI e.op.kind,dI e.op.a,dI e.op.b,dI e.op.c,dI e.op.d,dI e.key]
theorem Nk(w:World)(d:Nat)(a b:Int):(Op.equalIn (d+1) 2 (.int .i64 a) (.int .i64 b)).run Tryz.prog w= .ok (a==b) w:=by
 have hi:=run_underlying (w:=w) underlying2;simp[Op.equalIn,hi]
theorem lW(w:World)(xs:Array Value)(i:Nat)(v:Value)(h:xs[i]? =some v):(part 2 xs i).run Tryz.prog w= .ok v w:=by
 simp[part,isAgg2,sizeOf2,h]
theorem gY{α β:Type}(f:α->β){l:List α}{k:Nat}(hk:k<l.length):(l.take (k+1)).map f=(l.take k).map f++[f l[k]]:=by
 rw[List.take_succ_eq_append_getElem hk,List.map_append];rfl
theorem fv(x lo hi:Int):aM av 17 [pI x,pI lo,pI hi] (rB (aI x lo hi)):=by
 refine pO func17 call17 ntmps17 results17 λS=>?_;conv=>whnf
 repeat'(first|refine awz ?_|refine tB ?_ ?_|(intro h;conv=>whnf))
 all_goals first
  |(simp_all[aI];done)
  |(simp_all[aI];intros;omega)
theorem aN(x lo hi:Int):aM av 27 [pI x,pI lo,pI hi] (rB (aI x lo hi)):=by
 refine pO func27 call27 ntmps27 results27 λS=>?_;conv=>whnf
 repeat'(first|refine awz ?_|refine tB ?_ ?_|(intro h;conv=>whnf))
 all_goals first
  |(simp_all[aI];done)
  |(simp_all[aI];intros;omega)
theorem nP(x:Int):aM av 21 [pI x] (rB (aI x 0 5)):=by
 refine pO func21 call21 ntmps21 results21 λS=>?_;conv=>whnf
 repeat'(first|refine awz ?_|(refine cP (fv _ _ _) ?_;conv=>whnf)|exact rr|fail)
theorem LD(x:Int):aM av 22 [pI x] (rB (aI x 0 1000000)):=by
 refine pO func22 call22 ntmps22 results22 λS=>?_;conv=>whnf
 repeat'(first|refine awz ?_|(refine cP (fv _ _ _) ?_;conv=>whnf)|exact rr|fail)
theorem Bq(x:Int):aM av 115 [pI x] (rB (aI x 0 5)):=by
 refine pO func115 call115 ntmps115 results115 λS=>?_;conv=>whnf
 repeat'(first|refine awz ?_|(refine cP (aN _ _ _) ?_;conv=>whnf)|exact rr|fail)
theorem gm(x:Int):aM av 107 [pI x] (rB (aI x 0 5)):=by
 refine pO func107 call107 ntmps107 results107 λS=>?_;conv=>whnf
 repeat'(first|refine awz ?_|(refine cP (aN _ _ _) ?_;conv=>whnf)|exact rr|fail)
theorem oz(x:Int):aM av 136 [pI x] (rB (aI x 0 9)):=by
 refine pO func136 call136 ntmps136 results136 λS=>?_;conv=>whnf
 repeat'(first|refine awz ?_|(refine cP (aN _ _ _) ?_;conv=>whnf)|exact rr|fail)
theorem km(x:Int):aM av 139 [pI x] (rB (aI x 0 999)):=by
 refine pO func139 call139 ntmps139 results139 λS=>?_;conv=>whnf
 repeat'(first|refine awz ?_|(refine cP (aN _ _ _) ?_;conv=>whnf)|exact rr|fail)
theorem yN(x:Int):aM av 194 [pI x] (rB (aI x 1 20)):=by
 refine pO func194 call194 ntmps194 results194 λS=>?_;conv=>whnf
 repeat'(first|refine awz ?_|(refine cP (aN _ _ _) ?_;conv=>whnf)|exact rr|fail)
theorem ft(x:Int):aM av 260 [pI x] (rB (aI x 1 2000)):=by
 refine pO func260 call260 ntmps260 results260 λS=>?_;conv=>whnf
 repeat'(first|refine awz ?_|(refine cP (aN _ _ _) ?_;conv=>whnf)|exact rr|fail)
theorem fw(x:Int):aM av 261 [pI x] (rB (aI x 1 2000)):=by
 refine pO func261 call261 ntmps261 results261 λS=>?_;conv=>whnf
 repeat'(first|refine awz ?_|(refine cP (aN _ _ _) ?_;conv=>whnf)|exact rr|fail)
theorem bP(x:Int):aM av 99 [pI x] (rB (aI x 0 1000000)):=by
 refine pO func99 call99 ntmps99 results99 λS=>?_;conv=>whnf
 repeat'(first|refine awz ?_|(refine cP (aN _ _ _) ?_;conv=>whnf)|exact rr|fail)
theorem dF(x:Int):aM av 259 [pI x] (rB (aI x 2 5)):=by
 refine pO func259 call259 ntmps259 results259 λS=>?_;conv=>whnf
 repeat'(first|refine awz ?_|(refine cP (aN _ _ _) ?_;conv=>whnf)|exact rr|fail)
theorem cU(x:Int):aM av 206 [pI x] (rB (aI x 0 1000000)):=by
 refine pO func206 call206 ntmps206 results206 λS=>?_;conv=>whnf
 repeat'(first|refine awz ?_|(refine cP (aN _ _ _) ?_;conv=>whnf)|exact rr|fail)
theorem gE(o:DOp):aM av 138 [.agg o.ds] (rB (lT o)):=by
 refine pO func138 call138 ntmps138 results138 λS=>?_;conv=>whnf
 repeat'((first|refine awz ?_|refine cP (oz _) ?_|refine cP (km _) ?_|refine cP (yN _) ?_|refine cP (bP _) ?_|refine cP (aN _ _ _) ?_|refine tB ?_ ?_|intro h)<;>conv=>whnf)
 all_goals simp_all[lT]
theorem ba(e:DEntry):aM av 263 [.agg e.ds] (rB (bn e)):=by
 refine pO func263 call263 ntmps263 results263 λS=>?_;conv=>whnf
 repeat'((first|refine awz ?_|refine cP (fw _) ?_|refine cP (bP _) ?_|refine cP (dF _) ?_|refine cP (ft _) ?_|refine cP (gE e.op) ?_|refine tB ?_ ?_|intro h)<;>conv=>whnf)
 all_goals simp[bn, *]
end Go.Proofs.YtlmoekpinpafeaaGreat
