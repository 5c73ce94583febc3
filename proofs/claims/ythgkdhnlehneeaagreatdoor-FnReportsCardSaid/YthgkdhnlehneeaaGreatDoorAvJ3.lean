/- AvJ3 -/
import Derived.Test.YthgkdhnlehneeaaGreatDoorAvJ2
import Derived.LoopN
set_option maxHeartbeats 8000000
set_option linter.unusedVariables false
set_option linter.unusedSimpArgs false
set_option maxRecDepth 100000
open List (all_eq_true filterMap_cons find?_cons map_cons mem_cons mem_filterMap mem_map mem_range nodup_cons)
open Nat (eq_of_beq_eq_true le_of_not_lt)
open Bool (and_eq_true or_eq_true)
open Array (getD_eq_getD_getElem? getElem?_eq_getElem toArray_toList)
namespace Go.Proofs.YthgkdhnlehneeaaGreatDoor
section
open Go.RowKit
abbrev dI(n:Int):AD:= .pv (.int .i64 n)
abbrev dB(b:Bool):AD:= .pv (.bool b)
abbrev dS(s:ByteArray):AD:= .pv (.string s)
abbrev dL(l:List UInt8):AD:= .pv (.string ⟨l.toArray⟩)
abbrev rB(b:Bool):AP:= .val (.one (dB b))
abbrev rI(n:Int):AP:= .val (.one (dI n))
abbrev rL(l:List UInt8):AP:= .val (.one (dL l))
abbrev pI(n:Int):AP1:= .one (dI n)
abbrev pL(l:List UInt8):AP1:= .one (dL l)
def eI(n:Int):List AD:=[dI n]
abbrev dIs(l:List Int):AD:= .sl (l.map eI)
theorem oZ{n:Int}(h0: -9223372036854775808<=n)(h1:n<=9223372036854775807):IntKind.i64.wrap n=n:=by rw[IntKind.wrap_i64];omega
theorem aaH{n:Int}{K:Int->Prop}(h0: -9223372036854775808<=n)(h1:n<=9223372036854775807)(h:K n):AW .i64 n K:=⟨_,oZ h0 h1,h⟩
theorem abp{k:IntKind}{n:Int}{K:Int->Prop}(m:Int)(e:k.wrap n=m)(h:K m):AW k n K:=⟨m,e,h⟩
theorem aaM{α:Type}{enc:α->List AD}{l:List α}{k:Nat}{K:Nat->List AD->Prop}(hk:k<l.length)(h:K k (enc l[k])):AIx (l.map enc) (k:Int) K:=
 ⟨k,enc l[k],rfl,by simp[hk],h⟩
theorem AIx.int{α:Type}{enc:α->List AD}{l:List α}{n:Int}{K:Nat->List AD->Prop}(h0:0<=n)(hk:n.toNat<l.length)(h:K n.toNat (enc l[n.toNat])):AIx (l.map enc) n K:=
 ⟨n.toNat,enc l[n.toNat],ac,by simp[hk],h⟩
theorem aaG{xs:List (List AD)}{n:Int}{K:Nat->List AD->Prop}(k:Nat)(x:List AD)(hn:n=(k:Int))(hx:xs[k]? =some x)(h:K k x):AIx xs n K:=⟨k,x,hn,hx,h⟩
def K4:List AV->List (Nat×AV)->(List AV->Prop)->Prop
 |tm,[],K=>K tm
 |tm,(i,v)::r,K=>oy tm i v λtm=>K4 tm r K
def Jo:List AV->List Nat->(List AV->Prop)->Prop
 |tm,[],K=>K tm
 |tm,i::r,K=>oy tm i (.one .dead) λtm=>Jo tm r K
def Hn(tm:List AV)(ws:List Nat)(sl:List (Nat×AV))(K:List AV->Prop):Prop:=Jo tm ws λtm=>K4 tm sl K
def ll(tm:List AV)(sl:List (Nat×AV)):List AV:=sl.foldl (λtm p=>tm.set p.1 p.2) tm
def JM(tm:List AV)(ws:List Nat):List AV:=ws.foldl (λtm i=>tm.set i (.one .dead)) tm
theorem HB:∀{sl:List (Nat×AV)} {tm:List AV} {K:List AV->Prop},K4 tm sl K->K (ll tm sl)
 |[],_,_,h=>h
 |(i,v)::r,tm,K,h=>HB (sl:=r) (tm:=tm.set i v) (kp (K:=λtm=>K4 tm r K) h)
theorem DU:∀{ws:List Nat} {tm:List AV} {K:List AV->Prop},Jo tm ws K->K (JM tm ws)
 |[],_,_,h=>h
 |i::r,tm,K,h=>DU (ws:=r) (tm:=tm.set i (.one .dead)) (kp (K:=λtm=>Jo tm r K) h)
theorem pE{tm:List AV}{ws:List Nat}{sl:List (Nat×AV)}{K:List AV->Prop}(h:Hn tm ws sl K):K (ll (JM tm ws) sl):=HB (DU (K:=λtm=>K4 tm sl K) h)
def Jy:List AV->List AV->Prop
 |[],[]=>True
 |_::l,.one .dead::m=>Jy l m
 |x::l,y::m=>x=y/\Jy l m
 |_,_=>False
theorem ut:∀{l m:List AV},Jy l m->te l m
 |[],[],_=> .nil
 |x::l,y::m,h=>by
  unfold Jy at h;split at h
  ·cases ‹_=[]›
  ·rename_i e1 e2;injection e1 with a1 a2
   injection e2 with b1 b2
   subst a1 a2 b1 b2;exact .cons (.dead _) (ut h)
  ·rename_i e1 e2;injection e1 with a1 a2
   injection e2 with b1 b2
   subst a1 a2 b1 b2;obtain⟨rfl,h⟩:=h;exact .cons (.refl _) (ut h)
  ·exact h.elim
 |[],_::_,h=>by unfold Jy at h;exact h.elim
 |_::_,[],h=>by unfold Jy at h;exact h.elim
section
variable {E:bx} {S:bZ} {K:Exit->ASt->Prop}
structure a8 {α:Type} (R:α->Prop) (μ:α->Nat) (x:α) (tm:List AV) (ws:List Nat) (sl:α->List (Nat×AV)) (ob':α->List (Nat×AO)) (st':ASt):Prop where
 h:∃y,R y/\μ y<μ x/\(Hn tm ws (sl y) λtm'=>Jy st'.tm tm')/\aK st'.ob (ob' y)
def XB{α:Type}(R:α->Prop)(μ:α->Nat)(x:α)(tm:List AV)(ws:List Nat)(sl:α->List (Nat×AV))(ob':α->List (Nat×AO))(K:Exit->ASt->Prop):Exit->ASt->Prop
 | .normal,st'=>a8 R μ x tm ws sl ob' st'
 |e,st'=>K e st'
theorem aaK{α:Type}(R:α->Prop)(ws:List Nat)(sl:α->List (Nat×AV))(ob':α->List (Nat×AO))(μ:α->Nat)(x0:α){c:Code}{tm:List AV}{ob:List (Nat×AO)}(h0:R x0)
  (hsub:Hn tm ws (sl x0) λtm'=>Jy tm tm') (hob:aK ob (ob' x0))
  (round:∀x,R x->Hn tm ws (sl x) λtm'=>AWP E S c (XB R μ x tm ws sl ob' K) ⟨tm',ob' x⟩):AWP E S (.loop c) K ⟨tm,ob⟩:=by
 refine AWP.loop R (λx=>⟨ll (JM tm ws) (sl x),ob' x⟩) μ x0 h0 (ut (pE hsub)) hob λx hx=>?_;have h:=pE (round x hx);refine⟨λa w hs=>wp_mono (h.run a w hs) λe a' w' h'=>?_⟩;obtain⟨st',hs',hk⟩:=h';refine⟨st',hs',?_⟩;cases e with
 |normal=>
  obtain⟨y,hy,hlt,h1,h2⟩:=(show a8 R μ x tm ws sl ob' st' from hk).h;exact⟨y,hy,hlt,ut (pE h1),h2⟩
 |_=>exact hk
end
theorem ari{p:Prop}(h:p:=by simp only[decide_eq_true_eq,decide_eq_false_iff_not,List.length_map,Bool.not_eq_true',Bool.not_eq_false']at*;omega):p:=h
theorem rr{p:Prop}(h:p:=by first|exact trivial|with_reducible_and_instances rfl|exact(rfl:AP.tup _=AP.tup _)):p:=h
theorem whd{p:Prop}(h:p:=by repeat'(first|exact trivial|(refine⟨rfl,?_⟩;conv=>whnf)|fail)):p:=h
theorem hds{p:Prop}(h:p:=by(conv=>whnf);exact whd):p:=h
end
section
open Go.RowKit
def JA(l:List Nat):List Nat->List Nat
 |[]=>l
 |x::r=>JA (if l.contains x then l else x::l) r
def uz(o:Oper):List Nat:=(o.after.toList.filter (Region.binds .any)).map (·.on)
def JN(D:List (List Nat)):List Nat->List Nat->List Nat
 |[],acc=>acc
 |e::r,acc=>JN D r (JA (JA acc [e]) (D.getD e []))
def yE:List (List Nat)->List Oper->List (List Nat)
 |D,[]=>D
 |D,o::r=>yE (D++[JN D (uz o) []]) r
theorem yO{x:Nat}:∀{r l:List Nat},x∈JA l r->x∈l\/x∈r
 |[],l,h=> .inl h
 |y::r,l,h=>by
  rcases yO (r:=r) h with h|h
  ·split at h
   ·exact .inl h
   ·rcases mem_cons.1 h with rfl|h
    ·exact .inr ah
    ·exact .inl h
  ·exact .inr (by simp[h])
theorem Fp{D:List (List Nat)}{x:Nat}:∀{es acc:List Nat},x∈JN D es acc->x∈acc\/∃e∈es,x=e\/x∈D.getD e []
 |[],acc,h=> .inl h
 |e::r,acc,h=>by
  rcases Fp (es:=r) h with h|⟨e',he,h⟩
  ·rcases yO h with h|h
   ·rcases yO h with h|h
    ·exact .inl h
    ·exact .inr ⟨e,by simp,.inl (by simpa using h)⟩
   ·exact .inr ⟨e,by simp,.inr h⟩
  ·exact .inr ⟨e',by simp[he],h⟩
def gX(ops:List Oper)(i:Nat):List Nat:=match ops[i]? with|some o=>uz o|none=>[]
theorem xS(ops:List Oper)(T:Nat->Prop)(hT:∀j,T j->∀e∈gX ops j,T e):∀(rest:List Oper) (D:List (List Nat)),(∀k,ops[D.length+k]? =rest[k]?)->
  (∀j,j<D.length->(∀e∈gX ops j,T e)->∀x∈D.getD j [],T x)->∀j,(∀e∈gX ops j,T e)->∀x∈(yE D rest).getD j [],T x
 |[],D,_,hD,j,hj,x,hx=>by
  by_cases h:j<D.length
  ·exact hD j h hj x hx
  ·simp[yE,List.getD,List.getElem?_eq_none (le_of_not_lt h)]at hx
 |o::r,D,ho,hD,j,hj,x,hx=>by
  refine xS ops T hT r (D++[JN D (uz o) []]) (λk=>?_) (λi hi hai y hy=>?_) j hj x hx
  ·have:=ho (k+1);simpa[Nat.add_assoc,Nat.add_comm 1 k]using this
  ·by_cases h:i<D.length
   ·refine hD i h hai y ?_;simpa[List.getD,List.getElem?_append_left h]using hy
   ·have hi':i=D.length:=by simp at hi;omega
    subst hi';simp[List.getD]at hy;rcases Fp hy with h0|⟨e,he,h0⟩
    ·cases h0
    ·have hae:gX ops D.length=uz o:=by
      have:=ho 0;simp only[Nat.add_zero,List.getElem?_cons_zero]at this;simp[gX,this]
     have hTe:T e:=hai e (by rw[hae];exact he);rcases h0 with rfl|h0
     ·exact hTe
     ·by_cases hel:e<D.length
      ·exact hD e hel (λe' he'=>hT e hTe e' he') y (by simpa[List.getD]using h0)
      ·simp[List.getElem?_eq_none (le_of_not_lt hel)]at h0
theorem qC:∀(ups:List (Nat×AV)) (tm:List AV),(ups.map (·.1)).Nodup->(ll tm ups).length=tm.length/\∀s:Nat,(ll tm ups)[s]? =match ups.find? (λp=>p.1==s)with
  |some p=>if s<tm.length then some p.2 else none
  |none=>tm[s]?
 |[],tm,_=>⟨rfl,λs=>rfl⟩
 |(i,v)::r,tm,hn=>by
  obtain⟨hi,hr⟩:=nodup_cons.1 (by rw[map_cons]at hn;exact hn);obtain⟨h1,h2⟩:=qC r (tm.set i v) hr;refine⟨by simpa[ll]using h1,λs=>?_⟩;have e:ll tm ((i,v)::r)=ll (tm.set i v) r:=rfl;rw[e,h2 s];by_cases his:i=s
  ·subst his;have hf:r.find? (λp=>p.1==i)=none:=by
    rw[List.find?_eq_none];intro p hp;simp only[beq_iff_eq];rintro rfl;exact hi (mem_map.2 ⟨p,hp,rfl⟩)
   simp only[hf,find?_cons,beq_self_eq_true];rw[List.getElem?_set,if_pos rfl]
  ·have hb:((i,v).1==s)=false:=by simp[his]
   simp only[find?_cons,hb];cases r.find? (λp=>p.1==s)with
   |some p=>simp
   |none=>simp[List.getElem?_set_ne his]
theorem F9{ups:List (Nat×AV)}{tm:List AV}(hn:(ups.map (·.1)).Nodup){s:Nat}{v:AV}(h:(s,v)∈ups)(hs:s<tm.length):(ll tm ups)[s]? =some v:=by
 rw[(qC ups tm hn).2 s];have:ups.find? (λp=>p.1==s)=some (s,v):=by
  induction ups with
  |nil=>cases h
  |cons p r ih=>
   obtain⟨hi,hr⟩:=nodup_cons.1 (by rw[map_cons]at hn;exact hn);rw[find?_cons];rcases mem_cons.1 h with h|h
   ·subst h;simp
   ·have hb:(p.1==s)=false:=by
     simp only[beq_eq_false_iff_ne];rintro rfl;exact hi (mem_map.2 ⟨_,h,rfl⟩)
    rw[hb];exact ih hr h
 rw[this];simp[hs]
theorem BL{ups:List (Nat×AV)}{tm:List AV}(hn:(ups.map (·.1)).Nodup){s:Nat}(h:∀p∈ups,p.1≠s):(ll tm ups)[s]? =tm[s]? :=by
 rw[(qC ups tm hn).2 s];have:ups.find? (λp=>p.1==s)=none:=by
  rw[List.find?_eq_none];intro p hp;simpa using h p hp
 rw[this]
theorem abd:∀{l m:List AV},l.length=m.length->(∀(s:Nat) x y,l[s]? =some x->m[s]? =some y->SP x y)->te l m
 |[],[],_,_=> .nil
 |x::l,y::m,hl,h=> .cons (h 0 x y rfl rfl) (abd (by simpa using hl) λs u v hu hv=>h (s+1) u v (by simpa using hu) (by simpa using hv))
 |[],_::_,hl,_=>by simp at hl
 |_::_,[],hl,_=>by simp at hl
section
variable (ops:List Oper) (D:List (List Nat)) (R:List (AV×Option AO)) (n0:Nat)
def dAt(j:Nat):Nat:=match ops[j]? with|some o=>o.dst.getD 0|none=>0
def vAt(j:Nat):AV:=(R.getD j (.one .dead,none)).1
def oAt(j:Nat):Option AO:=(R.getD j (.one .dead,none)).2
def inD(i j:Nat):Bool:=(D.getD j []).contains i
def upS(listed:Nat->Bool)(j:Nat):Option (Nat×AV):=if listed j then some (dAt ops j,vAt R j)else none
def upP(i j:Nat):Option (Nat×AV):=if inD D j i then some (dAt ops j,vAt R j)else if inD D i j||Nat.beq j i then none else some (dAt ops j,.one .dead)
def obF(listed:Nat->Bool)(j:Nat):Option (Nat×AO):=if listed j then(oAt R j).map λo=>(dAt ops j,o)else none
def stS(st0:ASt)(listed:Nat->Bool):ASt:=⟨ll st0.tm ((List.range n0).filterMap (upS ops R listed)),(List.range n0).filterMap (obF ops R listed)++st0.ob⟩
def stP(st0:ASt)(i:Nat):ASt:=⟨ll st0.tm ((List.range n0).filterMap (upP ops D R i)),(List.range n0).filterMap (obF ops R λj=>inD D j i)++st0.ob⟩
end
theorem jM{α:Type}{d:Nat->Nat}{f:Nat->Option (Nat×α)}(hf:∀j p,f j=some p->p.1=d j):∀{l:List Nat},(l.map d).Nodup->((l.filterMap f).map (·.1)).Nodup
 |[],_=>List.nodup_nil
 |j::r,h=>by
  obtain⟨hi,hr⟩:=nodup_cons.1 (by rw[map_cons]at h;exact h);rw[filterMap_cons];split
  ·exact jM hf hr
  ·rename_i p hp;rw[map_cons,nodup_cons];refine⟨λhm=>hi ?_,jM hf hr⟩;obtain⟨q,hq,e⟩:=mem_map.1 hm;obtain⟨k,hk,hfk⟩:=mem_filterMap.1 hq;rw[hf j p hp,hf k q hfk]at e;exact mem_map.2 ⟨k,hk,e⟩
theorem P5{d:Nat->Nat}{n j k:Nat}(h:((List.range n).map d).Nodup)(hj:j<n)(hk:k<n)(e:d j=d k):j=k:=by
 have h1:((List.range n).map d)[j]? =some (d j):=by simp[hj]
 have h2:((List.range n).map d)[k]? =some (d j):=by simp[hk,e]
 exact(List.getElem?_inj (by simpa using hj) h).1 (h1.trans h2.symm)
theorem Me{l m:List (Nat×AO)}{id:Nat}:bw (l++m) id=match bw l id with|some o=>some o|none=>bw m id:=by
 induction l with
 |nil=>rfl
 |cons p r ih=>
  obtain⟨k,o⟩:=p;simp only[List.cons_append,bw];split
  ·rfl
  ·exact ih
theorem Vh{d:Nat->Nat}{f:Nat->Option (Nat×AO)}(hf:∀j p,f j=some p->p.1=d j){n:Nat}(hd:((List.range n).map d).Nodup){id:Nat}{o:AO}:bw ((List.range n).filterMap f) id=some o↔∃j,j<n/\f j=some (id,o):=by
 have key:∀l:List Nat,(∀j∈l,j<n)->l.Nodup->(bw (l.filterMap f) id=some o↔∃j∈l,f j=some (id,o)):=by
  intro l;induction l with
  |nil=>intro _ _;simp[bw]
  |cons j r ih=>
   intro hl hn;obtain⟨hjr,hnr⟩:=nodup_cons.1 hn;have ih':=ih (λk hk=>hl k (by simp[hk])) hnr;rw[filterMap_cons];split
   ·rename_i hj;rw[ih'];constructor
    ·rintro⟨k,hk,e⟩;exact⟨k,by simp[hk],e⟩
    ·rintro⟨k,hk,e⟩;rcases mem_cons.1 hk with rfl|hk
     ·rw[hj]at e;cases e
     ·exact⟨k,hk,e⟩
   ·rename_i p hj;obtain⟨k0,o0⟩:=p;simp only[bw];have hk0:=hf j _ hj;simp only at hk0;by_cases hid:k0=id
    ·rw[if_pos hid];constructor
     ·intro e;injection e with e;subst e hid;exact⟨j,by simp,hj⟩
     ·rintro⟨k,hk,e⟩;rcases mem_cons.1 hk with rfl|hk
      ·rw[hj]at e;injection e with e;injection e with _ e;rw[e]
      ·have h1:=hf k _ e;simp only at h1;have:j=k:=P5 hd (hl j ah) (hl k (by simp[hk])) (by rw[<-hk0,<-h1,hid]);subst this;exact absurd hk hjr
    ·rw[if_neg hid,ih'];constructor
     ·rintro⟨k,hk,e⟩;exact⟨k,by simp[hk],e⟩
     ·rintro⟨k,hk,e⟩;rcases mem_cons.1 hk with rfl|hk
      ·rw[hj]at e;injection e with e;injection e with e _;exact absurd e hid
      ·exact⟨k,hk,e⟩
 rw[key _ (λj hj=>mem_range.1 hj) List.nodup_range];simp[mem_range]
def yd(id:Nat):AV->Bool
 | .one c=>sU id c
 | .agg cs=>cs.all (sU id)
 | .tup _=>false
def Ik(id:Nat):AO->Bool
 | .cells _ cs=>cs.all (sU id)
 | .row _ _ _=>true
 | .frame vs _=>vs.all (yd id)
 | .any _=>true
 | .many _ _=>true
theorem rU{id:Nat}{c:AC}(h:sU id c=true):jO id c=c:=by
 cases c with
 |own i=>simp only[sU,Bool.not_eq_true']at h;simp only[jO];rw[if_neg (Nat.ne_of_beq_eq_false h)]
 |ref i k s off=>simp only[sU,Bool.not_eq_true']at h;simp only[jO];rw[if_neg (Nat.ne_of_beq_eq_false h)]
 |_=>rfl
theorem Cx{id:Nat}{cs:List AC}(h:cs.all (sU id)=true):cs.map (jO id)=cs:=by
 induction cs with
 |nil=>rfl
 |cons c r ih=>
  simp only[List.all_cons,and_eq_true]at h;rw[map_cons,rU h.1,ih h.2]
theorem nV{id:Nat}{x:AV}(h:yd id x=true):nP id x=x:=by
 cases x with
 |one c=>simp only[nP];rw[rU h]
 |agg cs=>simp only[nP];rw[Cx h]
 |tup vs=>cases h
theorem rV{id:Nat}{o:AO}(h:Ik id o=true):ql id o=o:=by
 cases o with
 |cells t cs=>simp only[ql];rw[Cx h]
 |row e s xs=>rfl
 |frame vs us=>
  have:vs.map (nP id)=vs:=by
   have h':vs.all (yd id)=true:=h;clear h;induction vs with
   |nil=>rfl
   |cons x r ih=>
    simp only[List.all_cons,and_eq_true]at h';rw[map_cons,nV h'.1,ih h'.2]
  simp only[ql];rw[this]
 |any Q=>rfl
 |many P Q=>rfl
def qK(E:bx)(S:bZ)(o:Oper)(P:ASt)(v:AV)(oo:Option AO):Prop:=
 ∀Z ρ a w,Sim E.W S Z ρ P a w->∀(Kont:Act->World->Prop) Q,
  (∀ v' w' Z' ρ', w.grownBy w' none → (∀ b, Z b → Z' b) → (∀ b, Z' b → Z b ∨ (w.heap.size ≤ b ∧ b < w'.heap.size)) → cu Z' w' ρ' v v' →
   (match oo with
    |none=>ρ'=ρ
    |some ob=>∃d,o.dst=some d/\ρ'=(λi=>if i=d then v' else ρ i)/\(∀b,ch v'=some b->w.heap.size<=b)/\cZ Z' w' ρ' d ob/\Z'=Z)->Kont (a.put o.dst v') w')->Oper.wp E.P o a w Kont Q
section
variable {E:bx} {S:bZ} {ops:List Oper} {R:List (AV×Option AO)} {n0:Nat} {st0:ASt}
theorem KP{listed:Nat->Bool}(j:Nat)(p:Nat×AV)(h:upS ops R listed j=some p):p.1=dAt ops j:=by unfold upS at h;split at h<;>first|(injection h with h;subst h;rfl)|cases h
theorem sK{D:List (List Nat)}{i:Nat}(j:Nat)(p:Nat×AV)(h:upP ops D R i j=some p):p.1=dAt ops j:=by
 unfold upP at h;split at h
 ·injection h with h;subst h;rfl
 ·split at h
  ·cases h
  ·injection h with h;subst h;rfl
theorem Vg{listed:Nat->Bool}(j:Nat)(p:Nat×AO)(h:obF ops R listed j=some p):p.1=dAt ops j:=by
 unfold obF at h;split at h
 ·obtain⟨o,_,rfl⟩:=Option.map_eq_some_iff.1 h;rfl
 ·cases h
theorem y9(hd:((List.range n0).map (dAt ops)).Nodup){listed:Nat->Bool}{j:Nat}(hj:j<n0)(hl:listed j=true)(hs:dAt ops j<st0.tm.length):(stS ops R n0 st0 listed).tm[dAt ops j]? =some (vAt R j):=
 F9 (jM KP hd) (mem_filterMap.2 ⟨j,mem_range.2 hj,by simp[upS,hl]⟩) hs
theorem Gr(hd:((List.range n0).map (dAt ops)).Nodup){listed:Nat->Bool}{s:Nat}(h:∀j,j<n0->listed j=true->dAt ops j≠s):(stS ops R n0 st0 listed).tm[s]? =st0.tm[s]? :=by
 refine BL (jM KP hd) λp hp=>?_;obtain⟨j,hj,hf⟩:=mem_filterMap.1 hp;unfold upS at hf;split at hf
 ·rename_i hl;injection hf with hf
  subst hf;exact h j (mem_range.1 hj) hl
 ·cases hf
theorem sF(hd:((List.range n0).map (dAt ops)).Nodup){listed:Nat->Bool}:(stS ops R n0 st0 listed).tm.length=st0.tm.length:=(qC _ _ (jM KP hd)).1
theorem zc(hd:((List.range n0).map (dAt ops)).Nodup){listed:Nat->Bool}{id:Nat}{o:AO}:bw (stS ops R n0 st0 listed).ob id=some o↔(∃j,j<n0/\listed j=true/\dAt ops j=id/\oAt R j=some o)\/((∀j,j<n0->listed j=true->dAt ops j=id->oAt R j=none)/\bw st0.ob id=some o):=by
 have h0:∀o,bw ((List.range n0).filterMap (obF ops R listed)) id=some o↔∃j,j<n0/\listed j=true/\dAt ops j=id/\oAt R j=some o:=by
  intro o;rw[Vh Vg hd];constructor
  ·rintro⟨j,hj,hf⟩;unfold obF at hf;split at hf
   ·rename_i hl;obtain⟨o',ho',e⟩:=Option.map_eq_some_iff.1 hf;injection e with e1 e2
    exact⟨j,hj,hl,e1,e2▸ho'⟩
   ·cases hf
  ·rintro⟨j,hj,hl,e,ho⟩;exact⟨j,hj,by simp[obF,hl,ho,e]⟩
 show bw (_++_) id=some o↔_;rw[Me];cases hg:bw ((List.range n0).filterMap (obF ops R listed)) id with
 |some o'=>
  obtain⟨j,hj,hl,e,ho⟩:=(h0 o').1 hg;simp only;constructor
  ·intro e';injection e' with e';subst e';exact .inl ⟨j,hj,hl,e,ho⟩
  ·rintro(h|⟨h,_⟩)
   ·have:=(h0 o).2 h;rw[hg]at this;exact this
   ·have:=h j hj hl e;rw[ho]at this;cases this
 |none=>
  simp only;constructor
  ·intro e';refine .inr ⟨λj hj hl e=>?_,e'⟩;cases ho:oAt R j with
   |none=>rfl
   |some o'=>have:=(h0 o').2 ⟨j,hj,hl,e,ho⟩;rw[hg]at this;cases this
  ·rintro(h|⟨_,h⟩)
   ·have:=(h0 o).2 h;rw[hg]at this;cases this
   ·exact h
end
end
section
open Go.RowKit
section
variable {E:bx} {S:bZ} {ops:List Oper} {D:List (List Nat)} {R:List (AV×Option AO)} {n0:Nat} {st0:ASt}
theorem WW(hd:((List.range n0).map (dAt ops)).Nodup){i j:Nat}(hj:j<n0)(hs:dAt ops j<st0.tm.length):
  (stP ops D R n0 st0 i).tm[dAt ops j]? =if inD D j i then some (vAt R j)else if inD D i j||Nat.beq j i then st0.tm[dAt ops j]? else some (.one .dead):=by
 by_cases h1:inD D j i=true
 ·rw[if_pos h1];exact F9 (jM sK hd) (mem_filterMap.2 ⟨j,mem_range.2 hj,by simp[upP,h1]⟩) hs
 ·rw[if_neg h1];by_cases h2:(inD D i j||Nat.beq j i)=true
  ·rw[if_pos h2];refine BL (jM sK hd) λp hp e=>?_;obtain⟨k,hk,hf⟩:=mem_filterMap.1 hp;have e2:=sK k p hf;have:k=j:=P5 hd (mem_range.1 hk) hj (by rw[<-e2,e]);subst this;unfold upP at hf;rw[if_neg h1,if_pos h2]at hf;cases hf
  ·rw[if_neg h2];exact F9 (jM sK hd) (mem_filterMap.2 ⟨j,mem_range.2 hj,by unfold upP;rw[if_neg h1,if_neg h2]⟩) hs
theorem WX(hd:((List.range n0).map (dAt ops)).Nodup){i s:Nat}(h:∀j,j<n0->dAt ops j≠s):(stP ops D R n0 st0 i).tm[s]? =st0.tm[s]? :=by
 refine BL (jM sK hd) λp hp=>?_;obtain⟨j,hj,hf⟩:=mem_filterMap.1 hp;rw[sK j p hf];exact h j (mem_range.1 hj)
theorem Vu(hd:((List.range n0).map (dAt ops)).Nodup)(hlen:∀j,j<n0->dAt ops j<st0.tm.length)(hob:∀j,j<n0->oAt R j≠none->bw st0.ob (dAt ops j)=none){listed:Nat->Bool}{i:Nat}
  (hli:listed i=false) (hD:∀j,j<n0->inD D j i=true->listed j=true) (hA:∀j,j<n0->inD D i j=true->listed j=false):
  te (stS ops R n0 st0 listed).tm (stP ops D R n0 st0 i).tm/\aK (stS ops R n0 st0 listed).ob (stP ops D R n0 st0 i).ob:=by
 constructor
 ·refine abd (by rw[sF hd];exact(qC _ _ (jM sK hd)).1.symm) λs x y hx hy=>?_;by_cases hs:∃j,j<n0/\dAt ops j=s
  ·obtain⟨j,hj,rfl⟩:=hs;rw[WW hd hj (hlen j hj)]at hy;have un:listed j=false->(stS ops R n0 st0 listed).tm[dAt ops j]? =st0.tm[dAt ops j]? :=λhl=>Gr hd λk hk hkl e=>by
    have:=P5 hd hk hj e;subst this;rw[hl]at hkl;cases hkl
   split at hy
   ·rename_i h1;rw[y9 hd hj (hD j hj h1) (hlen j hj)]at hx;injection hx with hx
    injection hy with hy
    rw[<-hx,<-hy];exact .refl _
   ·split at hy
    ·rename_i h1 h2;have hl:listed j=false:=by
      simp only[or_eq_true]at h2;rcases h2 with h2|h2
      ·exact hA j hj h2
      ·rw[eq_of_beq_eq_true h2];exact hli
     rw[un hl,hy]at hx;injection hx with hx
     rw[hx];exact .refl _
    ·injection hy with hy
     subst hy;exact .dead _
  ·have h:∀j,j<n0->dAt ops j≠s:=λj hj e=>hs ⟨j,hj,e⟩;rw[Gr hd λj hj _=>h j hj]at hx;rw[WX hd h,hx]at hy;injection hy with hy
   rw[hy];exact .refl _
 ·intro id o ho;have e:(stP ops D R n0 st0 i).ob=(stS ops R n0 st0 λj=>inD D j i).ob:=rfl;rw[e,zc hd]at ho;rw[zc hd];rcases ho with⟨j,hj,h1,h2,h3⟩|⟨h1,h2⟩
  ·exact .inl ⟨j,hj,hD j hj h1,h2,h3⟩
  ·refine .inr ⟨λj hj hl e=>?_,h2⟩;cases ho:oAt R j with
   |none=>rfl
   |some o'=>
    have:=hob j hj (by rw[ho];simp);rw[e,h2]at this;cases this
structure DBase (ops:List Oper) (D:List (List Nat)) (R:List (AV×Option AO)) (n0:Nat) (st0:ASt):Prop where
 le:n0<=ops.length
 nd:((List.range n0).map (dAt ops)).Nodup
 dst:∀i o,i<n0->ops[i]? =some o->o.dst=some (dAt ops i)
 len:∀j,j<n0->dAt ops j<st0.tm.length
 ob:∀j,j<n0->oAt R j≠none->bw st0.ob (dAt ops j)=none
 noV:∀i,i<n0->oAt R i≠none->(∀x∈st0.tm,yd (dAt ops i) x=true)/\∀p∈st0.ob,Ik (dAt ops i) p.2=true
 noR:∀i j,i<n0->j<n0->oAt R i≠none->inD D i j=false->j≠i->yd (dAt ops i) (vAt R j)=true/\∀o,oAt R j=some o->Ik (dAt ops i) o=true
def qJ(E:bx)(S:bZ)(D:List (List Nat))(R:List (AV×Option AO))(n0:Nat)(P:ASt)(i:Nat)(o:Oper):Prop:=match o.guard with
  |none=>qK E S o P (vAt R i) (oAt R i)
  |some (g,want)=>g<n0/\inD D g i=true/\((∃p,vAt R g=vB p/\((p=want/\qK E S o P (vAt R i) (oAt R i))\/(p≠want/\vAt R i= .one .und/\oAt R i=none)))\/(vAt R g= .one .und/\vAt R i= .one .und/\oAt R i=none))
structure Jf (E:bx) (S:bZ) (ops:List Oper) (D:List (List Nat)) (R:List (AV×Option AO)) (n0:Nat) (st0:ASt):Prop extends DBase ops D R n0 st0 where
 out:∀i o,i<n0->ops[i]? =some o->qJ E S D R n0 (stP ops D R n0 st0 i) i o
theorem dc{l:List (Nat×AO)}{id:Nat}{o:AO}(h:bw l id=some o):(id,o)∈l:=by
 induction l with
 |nil=>cases h
 |cons p r ih=>
  obtain⟨k,x⟩:=p;simp only[bw]at h;split at h
  ·rename_i e;injection h with h;subst e h;simp
  ·exact List.mem_cons_of_mem _ (ih h)
theorem EH(F:DBase ops D R n0 st0){listed:Nat->Bool}{i:Nat}{o:Oper}(hi:i<n0)(ho:ops[i]? =some o)(hA:∀j,j<n0->inD D i j=true->listed j=false)(hli:listed i=false)
  {Z Z':Nat->Prop} {ρ ρ':Nat->Value} {a:Act} {w w':World} {v':Value} (hs:Sim E.W S Z ρ (stS ops R n0 st0 listed) a w)
  (hg:w.grownBy w' none) (hz:∀b,Z b->Z' b) (hz2:∀b,Z' b->Z b\/(w.heap.size<=b/\b<w'.heap.size)) (hv:cu Z' w' ρ' (vAt R i) v')
  (hoo : match oAt R i with
    |none=>ρ'=ρ
    |some ob=>∃d,o.dst=some d/\ρ'=(λi=>if i=d then v' else ρ i)/\(∀b,ch v'=some b->w.heap.size<=b)/\cZ Z' w' ρ' d ob/\Z'=Z):
  f8 E.W S (stS ops R n0 st0 λj=>listed j||Nat.beq j i) (a.put o.dst v') w':=by
 have hdst:=F.dst i o hi ho;have hnd:=F.nd;have slot:∀s,s≠dAt ops i->(stS ops R n0 st0 λj=>listed j||Nat.beq j i).tm[s]? =(stS ops R n0 st0 listed).tm[s]? :=by
  intro s hne;by_cases hex:∃j,j<n0/\listed j=true/\dAt ops j=s
  ·obtain⟨j,hj,hl,rfl⟩:=hex;rw[y9 hnd hj (by simp[hl]) (F.len j hj),y9 hnd hj hl (F.len j hj)]
  ·rw[Gr hnd λj hj hl e=>?_,Gr hnd λj hj hl e=>hex ⟨j,hj,hl,e⟩];simp only[or_eq_true]at hl;rcases hl with hl|hl
   ·exact hex ⟨j,hj,hl,e⟩
   ·exact hne (by rw[<-e,eq_of_beq_eq_true hl])
 have slotI:(stS ops R n0 st0 λj=>listed j||Nat.beq j i).tm[dAt ops i]? =some (vAt R i):=y9 hnd hi ah (F.len i hi);cases ho':oAt R i with
 |none=>
  rw[ho']at hoo;have hoo:ρ'=ρ:=hoo;subst hoo;have h1:=(hs.grow hg hz hz2).put o.dst hv;refine⟨Z',ρ',h1.sub (abd ?_ λs x y hx hy=>?_) λid ob hob=>?_⟩
  ·rw[hdst];simp[Mr,sF hnd]
  ·rw[hdst]at hx;simp only[Mr,List.getElem?_set]at hx;by_cases hsd:dAt ops i=s
   ·subst hsd;rw[slotI]at hy;rw[if_pos rfl,sF hnd,if_pos (F.len i hi)]at hx;injection hx with hx
    injection hy with hy
    rw[<-hx,<-hy];exact .refl _
   ·rw[if_neg hsd]at hx;rw[slot s (λe=>hsd e.symm),hx]at hy;injection hy with hy
    rw[hy];exact .refl _
  ·rw[zc hnd]at hob;show bw (stS ops R n0 st0 listed).ob id=some ob;rw[zc hnd];rcases hob with⟨j,hj,hl,e,h⟩|⟨h,hb⟩
   ·simp only[or_eq_true]at hl;rcases hl with hl|hl
    ·exact .inl ⟨j,hj,hl,e,h⟩
    ·rw[eq_of_beq_eq_true hl,ho']at h;cases h
   ·exact .inr ⟨λj hj hl e=>h j hj (by simp[hl]) e,hb⟩
 |some ob=>
  rw[ho']at hoo;obtain⟨d,hd,hρ,hb,hrel,hZ⟩:=hoo;rw[hdst]at hd;injection hd with hd
  subst hd hZ hρ;have hne:oAt R i≠none:=by rw[ho'];simp
  have h1:=(hs.renew (dAt ops i) v' ob hg ah (λb hbb=> .inr (hb b hbb)) hrel).put o.dst hv;have noS:∀(s:Nat) x,(stS ops R n0 st0 listed).tm[s]? =some x->nP (dAt ops i) x=x:=by
   intro s x hx;by_cases hex:∃j,j<n0/\listed j=true/\dAt ops j=s
   ·obtain⟨j,hj,hl,rfl⟩:=hex;rw[y9 hnd hj hl (F.len j hj)]at hx;injection hx with hx
    subst hx;have hij:inD D i j=false:=by
     cases h:inD D i j with
     |false=>rfl
     |true=>have:=hA j hj h;rw[hl]at this;cases this
    exact nV (F.noR i j hi hj hne hij (λe=>by subst e;rw[hli]at hl;cases hl)).1
   ·rw[Gr hnd λj hj hl e=>hex ⟨j,hj,hl,e⟩]at hx;exact nV ((F.noV i hi hne).1 x (List.mem_of_getElem? hx))
  have noO:∀id o',bw (stS ops R n0 st0 listed).ob id=some o'->ql (dAt ops i) o'=o':=by
   intro id o' h;rw[zc hnd]at h;rcases h with⟨j,hj,hl,e,h⟩|⟨_,h⟩
   ·have hij:inD D i j=false:=by
     cases h:inD D i j with
     |false=>rfl
     |true=>have:=hA j hj h;rw[hl]at this;cases this
    exact rV ((F.noR i j hi hj hne hij (λe=>by subst e;rw[hli]at hl;cases hl)).2 o' h)
   ·exact rV ((F.noV i hi hne).2 (id,o') (dc h))
  refine⟨Z',_,h1.sub (abd ?_ λs x y hx hy=>?_) λid o' hob=>?_⟩
  ·rw[hdst];simp[Mr,lX,sF hnd]
  ·rw[hdst]at hx;simp only[Mr,List.getElem?_set]at hx;by_cases hsd:dAt ops i=s
   ·subst hsd;rw[slotI]at hy;rw[if_pos rfl]at hx;simp only[lX,List.length_map,sF hnd,if_pos (F.len i hi)]at hx;injection hx with hx
    injection hy with hy
    rw[<-hx,<-hy];exact .refl _
   ·rw[if_neg hsd]at hx;simp only[lX,List.getElem?_map]at hx;obtain⟨x0,hx0,rfl⟩:=Option.map_eq_some_iff.1 hx;rw[slot s (λe=>hsd e.symm),hx0]at hy;injection hy with hy
    rw[noS s x0 hx0,hy];exact .refl _
  ·show bw (jG (lX (dAt ops i) (stS ops R n0 st0 listed)).ob (dAt ops i) ob) id=some o';rw[dy];rw[zc hnd]at hob;by_cases hid:dAt ops i=id
   ·rw[if_pos hid];rcases hob with⟨j,hj,hl,e,h⟩|⟨h,_⟩
    ·have:j=i:=P5 hnd hj hi (by rw[e,hid]);subst this;rw[ho']at h;exact h
    ·have:=h i hi ah hid;rw[ho']at this;cases this
   ·rw[if_neg hid];have hold:bw (stS ops R n0 st0 listed).ob id=some o':=by
     rw[zc hnd];rcases hob with⟨j,hj,hl,e,h⟩|⟨h,hb⟩
     ·simp only[or_eq_true]at hl;rcases hl with hl|hl
      ·exact .inl ⟨j,hj,hl,e,h⟩
      ·exact absurd (by rw[<-e,eq_of_beq_eq_true hl]) hid
     ·exact .inr ⟨λj hj hl e=>h j hj (by simp[hl]) e,hb⟩
    simp only[lX,yP,hold,Option.map_some];rw[noO id o' hold]
theorem NZ(F:DBase ops D R n0 st0){listed:Nat->Bool}{i:Nat}{o:Oper}(hi:i<n0)(ho:ops[i]? =some o)(hli:listed i=false)(hD:∀j,inD D j i=true->listed j=true)(hA:∀j,j<n0->inD D i j=true->listed j=false)
  {P:ASt} (hsub:te (stS ops R n0 st0 listed).tm P.tm/\aK (stS ops R n0 st0 listed).ob P.ob) (hout:qJ E S D R n0 P i o)
  {a:Act} {w:World} (hs:f8 E.W S (stS ops R n0 st0 listed) a w) {Kont:Act->World->Prop} {Q:Exit->Act->World->Prop} (hK:∀a' w',f8 E.W S (stS ops R n0 st0 λj=>listed j||Nat.beq j i) a' w'->Kont a' w'):
  (Region.wanted o (yielded ops.toArray a.tmps)=true->o.wp E.P a w Kont Q)/\(Region.wanted o (yielded ops.toArray a.tmps)=false->Kont (a.put o.dst undef) w):=by
 obtain⟨Z,ρ,hs⟩:=hs;have run:qK E S o P (vAt R i) (oAt R i)->o.wp E.P a w Kont Q:=λhf=>
  hf Z ρ a w (hs.sub hsub.1 hsub.2) Kont Q λv' w' Z' ρ' h1 h2 h3 h4 h5=>hK _ _ (EH F hi ho hA hli hs h1 h2 h3 h4 h5)
 unfold qJ at hout;cases hg:o.guard with
 |none=>
  rw[hg]at hout;exact⟨λ_=>run hout,λh=>by simp[Region.wanted,hg]at h⟩
 |some gw=>
  obtain⟨g,want⟩:=gw;rw[hg]at hout;obtain⟨hgn,hgi,hcase⟩:=hout;have hgl:listed g=true:=hD g hgi;rcases hcase with hcase|⟨hp,hv,hoo⟩
  case inr=>
   have hy:yielded ops.toArray a.tmps g=none:=by
    have hx:=y9 (R:=R) (st0:=st0) F.nd hgn hgl (F.len g hgn);obtain⟨og,hog⟩:∃og,ops[g]? =some og:=by
     have:=F.le;exact⟨ops[g],List.getElem?_eq_getElem ac⟩
    have hdg:=F.dst g og hgn hog;have hlt:dAt ops g<a.tmps.size:=by rw[hs.len,sF F.nd];exact F.len g hgn
    have hrel:=hs.tm _ _ _ hx (getElem?_eq_getElem hlt);rw[hp]at hrel;cases hrel with
    |one _ _ hrel=>
     have e:a.tmps[dAt ops g]=undef:=hrel;simp[yielded,hog,hdg,getElem?_eq_getElem hlt,e,undef]
   have hw:Region.wanted o (yielded ops.toArray a.tmps)=false:=by simp[Region.wanted,hg,hy]
   refine⟨λh=>(by rw[hw]at h;cases h),λ_=>hK _ _ ?_⟩;refine EH F hi ho hA hli hs (World.grownBy.refl w _) (λ_ h=>h) (λ_ h=> .inl h) (ρ':=ρ) ?_ ?_
   ·rw[hv];exact .one _ _ (show fp Z w ρ .und undef from rfl)
   ·rw[hoo]
  obtain⟨p,hp,hcase⟩:=hcase;have hy:yielded ops.toArray a.tmps g=some p:=by
   have hx:=y9 (R:=R) (st0:=st0) F.nd hgn hgl (F.len g hgn);obtain⟨og,hog⟩:∃og,ops[g]? =some og:=by
    have:=F.le;exact⟨ops[g],List.getElem?_eq_getElem ac⟩
   have hdg:=F.dst g og hgn hog;have hlt:dAt ops g<a.tmps.size:=by rw[hs.len,sF F.nd];exact F.len g hgn
   have hrel:=hs.tm _ _ _ hx (getElem?_eq_getElem hlt);rw[hp]at hrel;have:=cF hrel;simp[yielded,hog,hdg,hlt,this]
  have hw:Region.wanted o (yielded ops.toArray a.tmps)=(p==want):=by simp[Region.wanted,hg,hy]
  rcases hcase with⟨hpw,hf⟩|⟨hpw,hv,hoo⟩
  ·exact⟨λ_=>run hf,λh=>by rw[hw,hpw]at h;simp at h⟩
  ·refine⟨λh=>by rw[hw]at h;exact absurd (by simpa using h) hpw,λ_=>hK _ _ ?_⟩;refine EH F hi ho hA hli hs (World.grownBy.refl w _) (λ_ h=>h) (λ_ h=> .inl h) (ρ':=ρ) ?_ ?_
   ·rw[hv];exact .one _ _ (show fp Z w ρ .und undef from rfl)
   ·rw[hoo]
theorem Rf(F:Jf E S ops D R n0 st0){listed:Nat->Bool}{i:Nat}{o:Oper}(hi:i<n0)(ho:ops[i]? =some o)(hli:listed i=false)(hD:∀j,inD D j i=true->listed j=true)(hA:∀j,j<n0->inD D i j=true->listed j=false)
  {a:Act} {w:World} (hs:f8 E.W S (stS ops R n0 st0 listed) a w) {Kont:Act->World->Prop} {Q:Exit->Act->World->Prop} (hK:∀a' w',f8 E.W S (stS ops R n0 st0 λj=>listed j||Nat.beq j i) a' w'->Kont a' w'):
  (Region.wanted o (yielded ops.toArray a.tmps)=true->o.wp E.P a w Kont Q)/\(Region.wanted o (yielded ops.toArray a.tmps)=false->Kont (a.put o.dst undef) w):=
 NZ F.toDBase hi ho hli hD hA (Vu (D:=D) F.nd F.len F.ob hli (λj _ h=>hD j h) hA) (F.out i o hi ho) hs hK
end
end
section
open Go.RowKit
section
variable {E:bx} {S:bZ} {Z:Nat->Prop} {ρ:Nat->Value} {st:ASt} {a:Act} {w:World} {o:Oper}
def DJ(E:bx)(Z:Nat->Prop)(ρ:Nat->Value)(o:Oper)(a:Act)(w:World)(v:AV)(oo:Option AO):Prop:=
 ∀(Kont:Act->World->Prop) Q,
  (∀ v' w' Z' ρ', w.grownBy w' none → (∀ b, Z b → Z' b) → (∀ b, Z' b → Z b ∨ (w.heap.size ≤ b ∧ b < w'.heap.size)) → cu Z' w' ρ' v v' →
   (match oo with
    |none=>ρ'=ρ
    |some ob=>∃d,o.dst=some d/\ρ'=(λi=>if i=d then v' else ρ i)/\(∀b,ch v'=some b->w.heap.size<=b)/\cZ Z' w' ρ' d ob/\Z'=Z)->Kont (a.put o.dst v') w')->Oper.wp E.P o a w Kont Q
theorem dr{K:AV->Option AO->Prop}(h:jI E Z ρ o a w λv=>K v none):∃v oo,DJ E Z ρ o a w v oo/\K v oo:=by
 obtain⟨x,v,hx,hr,hk⟩:=h;refine⟨x,none,λKont Q hK=>?_,hk⟩;unfold Oper.wp;rw[hr];exact hK v w Z ρ (World.grownBy.refl w _) (λ_ h=>h) (λ_ h=> .inl h) hx rfl
theorem qg{K:AV->Option AO->Prop}(h:jI E Z ρ o a w (λv=>K v none)\/False):∃v oo,DJ E Z ρ o a w v oo/\K v oo:=by
 rcases h with h|h
 ·exact dr h
 ·exact h.elim
theorem Fs{id:Nat}:∀{cs:List AC},J4 id cs=true->cs.all (sU id)=true
 |[],_=>rfl
 |c::r,h=>by
  simp only[J4]at h;split at h
  ·rename_i hc;simp[hc,Fs h]
  ·cases h
theorem EL{K:AV->Option AO->Prop}(h:Sim E.W S Z ρ st a w){t:TypeId}{cs:List AC}{v:Value}(hrel:DL Z w ρ cs v.cells.toList)
  (hr:(execOp a.eval o).run E.P w= .ok (.value (.pointer (some ⟨w.heap.size,0,none⟩))) (w.alloc (.cells v.cells t))) (hk:KS o.dst t cs K):∃x oo,DJ E Z ρ o a w x oo/\K x oo:=by
 unfold KS at hk;split at hk
 ·rename_i d hd;split at hk
  ·rename_i hno;have hno:=Fs hno;refine⟨_,_,λKont Q hK=>?_,hk⟩;unfold Oper.wp;rw[hr];have hg:=grownBy_alloc w (.cells v.cells t) none;have hz:=h.ws.zsame hg ah;refine hK _ _ Z (λi=>if i=d then .pointer (some ⟨w.heap.size,0,none⟩)else ρ i) hg (λ_ h=>h) (λ_ h=> .inl h) (qv (id:=d) (k:=0) (s:=0) (off:=0) (b:=w.heap.size) (by simp[ch]) ah) ⟨d,hd,rfl,λb hb=>by simp[ch]at hb;omega,?_,rfl⟩;refine⟨w.heap.size,v.cells.toList,by simp,by rw[toArray_toList];exact heap_alloc_new w _,hrel.1,λi c u h1 h2=>?_⟩;have hc:jO d c=c:=rU (all_eq_true.1 hno c (List.mem_of_getElem? h1));have:=nt (id:=d) (y:= .pointer (some ⟨w.heap.size,0,none⟩)) ((hrel.2 i c u h1 h2).mono (λ_ h=>h) hz);rwa[hc]at this
  ·exact hk.elim
 ·exact hk.elim
theorem Lo{K:AV->Option AO->Prop}(h:Sim E.W S Z ρ st a w){f:FuncId}{args:List AV}{us:List Value}(hl:us.length=args.length)(hrel:∀(i:Nat) x u,args[i]? =some x->us[i]? =some u->cu Z w ρ x u)
  (hr:(execOp a.eval o).run E.P w=(callFunc f us.toArray).run E.P w) (hk:aH E st.ob f args λr=>K r none):∃x oo,DJ E Z ρ o a w x oo/\K x oo:=by
 obtain⟨ps,res,hc,hargs,hk⟩:=hk.h;refine⟨_,_,λKont Q hK=>?_,hk⟩;unfold Oper.wp;rw[hr,hc.enter];rcases hargs with hps|⟨hps,hsc⟩|⟨hext,hsc⟩
 ·have hws0:WS E.W S Z w ρ []:=h.ws.sub aaE;obtain⟨ps',h1,h2,rfl⟩:=kO (st:=⟨[],[]⟩) hws0 hl hrel (Jv hps);refine(hc.run Z w us h.ws.zlt h.ws.g h1 λi p u h3 h4=>?_).mono ?_
  ·have:=h2 i p u h3 h4;have hz:∀b,kL Z ρ [] b->Z b:=by rintro b (hb|⟨id,o,ho,_⟩);exact hb;cases ho
   cases p with
   |one d=>exact co.mono hz (λ_ _=>rfl) this
   |agg ds=>obtain⟨us,e,hl,hr⟩:=this;exact⟨us,e,hl,λi d u h5 h6=>(hr i d u h5 h6).mono hz λ_ _=>rfl⟩
  ·rintro e w' ⟨v,Z',rfl,hb,hz,hz2,hv⟩;exact hK v w' Z' ρ (gC hb) hz hz2 hv.v rfl
 ·obtain⟨ps',h1,h2,rfl⟩:=kO h.ws hl hrel hps;refine(hc.run (kL Z ρ st.ob) w us (kL.lt h.ws) ?_ h1 h2).mono ?_
  ·obtain⟨w1,g1,g2,g3⟩:=h.ws.g;exact⟨w1,g1,g2,λb hb=> .inl (g3 b hb)⟩
  ·rintro e w' ⟨v,Z',rfl,hb,hz,hz2,hv⟩;exact hK v w' Z ρ (gC hb) (λ_ h=>h) (λ_ h=> .inl h) (hv.any hsc).v rfl
 ·obtain⟨Z2,z1,z2,h1,h2⟩:=hext.h S Z ρ w us h.ws hl hrel;refine(hc.run Z2 w us z2 ?_ h1 h2).mono ?_
  ·obtain⟨w1,g1,g2,g3⟩:=h.ws.g;exact⟨w1,g1,g2,λb hb=>z1 b (g3 b hb)⟩
  ·rintro e w' ⟨v,Z',rfl,hb,hz,hz2,hv⟩;exact hK v w' Z ρ (gC hb) (λ_ h=>h) (λ_ h=> .inl h) (hv.any hsc).v rfl
theorem Ra(he:E.Ok){K:AV->Option AO->Prop}(h:Sim E.W S Z ρ st a w)(hk:nH E o st K):∃v oo,DJ E Z ρ o a w v oo/\K v oo:=by
 unfold nH at hk;split at hk
 ·rename_i x ho;exact dr (se h (.inl ho) hk)
 ·rename_i x ho;exact dr (se h (.inr ho) hk)
 ·rename_i c x y ho;exact dr (FG (K:=λv=>K v none) h ho hk)
 ·rename_i op t x y t2 ho;rcases Iu he h ho hk with h1|h1
  ·exact dr h1
  ·obtain⟨v,hk1,hr⟩:=h1.h;obtain⟨u,hu,hrun⟩:=hr S Z ρ a w h;exact dr ⟨v,u,hu,hrun,hk1⟩
 ·rename_i op t x ho;exact qg (Mt h ho hk)
 ·rename_i s d x ho;exact qg (FE he h ho hk)
 ·rename_i t x f ho;exact dr (sV he h ho hk)
 ·rename_i t x ho;exact dr (FF he h ho hk)
 ·rename_i t ps ho;exact dr (CG he h ho hk)
 ·rename_i t n ps ho;obtain⟨i,hi,hk⟩:=bJ he hk;split at hk
  ·rename_i e hs;obtain⟨j,hj,hk⟩:=bJ he hk;split at hk
   ·exact hk.elim
   ·rename_i s hjs;split at hk
    ·rename_i hle;have hle:=Nat.le_of_ble_eq_true hle;have hjs':j.size=s+1:=hjs;rw[<-hjs']at hk hle;obtain⟨xs,us,hn,h2,h3,h4,h5,hz,hnm,hk⟩:=Td h ho (hi.sl hs) hj hle ac hk;refine⟨_,_,λKont Q hK=>?_,hk⟩;unfold Oper.wp;rw[hz];have hg:=grownBy_alloc w (.cells us.flatten.toArray e) none;have hzs:=h.ws.zsame hg ah;refine hK _ _ (λb=>Z b\/b=w.heap.size) ρ hg (λb hb=> .inl hb) (λb hb=>hb.imp id λe=>⟨ac,by simp[e]⟩) (Ug ?_) rfl;have hd:=co.sl (Z:=λb=>Z b\/b=w.heap.size) (w:=w.alloc (.cells us.flatten.toArray e)) xs (some ⟨w.heap.size,0,none⟩) n j.size us ac hnm h2 h3 h4 (.inr ⟨w.heap.size,0,rfl,.inr rfl,λi u hu=>by
       rw[cell_of_row _ w.heap.size (0+i) _ _ _ (heap_alloc_new w _),Nat.zero_add];simpa using hu⟩) λi k x u p q e1 e2 e3 e4=>(h5 i k x u p q e1 e2 e3 e4).mono (λb hb=> .inl hb) hzs
     rwa[hn]at hd
    ·exact hk.elim
  ·exact hk.elim
 ·rename_i t x ho;obtain⟨vx,hx,hk⟩:=bz h hk;obtain⟨cs,hk,_,hrel⟩:=nF hx hk;refine EL h hrel ?_ hk;simp[execOp,ho,Instr.box,newVar,newRow]
 ·rename_i t ho;obtain⟨i,hi,hk⟩:=bJ he hk;obtain⟨cs,hk,_,hrel⟩:=wK hk;refine EL h (hrel Z w ρ) ?_ hk;simp[execOp,ho,Instr.alloc,hi.zr,newVar,newRow]
 ·rename_i t x lo hi ho;exact qg (CJ he h ho hk)
 ·rename_i t x i ho;exact dr (sW he h ho hk)
 ·rename_i t x i ho;exact qg (CI he h ho hk)
 ·rename_i t x f ho;exact dr (CH he h ho hk)
 ·rename_i x i ho;exact dr (yi (K:=λv=>K v none) h ho hk)
 ·rename_i x ho;obtain⟨vx,hx,hk⟩:=bz h hk;split at hk
  ·have hx':=hx;cases hx with
   |one _ _ hx=>
    obtain⟨b,hb,e⟩:=hx;exact dr ⟨_,_,hx',by simp[execOp,ho,e],hk⟩
  ·have hx':=hx;cases hx with
   |one _ _ hx=>
    obtain⟨b,off,us,e,_⟩:=hx;exact dr ⟨_,_,hx',by simp[execOp,ho,e],hk⟩
  ·exact hk.elim
 ·rename_i c ho;split at hk
  ·rename_i hb;obtain⟨vs,hl,hv,hk1⟩:=ui h hk;clear hk;split at hk1
   ·rename_i t ts x hts;have hlen:c.args.toList.length=1:=by simpa using hl.symm
    obtain⟨y,hy⟩:=List.length_eq_one_iff.1 hlen;have h0:=hv 0 y x (by rw[hy];rfl) rfl;have ht:c.argTypes[0]? =some t:=by rw[<-Array.getElem?_toList,hts];rfl
    refine qg (Iv he h (ts:=c.argTypes) h0 ?_ ht hk1);simp only[execOp,ho,resolve,hb,Sem.run_bind,Sem.run_pure,Result.andThen_ok,invoke,wM c.args a.eval,hy];simp[builtin]
   ·exact hk1.elim
  ·rename_i fo hf;obtain⟨vf,hvf,hk1⟩:=bz h hk;clear hk;split at hk1
   ·rename_i f first caps
    have ef:=cF hvf;split at hk1
    ·rename_i h1 h2;obtain⟨vs,hl,hv,hk2⟩:=ui h hk1;have e1:first= #[]:=by simpa using h1
     have e2:caps= #[]:=by simpa using h2
     subst e1 e2;refine Lo h (us:=c.args.toList.map a.eval) (by simp[hl]) (λi x u h3 h4=>?_) ?_ hk2
     ·rw[List.getElem?_map]at h4;obtain⟨y,hy,rfl⟩:=Option.map_eq_some_iff.1 h4;exact hv i y x hy h3
     ·simp only[execOp,ho,resolve,hf,ef,Deferred.ofValue,invoke,Sem.run_bind,Sem.run_pure,Result.andThen_ok,wM c.args a.eval];simp
    ·exact hk1.elim
   ·exact hk1.elim
  ·exact hk.elim
 ·obtain⟨v,hk1,hr⟩:=hk.h;obtain⟨u,hu,hrun⟩:=hr S Z ρ a w h;exact dr ⟨v,u,hu,hrun,hk1⟩
end
theorem EM{E:bx}(he:E.Ok){S:bZ}{o:Oper}{P:ASt}{v:AV}{oo:Option AO}(h:nH E o P λv' oo'=>v'=v/\oo'=oo):qK E S o P v oo:=by
 intro Z ρ a w hs Kont Q hK;obtain⟨v',oo',hf,rfl,rfl⟩:=Ra he hs h;exact hf Kont Q hK
end
section
open Go.RowKit
def aMk(fl:Nat->Nat):List Oper->List (AV×Option AO)->Nat->List AV->(List AV->List (Nat×AO)->Prop)->Prop
 |[],_,_,tm,K=>K tm []
 |_::_,[],_,_,_=>False
 |o::ops,r::R,j,tm,K=>match fl j with
  |0=>aMk fl ops R (j+1) tm K
  |1=>match o.dst with
   |none=>False
   |some d=>match r with
    |(v,oo)=>oy tm d v λtm=>match oo with
     |none=>aMk fl ops R (j+1) tm K
     |some x=>aMk fl ops R (j+1) tm λtm obs=>K tm ((d,x)::obs)
  |_+2=>match o.dst with
   |none=>False
   |some d=>oy tm d (.one .dead) λtm=>aMk fl ops R (j+1) tm K
def upF(ops:List Oper)(R:List (AV×Option AO))(fl:Nat->Nat)(j:Nat):Option (Nat×AV):=
 match fl j with
 |0=>none
 |1=>some (dAt ops j,vAt R j)
 |_+2=>some (dAt ops j,.one .dead)
theorem wG{fl:Nat->Nat}{opsA:List Oper}{RA:List (AV×Option AO)}:∀(ops:List Oper) (R:List (AV×Option AO)) (j:Nat) (tm:List AV) (K:List AV->List (Nat×AO)->Prop),(∀k,k<ops.length->opsA[j+k]? =ops[k]?)->(∀k,RA[j+k]? =R[k]?)->aMk fl ops R j tm K->
  K (ll tm ((List.range' j ops.length).filterMap (upF opsA RA fl))) ((List.range' j ops.length).filterMap (obF opsA RA λj=>Nat.beq (fl j) 1))
 |[],R,j,tm,K,_,_,h=>h
 |_::_,[],_,_,_,_,_,h=>h.elim
 |o::ops,r::R,j,tm,K,ho,hR,h=>by
  have ho':∀k,k<ops.length->opsA[j+1+k]? =ops[k]? :=λk hk=>by
   have:=ho (k+1) al;rw[show j+1+k=j+(k+1)by omega];simpa using this
  have hR':∀k,RA[j+1+k]? =R[k]? :=λk=>by
   have:=hR (k+1);rw[show j+1+k=j+(k+1)by omega];simpa using this
  have hd:∀d,o.dst=some d->dAt opsA j=d:=λd hd=>by
   have:=ho 0 ah;simp only[Nat.add_zero,List.getElem?_cons_zero]at this;simp[dAt,this,hd]
  have hr:RA[j]? =some r:=by simpa using hR 0
  rw[List.length_cons,List.range'_succ];unfold aMk at h;split at h
  ·rename_i hf;have:=wG ops R (j+1) tm K ho' hR' h;rw[filterMap_cons,filterMap_cons];simpa[upF,obF,hf]using this
  ·rename_i hf;split at h
   ·exact h.elim
   ·rename_i d hdst;obtain⟨v,oo⟩:=r;have hv:vAt RA j=v:=by simp[vAt,List.getD,hr]
    have hoo:oAt RA j=oo:=by simp[oAt,List.getD,hr]
    cases oo with
    |none=>
     have h1:aMk fl ops R (j+1) (tm.set d v) K:=kp (K:=λtm=>aMk fl ops R (j+1) tm K) h;have:=wG ops R (j+1) _ K ho' hR' h1;rw[filterMap_cons,filterMap_cons];simpa[upF,obF,hf,hd d hdst,hv,hoo,ll,Nat.beq]using this
    |some x=>
     have h1:aMk fl ops R (j+1) (tm.set d v) (λtm obs=>K tm ((d,x)::obs)):=kp (K:=λtm=>aMk fl ops R (j+1) tm λtm obs=>K tm ((d,x)::obs)) h;have:=wG ops R (j+1) _ (λtm obs=>K tm ((d,x)::obs)) ho' hR' h1;rw[filterMap_cons,filterMap_cons];simpa[upF,obF,hf,hd d hdst,hv,hoo,ll,Nat.beq]using this
  ·rename_i m hf;split at h
   ·exact h.elim
   ·rename_i d hdst;have h1:=kp (K:=λtm=>aMk fl ops R (j+1) tm K) h;have:=wG ops R (j+1) _ K ho' hR' h1;rw[filterMap_cons,filterMap_cons];simpa[upF,obF,hf,hd d hdst,ll,Nat.beq]using this
def SQ{α:Type}:List α->List α->(List α->Prop)->Prop
 |[],l,K=>K l
 |x::r,l,K=>SQ r l λl'=>K (x::l')
theorem DP{α:Type}:∀{r l:List α} {K:List α->Prop},SQ r l K->K (r++l)
 |[],_,_,h=>h
 |x::r,l,K,h=>DP (r:=r) (l:=l) (K:=λl'=>K (x::l')) h
def flP(D:List (List Nat))(i j:Nat):Nat:=
 match inD D j i with
 |true=>1
 |false=>match inD D i j with
  |true=>0
  |false=>match Nat.beq j i with
   |true=>0
   |false=>2
theorem Y4(ops:List Oper)(R:List (AV×Option AO))(D:List (List Nat))(i:Nat):upF ops R (flP D i)=upP ops D R i:=by
 funext j;unfold upF upP flP;cases h1:inD D j i
 ·cases h2:inD D i j
  ·cases h3:Nat.beq j i<;>simp_all
  ·simp_all
 ·simp_all
theorem UY(D:List (List Nat))(i:Nat):(λj=>Nat.beq (flP D i j) 1)=λj=>inD D j i:=by
 funext j;unfold flP;cases h1:inD D j i
 ·cases h2:inD D i j
  ·cases h3:Nat.beq j i<;>rfl
  ·rfl
 ·rfl
def Hk(D:List (List Nat))(pre:List Oper)(R:List (AV×Option AO))(i:Nat)(st:ASt)(K:ASt->Prop):Prop:=
 match st with
 |⟨tm,ob⟩=>aMk (flP D i) pre R 0 tm λtm obs=>SQ obs ob λob=>K ⟨tm,ob⟩
def DN(pre:List Oper)(R:List (AV×Option AO))(st:ASt)(K:ASt->Prop):Prop:=
 match st with
 |⟨tm,ob⟩=>aMk (λ_=>1) pre R 0 tm λtm obs=>SQ obs ob λob=>K ⟨tm,ob⟩
theorem No{ops:List Oper}{n0:Nat}(hle:n0<=ops.length):(ops.take n0).length=n0/\∀k,k<(ops.take n0).length->ops[0+k]? =(ops.take n0)[k]? :=by
 have h:(ops.take n0).length=n0:=al;exact⟨h,λk hk=>by rw[h]at hk;simp[List.getElem?_take,hk]⟩
theorem Hl{D:List (List Nat)}{ops:List Oper}{n0:Nat}{R:List (AV×Option AO)}{i:Nat}{st:ASt}{K:ASt->Prop}(hle:n0<=ops.length)(h:Hk D (ops.take n0) R i st K):K (stP ops D R n0 st i):=by
 obtain⟨h1,h2⟩:=No hle;obtain⟨tm,ob⟩:=st;have:=wG (opsA:=ops) (RA:=R) (ops.take n0) R 0 tm _ h2 (λk=>by simp) h;rw[h1,Y4,UY]at this;have:=DP (K:=λob=>K ⟨_,ob⟩) this;rw[<-List.range_eq_range']at this;exact this
theorem DO{ops:List Oper}{n0:Nat}{R:List (AV×Option AO)}{st:ASt}{K:ASt->Prop}(hle:n0<=ops.length)(h:DN (ops.take n0) R st K):K (stS ops R n0 st λ_=>true):=by
 obtain⟨h1,h2⟩:=No hle;obtain⟨tm,ob⟩:=st;have:=wG (opsA:=ops) (RA:=R) (ops.take n0) R 0 tm _ h2 (λk=>by simp) h;rw[h1]at this;have:=DP (K:=λob=>K ⟨_,ob⟩) this;rw[<-List.range_eq_range']at this;have e:upF ops R (λ_=>1)=upS ops R λ_=>true:=by funext j;rfl
 rw[e]at this;exact this
def PG(E:bx)(D:List (List Nat))(pre:List Oper)(R:List (AV×Option AO))(st:ASt)(i:Nat)(o:Oper)(r:AV×Option AO):Prop:=
 match o.guard with
 |none=>Hk D pre R i st λP=>nH E o P λv oo=>v=r.1/\oo=r.2
 |some (g,want)=>inD D g i=true/\Nat.blt g pre.length=true/\pG R g λrg=>match rg.1 with
  | .one (.d (.pv (.bool p)))=>AB p
    (match want with
     |true=>Hk D pre R i st λP=>nH E o P λv oo=>v=r.1/\oo=r.2
     |false=>r=(.one .und,none))
    (match want with
     |true=>r=(.one .und,none)
     |false=>Hk D pre R i st λP=>nH E o P λv oo=>v=r.1/\oo=r.2)
  |_=>False
def Jq(E:bx)(D:List (List Nat))(pre:List Oper)(R:List (AV×Option AO))(st:ASt):List Oper->List (AV×Option AO)->Nat->Prop
 |[],[],_=>True
 |o::ops,r::rs,i=>PG E D pre R st i o r/\Jq E D pre R st ops rs (i+1)
 |_,_,_=>False
theorem DX{E:bx}{D:List (List Nat)}{pre:List Oper}{R:List (AV×Option AO)}{st:ASt}:∀{ops:List Oper} {rs:List (AV×Option AO)} {i:Nat},Jq E D pre R st ops rs i->∀k o,ops[k]? =some o->∃r,rs[k]? =some r/\PG E D pre R st (i+k) o r
 |[],_,_,_,k,o,h=>by simp at h
 |o'::ops,[],_,h,k,o,_=>h.elim
 |o'::ops,r::rs,i,h,k,o,ho=>by
  cases k with
  |zero=>simp at ho;subst ho;exact⟨r,rfl,h.1⟩
  |succ k=>
   obtain⟨r',h1,h2⟩:=DX h.2 k o (by simpa using ho);exact⟨r',by simpa using h1,by rwa[show i+(k+1)=i+1+k by omega]⟩
def nodupB:List Nat->Bool
 |[]=>true
 |x::r=> !r.contains x&&nodupB r
theorem Il:∀{l:List Nat},nodupB l=true->l.Nodup
 |[],_=>List.nodup_nil
 |x::r,h=>by
  simp only[nodupB,and_eq_true,Bool.not_eq_true']at h;exact nodup_cons.2 ⟨by simpa using h.1,Il h.2⟩
def JO(ops:List Oper)(D:List (List Nat))(n0:Nat):Bool:=
 Nat.ble n0 ops.length&&nodupB ((List.range n0).map (dAt ops))&&
 (List.range ops.length).all λi=>match ops[i]? with
  |some o=>((uz o).all λx=>Nat.blt x i)&&(if i<n0 then o.dst.isSome else(List.range i).all λj=>inD D j i)
  |none=>true
def TO(ops:List Oper)(n0 n:Nat):Bool:=(List.range n0).all λi=>Nat.blt (dAt ops i) n
def noB(ops:List Oper)(D:List (List Nat))(R:List (AV×Option AO))(n0:Nat)(st:ASt):Bool:=
 (List.range n0).all λi=>match oAt R i with
  |none=>true
  |some _=>(bw st.ob (dAt ops i)).isNone&&st.tm.all (yd (dAt ops i))&&(st.ob.all λp=>Ik (dAt ops i) p.2)&&
   (List.range n0).all λj=>inD D i j||Nat.beq j i||(yd (dAt ops i) (vAt R j)&&(match oAt R j with|none=>true|some o=>Ik (dAt ops i) o))
end
section
open Go.RowKit
def oq(lf:Nat->Bool):Nat->Nat
 |0=>0
 |n+1=>oq lf n+(if lf n then 0 else 1)
theorem zy{lf:Nat->Bool}{i:Nat}(hi:lf i=false):∀{n:Nat},oq (λj=>lf j||Nat.beq j i) n<=oq lf n/\(i<n->oq (λj=>lf j||Nat.beq j i) n<oq lf n)
 |0=>⟨Nat.le_refl _,λh=>absurd h (Nat.not_lt_zero _)⟩
 |n+1=>by
  obtain⟨h1,h2⟩:=zy hi (n:=n);simp only[oq];by_cases hin:n=i
  ·subst hin;have:Nat.beq n n=true:=Nat.beq_refl n;simp only[hi,this,Bool.or_true,if_true];exact⟨by simp;omega,λ_=>by simp;omega⟩
  ·have:Nat.beq n i=false:=by
    cases h:Nat.beq n i with
    |false=>rfl
    |true=>exact absurd (eq_of_beq_eq_true h) hin
   simp only[this,Bool.or_false];exact⟨ac,λh=>by have:=h2 ac;omega⟩
theorem PY{lf:Nat->Bool}{m:Nat}(h:∀j,m<=j->lf j=false):∀{n:Nat},n-m<=oq lf n
 |0=>by simp
 |n+1=>by
  have ih:=PY h (n:=n);simp only[oq];by_cases hn:m<=n
  ·rw[h n hn];simp;omega
  ·omega
theorem HM{lf:Nat->Bool}:∀{n:Nat},oq lf n=0->∀j,j<n->lf j=true
 |0,_,j,hj=>absurd hj (Nat.not_lt_zero _)
 |n+1,h,j,hj=>by
  simp only[oq]at h;by_cases hjn:j=n
  ·subst hjn;cases hl:lf j with
   |true=>rfl
   |false=>rw[hl]at h;simp at h
  ·exact HM (n:=n) ac j ac
section
variable {E:bx} {S:bZ} {ops:Array Oper} {n0:Nat} {st0:ASt} {R:List (AV×Option AO)} {K:ASt->Prop} {Q:Exit->Act->World->Prop}
theorem eq{ops:List Oper}{i:Nat}{o:Oper}(h:ops[i]? =some o):gX ops i=uz o:=by simp[gX,h]
theorem zD{α β:Type}{f g:α->Option β}:∀{l:List α},(∀j∈l,f j=g j)->l.filterMap f=l.filterMap g
 |[],_=>rfl
 |x::r,h=>by
  rw[filterMap_cons,filterMap_cons,h x ah,zD λj hj=>h j (by simp[hj])]
theorem I4{ops:List Oper}{R:List (AV×Option AO)}{n0:Nat}{st0:ASt}{l1 l2:Nat->Bool}(h:∀j,j<n0->l1 j=l2 j):stS ops R n0 st0 l1=stS ops R n0 st0 l2:=by
 have e1:(List.range n0).filterMap (upS ops R l1)=(List.range n0).filterMap (upS ops R l2):=zD λj hj=>by simp[upS,h j (mem_range.1 hj)]
 have e2:(List.range n0).filterMap (obF ops R l1)=(List.range n0).filterMap (obF ops R l2):=zD λj hj=>by simp[obF,h j (mem_range.1 hj)]
 simp only[stS,e1,e2]
structure sN (ops:List Oper) (D:List (List Nat)) (n0:Nat):Prop where
 hD:yE [] ops=D
 le:n0<=ops.length
 nd:((List.range n0).map (dAt ops)).Nodup
 edge:∀i o,ops[i]? =some o->∀x∈uz o,x<i
 dst:∀i o,i<n0->ops[i]? =some o->o.dst=some (dAt ops i)
 tail:∀i,n0<=i->i<ops.length->∀j,j<i->inD D j i=true
theorem B9{ops:List Oper}{D:List (List Nat)}{n0:Nat}(hD:yE [] ops=D)(h:JO ops D n0=true):sN ops D n0:=by
 simp only[JO,and_eq_true,all_eq_true]at h;obtain⟨⟨h1,h2⟩,h3⟩:=h;have key:∀i o,ops[i]? =some o->_:=λi o ho=>by
  have hlt:=(List.getElem?_eq_some_iff.1 ho).1;have:=h3 i (mem_range.2 hlt);rw[ho]at this;simp only[and_eq_true,all_eq_true]at this;exact this
 refine⟨hD,Nat.le_of_ble_eq_true h1,Il h2,λi o ho e he=>?_,λi o hi ho=>?_,λi hi hlt j hj=>?_⟩
 ·exact Nat.le_of_ble_eq_true ((key i o ho).1 e he)
 ·have:=(key i o ho).2;rw[if_pos hi]at this;obtain⟨d,hd⟩:=Option.isSome_iff_exists.1 this;rw[hd];simp[dAt,ho,hd]
 ·have:=(key i ops[i] (List.getElem?_eq_getElem hlt)).2;rw[if_neg ac,all_eq_true]at this;exact this j (mem_range.2 hj)
theorem mo{ops:List Oper}{D:List (List Nat)}{n0:Nat}(T:sN ops D n0){lf:Nat->Bool}(hc:∀j,lf j=true->∀e∈gX ops j,lf e=true){i:Nat}(hi:∀e∈gX ops i,lf e=true){j:Nat}(hj:inD D j i=true):lf j=true:=by
 have:=xS ops (λj=>lf j=true) hc ops [] (λk=>by simp) (λj hj=>absurd hj (Nat.not_lt_zero _)) i hi j;rw[T.hD]at this;refine this ?_;simpa[inD]using hj
def fx(listed:Array Bool)(j:Nat):Bool:=listed.getD j false
theorem qp{listed:Array Bool}{i:Nat}(hi:i<listed.size):fx (listed.setIfInBounds i true)=λj=>fx listed j||Nat.beq j i:=by
 funext j;simp only[fx,getD_eq_getD_getElem?,Array.getElem?_setIfInBounds];by_cases h:i=j
 ·subst h;simp[hi,Nat.beq_refl]
 ·have:Nat.beq j i=false:=by
   cases h':Nat.beq j i with
   |false=>rfl
   |true=>exact absurd (eq_of_beq_eq_true h').symm h
  simp[h,this]
theorem vY{D:List (List Nat)}(T:sN ops.toList D n0){listed:Array Bool}(hs:listed.size=ops.size){i:Nat}:
  i∈Region.ready .any ops listed↔i<ops.size/\fx listed i=false/\∀e∈gX ops.toList i,fx listed e=true:=by
 rw[mem_ready];constructor
 ·rintro⟨h1,o,ho,h2⟩;have hlt:=(Array.getElem?_eq_some_iff.1 ho).1;refine⟨hlt,?_,λe he=>?_⟩
  ·simp only[fx,getD_eq_getD_getElem?]at h1⊢;rw[getElem?_eq_getElem ac]at h1⊢;simpa using h1
  ·rw[eq (by simpa using ho)]at he;obtain⟨e',he',rfl⟩:=mem_map.1 he;obtain⟨hm,hb⟩:=List.mem_filter.1 he';exact h2 e' (by simpa using hm) hb
 ·rintro⟨hlt,h1,h2⟩;refine⟨?_,ops[i],getElem?_eq_getElem hlt,λe he hb=>?_⟩
  ·simp only[fx,getD_eq_getD_getElem?]at h1⊢;rw[getElem?_eq_getElem ac]at h1⊢;simpa using h1
  ·refine h2 _ ?_;rw[eq (o:=ops[i]) (by simp[hlt])];exact mem_map.2 ⟨e,List.mem_filter.2 ⟨by simpa using he,hb⟩,rfl⟩
theorem Rg(he:E.Ok){D:List (List Nat)}(T:sN ops.toList D n0)(hQ:∀a w,(∃st',f8 E.W S st' a w/\K st')->Q .normal a w):
  ∀(fuel m:Nat) (listed:Array Bool) (st:ASt) (a:Act) (w:World),listed.size=ops.size->n0<=m->(∀j,j<ops.size->fx listed j=decide (j<m))->ops.size-m<=fuel->f8 E.W S st a w->Bj E S ops.toList (ops.toList.drop m) st K->wpAny E.P .any ops Q fuel listed a w:=by
 intro fuel;induction fuel with
 |zero=>
  intro m listed st a w hs hm hl hf h hk;rw[List.drop_eq_nil_of_le al]at hk;refine⟨?_,hQ a w ⟨st,h,hk⟩⟩;rw[List.eq_nil_iff_forall_not_mem];intro i hi;obtain⟨h1,h2,_⟩:=(vY T hs).1 hi;rw[hl i h1]at h2;simp at h2;omega
 |succ fuel ih=>
  intro m listed st a w hs hm hl hf h hk;have hready:∀i,i∈Region.ready .any ops listed↔i=m/\m<ops.size:=by
   intro i;rw[vY T hs];constructor
   ·rintro⟨h1,h2,h3⟩;rw[hl i h1]at h2;simp at h2;have hc:∀j,fx listed j=true->∀e∈gX ops.toList j,fx listed e=true:=by
     intro j hj e hej;by_cases hjs:j<ops.size
     ·rw[hl j hjs]at hj;rw[eq (o:=ops[j]) (by simp[hjs])]at hej;have:=T.edge j ops[j] (by simp[hjs]) _ hej;rw[hl _ ac];simp at hj⊢;omega
     ·simp[fx,getD_eq_getD_getElem?,Array.getElem?_eq_none (show listed.size<=j by omega)]at hj
    refine⟨?_,ac⟩;apply Nat.le_antisymm _ h2;apply le_of_not_lt;intro hlt;have:=mo T hc h3 (T.tail i ac (by simpa using h1) m hlt);rw[hl m ac]at this;simp at this
   ·rintro⟨rfl,h1⟩;refine⟨h1,by rw[hl i h1];simp,λe hej=>?_⟩;rw[eq (o:=ops[i]) (by simp[h1])]at hej;have:=T.edge i ops[i] (by simp[h1]) _ hej;rw[hl _ ac];simpa using this
  refine⟨λhnil=>?_,λi hi=>?_⟩
  ·have:ops.size<=m:=by
    apply le_of_not_lt;intro hlt;have:=(hready m).2 ⟨rfl,hlt⟩;rw[hnil]at this;cases this
   rw[List.drop_eq_nil_of_le (by simpa using this)]at hk;exact hQ a w ⟨st,h,hk⟩
  ·obtain⟨rfl,hlt⟩:=(hready i).1 hi;rw[List.drop_eq_getElem_cons (by simpa using hlt)]at hk;unfold wpOp;rw[getElem?_eq_getElem hlt];have next:∀st' a' w',f8 E.W S st' a' w'->Bj E S ops.toList (ops.toList.drop (i+1)) st' K->wpAny E.P .any ops Q fuel (listed.setIfInBounds i true) a' w':=by
    intro st' a' w' h' hk';refine ih (i+1) _ st' a' w' (by simpa using hs) ac (λj hj=>?_) ac h' hk';rw[qp ac];simp only[];rw[hl j hj];by_cases hji:j=i
    ·subst hji;simp[Nat.beq_refl]
    ·have:Nat.beq j i=false:=by
      cases h':Nat.beq j i with
      |false=>rfl
      |true=>exact absurd (eq_of_beq_eq_true h') hji
     simp[this];omega
   obtain⟨Z,ρ,h⟩:=h;simp only[Array.getElem_toList]at hk;rcases iT h hk with⟨hw,st',hs',hk⟩|⟨hw,st',hs',hk⟩
   ·simp only[toArray_toList]at hw;simp only[hw,if_true];refine .inl (Oper.wp_mono (λa' w' h'=>?_) (pP he hs' hk Q));obtain⟨st2,h2,hk2⟩:=h';exact next st2 a' w' h2 hk2
   ·simp only[toArray_toList]at hw;simp only[hw,Bool.false_eq_true,if_false];have:=hs'.put ops[i].dst (x:= .one .und) (v:=undef) (.one _ _ (show fp Z w ρ .und undef from rfl));exact next _ _ w ⟨Z,ρ,this⟩ (fG hk)
theorem HR(he:E.Ok){D:List (List Nat)}(T:sN ops.toList D n0)(F:Jf E S ops.toList D R n0 st0)(hQ:∀a w,(∃st',f8 E.W S st' a w/\K st')->Q .normal a w)
  (ht:DN (ops.toList.take n0) R st0 λst=>Bj E S ops.toList (ops.toList.drop n0) st K):
  ∀(fuel:Nat) (listed:Array Bool) (a:Act) (w:World),listed.size=ops.size->(∀j,n0<=j->fx listed j=false)->(∀j,fx listed j=true->∀e∈gX ops.toList j,fx listed e=true)->oq (fx listed) ops.size<=fuel->
   f8 E.W S (stS ops.toList R n0 st0 (fx listed)) a w->wpAny E.P .any ops Q fuel listed a w:=by
 intro fuel;have hle:n0<=ops.toList.length:=T.le;have hle':n0<=ops.size:=by simpa using hle
 induction fuel with
 |zero=>
  intro listed a w hs htl hc hf h;have hall:=HM (Nat.le_zero.1 hf);have hn0:ops.size<=n0:=by
   apply le_of_not_lt;intro hlt;have h1:=hall n0 hlt;rw[htl n0 (Nat.le_refl _)]at h1;cases h1
  refine⟨?_,hQ a w ⟨_,h,?_⟩⟩
  ·rw[List.eq_nil_iff_forall_not_mem];intro i hi;obtain⟨h1,h2,_⟩:=(vY T hs).1 hi;rw[hall i h1]at h2;cases h2
  ·have:=DO hle ht;rw[List.drop_eq_nil_of_le (by simpa using hn0)]at this;have e:stS ops.toList R n0 st0 (fx listed)=stS ops.toList R n0 st0 λ_=>true:=I4 λj hj=>by rw[hall j ac]
   rw[e];exact this
 |succ fuel ih=>
  intro listed a w hs htl hc hf h;by_cases hall:∀j,j<n0->fx listed j=true
  ·have e:stS ops.toList R n0 st0 (fx listed)=stS ops.toList R n0 st0 λ_=>true:=I4 λj hj=>by rw[hall j hj]
   rw[e]at h;have h2:=PY htl (n:=ops.size);refine Rg he T hQ (fuel+1) n0 listed _ a w hs (Nat.le_refl _) (λj hj=>?_) ac h (DO hle ht);by_cases hj0:j<n0
   ·rw[hall j hj0];simp[hj0]
   ·rw[htl j ac];simp[hj0]
  ·refine⟨λhnil=>?_,λi hi=>?_⟩
   ·exfalso;apply hall;intro j;induction j using Nat.strongRecOn with
    |ind j ihj=>
     intro hj;cases hlj:fx listed j with
     |true=>rfl
     |false=>
      have:j∈Region.ready .any ops listed:=(vY T hs).2 ⟨ac,hlj,λe hej=>by
       have hjs:j<ops.size:=ac;rw[eq (o:=ops[j]) (by simp[hjs])]at hej;have:=T.edge j ops[j] (by simp[hjs]) _ hej;exact ihj _ this ac⟩
      rw[hnil]at this;cases this
   ·obtain⟨hlt,hli,haf⟩:=(vY T hs).1 hi;have hi0:i<n0:=by
     apply Nat.lt_of_not_le;intro hge;apply hall;intro j hj;exact mo T hc haf (T.tail i hge (by simpa using hlt) j ac)
    have hDl:∀j,inD D j i=true->fx listed j=true:=λj hj=>mo T hc haf hj;have hAl:∀j,j<n0->inD D i j=true->fx listed j=false:=λj _ hj=>by
     cases hlj:fx listed j with
     |false=>rfl
     |true=>
      have:=mo T hc (hc j hlj) hj;rw[hli]at this;cases this
    have hget:ops.toList[i]? =some ops[i]:=by simp[hlt]
    have hlen:=hs;have step:=Rf (Kont:=wpAny E.P .any ops Q fuel (listed.setIfInBounds i true)) (Q:=Q) F hi0 hget hli hDl hAl h λa' w' h'=>by
     have e:=qp (listed:=listed) (i:=i) ac;refine ih _ a' w' (by simpa using hs) (λj hj=>?_) (λj hj e' hej=>?_) ?_ ?_
     ·rw[e];simp only[htl j hj,Bool.false_or];cases hb:Nat.beq j i with
      |false=>rfl
      |true=>have:=eq_of_beq_eq_true hb;omega
     ·rw[e]at hj⊢;simp only[or_eq_true]at hj⊢;rcases hj with hj|hj
      ·exact .inl (hc j hj e' hej)
      ·rw[eq_of_beq_eq_true hj]at hej;exact .inl (haf e' hej)
     ·rw[e];have:=(zy hli (n:=ops.size)).2 hlt;omega
     ·rw[e];exact h'
    simp only[toArray_toList]at step;unfold wpOp;rw[getElem?_eq_getElem hlt];simp only;split
    ·rename_i hw;exact .inl (step.1 hw)
    ·rename_i hw;exact step.2 (by simpa using hw)
theorem PU{D:List (List Nat)}{ops:List Oper}(T:sN ops D n0)(hl:TO ops n0 st0.tm.length=true)(hno:noB ops D R n0 st0=true):DBase ops D R n0 st0:=by
 simp only[TO,all_eq_true]at hl;simp only[noB,all_eq_true]at hno;have hno':∀i,i<n0->∀o,oAt R i=some o->_:=λi hi o ho=>by
  have:=hno i (mem_range.2 hi);rw[ho]at this;simp only[and_eq_true,all_eq_true]at this;exact this
 refine⟨T.le,T.nd,T.dst,λj hj=>Nat.le_of_ble_eq_true (hl j (mem_range.2 hj)),λj hj hne=>?_,λi hi hne=>?_,λi j hi hj hne hd hji=>?_⟩
 ·obtain⟨o,ho⟩:=Option.ne_none_iff_exists'.1 hne;have:=(hno' j hj o ho).1.1.1;simpa using this
 ·obtain⟨o,ho⟩:=Option.ne_none_iff_exists'.1 hne;have:=hno' i hi o ho;exact⟨this.1.1.2,this.1.2⟩
 ·obtain⟨o,ho⟩:=Option.ne_none_iff_exists'.1 hne;have:=(hno' i hi o ho).2 j (mem_range.2 hj);simp only[hd,Bool.false_or,or_eq_true,and_eq_true]at this;rcases this with this|⟨h1,h2⟩
  ·exact absurd (eq_of_beq_eq_true this) hji
  ·refine⟨h1,λo' ho'=>?_⟩;rw[ho']at h2;exact h2
theorem WN(he:E.Ok){D:List (List Nat)}{ops:List Oper}(T:sN ops D n0){i:Nat}{o:Oper}(hi:i<n0){r:AV×Option AO}(hr:R[i]? =some r)(hfact:PG E D (ops.take n0) R st0 i o r):qJ E S D R n0 (stP ops D R n0 st0 i) i o:=by
 have hv:vAt R i=r.1:=by simp[vAt,List.getD,hr]
 have hoo:oAt R i=r.2:=by simp[oAt,List.getD,hr]
 have free:(Hk D (ops.take n0) R i st0 λP=>nH E o P λv oo=>v=r.1/\oo=r.2)->qK E S o (stP ops D R n0 st0 i) (vAt R i) (oAt R i):=λh=>by
  rw[hv,hoo];exact EM he (Hl T.le h)
 unfold qJ;unfold PG at hfact;cases hg:o.guard with
 |none=>
  rw[hg]at hfact;exact free hfact
 |some gw=>
  obtain⟨g,want⟩:=gw;rw[hg]at hfact;obtain⟨h1,h2,h3⟩:=hfact;obtain⟨rg,hrg,h3⟩:=gh h3;have hgn:g<n0:=by
   have h4:g<(ops.take n0).length:=Nat.le_of_ble_eq_true h2;simp at h4;omega
  refine⟨hgn,h1,?_⟩;have hvg:vAt R g=rg.1:=by simp[vAt,List.getD,hrg]
  split at h3
  ·rename_i p hp;refine .inl ⟨p,by rw[hvg,hp],?_⟩;cases p with
   |true=>
    have h:=h3.t rfl;cases want with
    |true=>exact .inl ⟨rfl,free h⟩
    |false=>exact .inr ⟨by simp,by rw[hv,show r=(.one .und,none)from h],by rw[hoo,show r=(.one .und,none)from h]⟩
   |false=>
    have h:=h3.f rfl;cases want with
    |false=>exact .inl ⟨rfl,free h⟩
    |true=>exact .inr ⟨by simp,by rw[hv,show r=(.one .und,none)from h],by rw[hoo,show r=(.one .und,none)from h]⟩
  ·exact h3.elim
theorem Tl(he:E.Ok){D:List (List Nat)}{ops:List Oper}(T:sN ops D n0)(hl:TO ops n0 st0.tm.length=true)(hf:Jq E D (ops.take n0) R st0 (ops.take n0) R 0)(hno:noB ops D R n0 st0=true):Jf E S ops D R n0 st0:=by
 refine⟨PU T hl hno,λi o hi ho=>?_⟩;have ho':(ops.take n0)[i]? =some o:=by simp[List.getElem?_take,hi,ho]
 obtain⟨r,hr,hfact⟩:=DX hf i o ho';rw[Nat.zero_add]at hfact;exact WN he T hi hr hfact
theorem abu(he:E.Ok){K:Exit->ASt->Prop}{id:Nat}{st:ASt}(n0:Nat)(D:List (List Nat))(R:List (AV×Option AO))(hD:yE [] ops.toList=D)(hok:JO ops.toList D n0=true)(hl:TO ops.toList n0 st.tm.length=true)
  (hf:Jq E D (ops.toList.take n0) R st (ops.toList.take n0) R 0) (hno:noB ops.toList D R n0 st=true)
  (ht:DN (ops.toList.take n0) R st λst=>Bj E S ops.toList (ops.toList.drop n0) st (K .normal)):AWP E S (.region id ops true) K st:=by
 have T:=B9 hD hok;refine⟨λa w hs=>wp_region_any he.mixed ?_⟩;have hg:w.grownBy {w with drawn:=w.drawn+1} none:=⟨rfl,rfl,rfl,Nat.le_refl _,λb hb _=>rfl⟩;refine HR (Q:=λe a' w'=>∃st',f8 E.W S st' a' w'/\K e st') he T (Tl he T hl hf hno) (λa w h=>h) ht ops.size (Array.replicate ops.size false) a _ ah (λj _=>?_) (λj hj=>?_) ?_ ?_
 ·simp[fx,getD_eq_getD_getElem?,Array.getElem?_replicate];split<;>rfl
 ·exfalso;simp[fx,getD_eq_getD_getElem?,Array.getElem?_replicate]at hj;split at hj<;>simp at hj
 ·have:∀(lf:Nat->Bool) n,oq lf n<=n:=λlf n=>by
   induction n with
   |zero=>exact Nat.le_refl _
   |succ n ih=>simp only[oq];split<;>omega
  exact this _ _
 ·obtain⟨Z,ρ,hs⟩:=hs;have e:stS ops.toList R n0 st (fx (Array.replicate ops.size false))=st:=by
   have e1:∀j,fx (Array.replicate ops.size false) j=false:=λj=>by
    simp[fx,getD_eq_getD_getElem?,Array.getElem?_replicate];split<;>rfl
   have e2:(List.range n0).filterMap (upS ops.toList R (fx (Array.replicate ops.size false)))=[]:=by
    rw[List.filterMap_eq_nil_iff];intro j _;simp[upS,e1]
   have e3:(List.range n0).filterMap (obF ops.toList R (fx (Array.replicate ops.size false)))=[]:=by
    rw[List.filterMap_eq_nil_iff];intro j _;simp[obF,e1]
   simp[stS,e2,e3,ll]
  rw[e];exact⟨Z,ρ,hs.grow hg (λ_ h=>h) λ_ h=> .inl h⟩
end
def Ws(E:bx)(S:bZ)(c:Code)(K:Exit->ASt->Prop):Nat->ASt->Prop
 |0,_=>False
 | n + 1, st => AWP E S c (fun e st' => match e with
  | .normal=>Ws E S c K n st'
  |e=>K e st') st
theorem aaZ{E:bx}{S:bZ}{c:Code}{K:Exit->ASt->Prop}{st:ASt}(n:Nat)(h:Ws E S c K n st):AWP E S (.loop c) K st:=by
 refine⟨λa w hs=>wp_loop_rounds n ?_⟩;have key:∀n st a w,Ws E S c K n st->f8 E.W S st a w->Code.rounds E.P c (λe a' w'=>∃st',f8 E.W S st' a' w'/\K e st') n a w:=by
  intro n;induction n with
  |zero=>intro st a w h _;exact h.elim
  |succ n ih=>
   intro st a w h hs;refine wp_mono ((show AWP E S c _ st from h).run a w hs) λe a' w' h'=>?_;obtain⟨st',hs',hk⟩:=h';cases e with
   |normal=>exact ih st' a' w' hk hs'
   |_=>exact⟨st',hs',hk⟩
 exact key n st a w h hs
end
end Go.Proofs.YthgkdhnlehneeaaGreatDoor
