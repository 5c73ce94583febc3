/- AvFQ -/
import Derived.Test.YthgkdhnlehneeaaGreatDoorAvDT
import Derived.Lib.ItoaNum
import Derived.Lib.IndexMore
import Derived.Lib.ParseIntB
import Derived.Test.YthgkdhnlehneeaaGreatDoorAvFO
import Derived.Test.YthgkdhnlehneeaaGreatDoorTypes
import Derived.Test.YthgkdhnlehneeaaGreatDoorRows
import Derived.WalkKit
import Derived.ProofKit
import Derived.OpenShut
import Derived.Below
import Derived.ChangeSame
import Derived.Carry
import Derived.Test.YthgkdhnlehneeaaGreatDoorAwx
import Derived.Test.YthgkdhnlehneeaaGreatDoorAvFC
import Derived.Test.YthgkdhnlehneeaaGreatDoorKC
import Derived.Deep.Slices
import Derived.ChangeArms
set_option maxHeartbeats 8000000
set_option linter.unusedVariables false
set_option linter.unusedSimpArgs false
set_option maxRecDepth 100000
open Bool (and_eq_true or_eq_true)
namespace Go.Proofs.YthgkdhnlehneeaaGreatDoor
open Go.RowKit
theorem aI.freeze{E:bx}{S:bZ}{f:FuncId}{args:List AV}{tm:List AV}{ob:List (Nat×AO)}{K:AV->ASt->Prop}(id:Nat)(e:TypeId)(s:Nat)(xs:List (List AD))(ho:aOb ob id λo=>o= .row e s xs)
  (h:BU id xs tm λtm=>BU id xs args λargs=>it id xs ob λob=>aI E S f args ⟨tm,ob⟩ K):aI E S f args ⟨tm,ob⟩ K:=by
 obtain⟨o,hob,rfl⟩:=da ho;have h1:=ne (K:=λtm=>BU id xs args λargs=>it id xs ob λob=>aI E S f args ⟨tm,ob⟩ K) h;have h2:=ne (K:=λargs=>it id xs ob λob=>aI E S f args ⟨_,ob⟩ K) h1;have h3:=f9 (K:=λob=>aI E S f _ ⟨_,ob⟩ K) h2;refine⟨h3.enter,λZ ρ a w us hs hl hr=>?_⟩;have hrel:cZ Z w ρ id (.row e s xs):=hs.ws.obj id _ hob;refine h3.run (DM Z ρ id) ρ a w us ⟨hs.ws.freeze hob,by simp[hs.len],λi x v hx hv=>?_,hs.df⟩ (by simp[hl]) λi x u hx hu=>?_
 ·simp only[List.getElem?_map]at hx;obtain⟨x0,h0,rfl⟩:=Option.map_eq_some_iff.1 hx;exact vu hrel (hs.tm i x0 v h0 hv)
 ·simp only[List.getElem?_map]at hx;obtain⟨x0,h0,rfl⟩:=Option.map_eq_some_iff.1 hx;exact vu hrel (hr i x0 u h0 hu)
def dv(c:UInt8):List UInt8->List (List UInt8)
 |[]=>[[]]
 |x::r=>if x=c then []::dv c r else(x::(dv c r).headD [])::(dv c r).tail
def jy(c:UInt8):List (List UInt8)->List UInt8
 |[]=>[]
 |[w]=>w
 |w::v::ws=>w++c::jy c (v::ws)
theorem SJ(c:UInt8):∀s,dv c s≠ []
 |[]=>by simp[dv]
 |x::r=>by unfold dv;split<;>simp
theorem na{c:UInt8}{s:List UInt8}:∃w ws,dv c s=w::ws:=by
 cases h:dv c s with
 |nil=>exact absurd h (SJ c s)
 |cons w ws=>exact⟨w,ws,rfl⟩
theorem Fa(c:UInt8):∀s,jy c (dv c s)=s
 |[]=>rfl
 |x::r=>by
  obtain⟨w,ws,e⟩:=na (c:=c) (s:=r);have ih:=Fa c r;rw[e]at ih;unfold dv;split
  ·rename_i h;rw[e,jy,ih,h];rfl
  ·rw[e];simp only[List.headD_cons,List.tail_cons];cases ws with
   |nil=>simp only[jy]at ih⊢;rw[ih]
   |cons v ws=>simp only[jy,List.cons_append]at ih⊢;rw[ih]
theorem Nt{c:UInt8}:∀{s:List UInt8},∀w∈dv c s,c∉w
 |[],w,h=>by simp[dv]at h;subst h;simp
 |x::r,w,h=>by
  obtain⟨v,ws,e⟩:=na (c:=c) (s:=r);have ih:=Nt (c:=c) (s:=r);unfold dv at h;rw[e]at ih h;split at h
  ·rcases List.mem_cons.1 h with rfl|h
   ·simp
   ·exact ih w h
  ·rename_i hx;simp only[List.headD_cons,List.tail_cons]at h;rcases List.mem_cons.1 h with rfl|h
   ·intro hm;rcases List.mem_cons.1 hm with hm|hm
    ·exact hx hm.symm
    ·exact ih v (by simp) hm
   ·exact ih w (by simp[h])
theorem nB{c:UInt8}:∀{w r:List UInt8},c∉w->dv c (w++c::r)=w::dv c r
 |[],r,_=>by simp[dv]
 |x::w,r,h=>by
  have hx:¬x=c:=λe=>h (by simp[e]);have hw:c∉w:=λe=>h (by simp[e]);rw[List.cons_append,dv,if_neg hx,nB hw];rfl
theorem xp{c:UInt8}:∀{w:List UInt8},c∉w->dv c w=[w]
 |[],_=>rfl
 |x::w,h=>by
  have hx:¬x=c:=λe=>h (by simp[e]);have hw:c∉w:=λe=>h (by simp[e]);rw[dv,if_neg hx,xp hw];rfl
theorem GE{c:UInt8}:∀{ws:List (List UInt8)},ws≠ []->(∀w∈ws,c∉w)->dv c (jy c ws)=ws
 |[],h,_=>absurd rfl h
 |[w],_,h=>xp (h w (by simp))
 |w::v::ws,_,h=>by
  rw[jy,nB (h w (by simp)),GE (by simp) λx hx=>h x (by simp[hx])]
theorem Bq(c x:UInt8)(r:List UInt8):[c].isPrefixOf (x::r)=decide (x=c):=by
 simp only[List.isPrefixOf,Bool.and_true];by_cases h:x=c
 ·subst h;simp
 ·have:¬c=x:=λe=>h e.symm;simp[h,this]
theorem E3{c:UInt8}:∀{w:List UInt8},c∉w->Lib.index w [c]= -1
 |[],_=>rfl
 |x::w,h=>by
  have hx:¬x=c:=λe=>h (by simp[e]);have hw:c∉w:=λe=>h (by simp[e]);rw[Lib.index,Bq];simp[hx,E3 hw]
theorem H6{c:UInt8}:∀{w r:List UInt8},c∉w->Lib.index (w++c::r) [c]=w.length
 |[],r,_=>by rw[List.nil_append,Lib.index,Bq];simp
 |x::w,r,h=>by
  have hx:¬x=c:=λe=>h (by simp[e]);have hw:c∉w:=λe=>h (by simp[e]);have ih:=H6 (r:=r) hw;rw[List.cons_append,Lib.index,Bq,ih];have:¬((w.length:Int)== -1)=true:=by simp<;>omega
  simp[hx,this]<;>omega
def sQ(b:UInt8):Bool:=decide (48<=b)&&decide (b<=57)
def vR(w:List UInt8):Nat:=w.foldl (λn b=>10*n+(b.toNat-48)) 0
def xB(w:List UInt8)(most:Nat):Bool:=decide (1<=w.length)&&decide (w.length<=most)&&(decide (w.length<=1)||decide (w.head?≠some 48))&&w.all sQ
theorem kE{b:UInt8}:sQ b=true↔48<=b.toNat/\b.toNat<=57:=by
 simp[sQ,UInt8.le_iff_toNat_le]
theorem Im(w:List UInt8)(b:UInt8):vR (w++[b])=10*vR w+(b.toNat-48):=by simp[vR]
theorem Uq{α:Type}{P:List α->Prop}(h0:P [])(h1:∀w b,P w->P (w++[b]))(w:List α):P w:=by
 have:∀n,∀w:List α,w.length=n->P w:=by
  intro n;induction n with
  |zero=>intro w h;rw[List.eq_nil_of_length_eq_zero h];exact h0
  |succ n ih=>
   intro w h;have hne:w≠ []:=by rintro rfl;simp at h
   rw[<-List.dropLast_concat_getLast hne];exact h1 _ _ (ih _ (by simp[h]))
 exact this _ w rfl
theorem Qu:∀(w:List UInt8),w.all sQ=true->vR w<10^w.length:=
 Uq (λ_=>by decide) λw b ih h=>by
  rw[List.all_append,Bool.and_eq_true]at h;have h1:=ih h.1;have h2:=kE.1 (by simpa using h.2);rw[Im,List.length_append,List.length_singleton,Nat.pow_succ];omega
theorem pR{d:Nat}(h:d<10):(UInt8.ofNat (48+d)).toNat=48+d:=by
 rw[UInt8.toNat_ofNat'];omega
theorem Da:∀u:Nat,(Lib.decDigits u).all sQ=true/\vR (Lib.decDigits u)=u/\Lib.decDigits u≠ []/\((Lib.decDigits u).length<=1\/(Lib.decDigits u).head?≠some 48)/\(1<=u->(Lib.decDigits u).head?≠some 48):=by
 intro u;induction u using Nat.strongRecOn with
 |_ u ih=>
  by_cases h:u<10
  ·rw[Lib.decDigits,dif_pos h];refine⟨?_,?_,by simp,.inl (by simp),λh1=>?_⟩
   ·simp only[List.all_cons,List.all_nil,Bool.and_true];rw[kE,pR h];omega
   ·simp only[vR,List.foldl_cons,List.foldl_nil,pR h];omega
   ·simp only[List.head?_cons];intro e;injection e with e
    have:=congrArg UInt8.toNat e;rw[pR h]at this;simp at this;omega
  ·obtain⟨h1,h2,h3,h4,h5⟩:=ih (u/10) (by omega);have hd:u % 10<10:=by omega
   have hh:(Lib.decDigits (u/10)).head?≠some 48:=h5 (by omega);have hh2:(Lib.decDigits (u/10)++[UInt8.ofNat (48+u % 10)]).head?≠some 48:=by
    cases e:Lib.decDigits (u/10)with
    |nil=>exact absurd e h3
    |cons x r=>rw[e]at hh;simpa using hh
   rw[Lib.decDigits,dif_neg h];refine⟨?_,?_,by simp,.inr hh2,λ_=>hh2⟩
   ·rw[List.all_append,h1];simp only[List.all_cons,List.all_nil,Bool.and_true,Bool.true_and];rw[kE,pR hd];omega
   ·rw[Im,h2,pR hd];omega
theorem GG{k:Nat}:∀{u:Nat},1<=k->u<10^k->(Lib.decDigits u).length<=k:=by
 induction k with
 |zero=>intro u h;omega
 |succ k ih=>
  intro u _ h;rw[Lib.decDigits];split
  ·simp
  ·rename_i h10;rw[List.length_append,List.length_singleton];rcases Nat.eq_zero_or_pos k with hk|hk
   ·subst hk;simp at h;omega
   ·have:=ih (u:=u/10) hk (by rw[Nat.pow_succ]at h;omega);omega
theorem iW{w:List UInt8}{m:Nat}:xB w m=true↔w≠ []/\w.length<=m/\(w.length<=1\/w.head?≠some 48)/\w.all sQ=true:=by
 simp only[xB,Bool.and_eq_true,Bool.or_eq_true,decide_eq_true_eq,<-List.length_pos_iff];constructor
 ·rintro⟨⟨⟨a,b⟩,c⟩,d⟩;exact⟨a,b,c,d⟩
 ·rintro⟨a,b,c,d⟩;exact⟨⟨⟨a,b⟩,c⟩,d⟩
theorem Ow{w:List UInt8}{k:Nat}(h:xB w k=true):vR w<10^k:=by
 obtain⟨_,h2,_,h4⟩:=iW.1 h;exact Nat.lt_of_lt_of_le (Qu w h4) (Nat.pow_le_pow_right (by omega) h2)
theorem FA(M:Nat):∀(w:List UInt8) (acc:Nat),w.all sQ=true->(acc+1)*10^w.length<=1000000000000->1000000000000<=M->Lib.parseUintM M acc w= .ok (w.foldl (λn b=>10*n+(b.toNat-48)) acc)
 |[],acc,_,_,_=>rfl
 |b::r,acc,h,hb,hM=>by
  rw[List.all_cons,Bool.and_eq_true]at h;have hd:=kE.1 h.1;have hp:1<=10^r.length:=Nat.one_le_pow _ _ (by omega);have hb':(acc+1)*10*10^r.length<=1000000000000:=by
   rw[List.length_cons,Nat.pow_succ,Nat.mul_comm (10^r.length) 10,<-Nat.mul_assoc]at hb;exact hb
  have h1:(acc+1)*10<=1000000000000:=Nat.le_trans (Nat.le_mul_of_pos_right _ hp) hb';have h2:(acc*10+(b.toNat-48)+1)*10^r.length<=1000000000000:=Nat.le_trans (Nat.mul_le_mul_right _ (by omega)) hb';rw[Lib.parseUintM,if_pos hd,if_neg (by omega),if_neg (by omega),FA M r _ h.2 h2 hM,List.foldl_cons,Nat.mul_comm acc 10]
theorem Ke{w:List UInt8}(h:xB w 10=true):Lib.parseIntB 64 w= .ok (vR w:Int):=by
 obtain⟨h1,h2,_,h4⟩:=iW.1 h;have hlt:=Ow h;cases w with
 |nil=>exact absurd rfl h1
 |cons c r=>
  have hc:sQ c=true:=by rw[List.all_cons,Bool.and_eq_true]at h4;exact h4.1
  have hd:=kE.1 hc;have hp:Lib.parseUintB 64 (c::r)= .ok (vR (c::r)):=by
   unfold Lib.parseUintB;rw[if_neg (by simp)];refine FA _ _ 0 h4 ?_ (by decide);have:10^(c::r).length<=10^10:=Nat.pow_le_pow_right (by omega) h2;omega
  unfold Lib.parseIntB;simp only;rw[if_neg (by omega),hp];simp only;have h45:¬c.toNat=45:=by omega
  have h63:¬(2^(64-1)<=vR (c::r)):=by omega
  simp[h45];omega
def AP1.aa:AP1->AA
 | .one d=> .one (.d d)
 | .agg ds=> .agg (ds.map .d)
theorem ab9(p:AP1):p.aa.v=p.v:=by cases p<;>rfl
def Xn(ob:List (Nat×AO))(r:AR)(K:AP->Prop):Prop:=
 match r with
 | .val a=>B2 ob a.v λp=>K (.val p)
 | .tup l=>aRs ob (l.map AA.v) λps=>K (.tup ps)
theorem dd.data{E:bx}{f:FuncId}{args:List AA}{post:List (Nat×AO)}{r:AR}{ps:List AP1}{res:AP}(hc:dd E f args [] post [] r)(ha:args=ps.map AP1.aa)(hres:Xn post r (· =res)):aN E f ps res:=by
 subst ha;refine⟨hc.enter,λZ w us hz hg hl hr=>?_⟩;have hw0:WS E.W (gV w Z (λ_=>undef) []) Z w (λ_=>undef) []:=
  ⟨rfl,rfl,rfl,Nat.le_refl _,λ_ _ _=>rfl,hz,λ_ _ _ h=>(by cases h),λ_ _ _ _ _ h=>(by cases h),λ_ _ h=>(by cases h),kj.nil,hg,λ_ h=>h,λ_ h=> .inl h⟩
 refine(hc.run Z w (λ_=>undef) us hw0 (by simpa using hl) λi x u hx hu=>?_).mono ?_
 ·rw[List.getElem?_map]at hx;obtain⟨p,hp,rfl⟩:=Option.map_eq_some_iff.1 hx;rw[ab9];exact(hr i p u hp hu).v
 ·rintro e w' ⟨v,Z',ρ',rfl,hw,_,hv⟩;have hO:∀b,¬(gV w Z (λ_=>undef) []).O b:=by
   rintro b ⟨id,o,h,_⟩;cases h
  refine⟨v,kL Z' ρ' post,rfl,⟨hw.os,hw.tape,hw.output,hw.size,λb hb=>hw.old b hb (hO b)⟩,λb hb=> .inl (hw.z0 b hb),λb hb=>?_,?_⟩
  ·have hlt:=kL.lt hw b hb;rcases hb with hb|⟨id,o,ho,hb⟩
   ·rcases hw.znew b hb with h|h|h
    ·exact .inl h
    ·exact .inr ⟨h,hlt⟩
    ·exact(hO b h).elim
   ·rcases(hw.mine id o b ho hb).2 with h|h
    ·exact .inr ⟨h,hlt⟩
    ·exact(hO b h).elim
  ·cases r with
   |val a=>
    obtain⟨p,hp,hk⟩:=wH (K:=λp=>AP.val p=res) hw hv hres;subst hk;exact hp
   |tup l=>
    cases hv with
    |tup _ us' hl' h'=>
     obtain⟨ps',h1,h2,hk⟩:=kO (E:=E) (S:=gV w Z (λ_=>undef) []) (st:=⟨[],post⟩) (K:=λps=>AP.tup ps=res) hw hl' h' hres;subst hk;exact⟨us',rfl,h1,h2⟩
section
open Go.ChangeShapes Go.WideShapes
section
variable {α:Type} {P:Program}
end
def PE{α:Type}(R:Rep α)(t:TypeId)(l:List α)(w:World)(e:Ending)(w':World):Prop:=
 ∃A cap,e= .returned (.slice A l.length cap)/\xq R t w.heap.size w' (.slice A l.length cap) l.length l/\Below w.heap.size w w'
theorem PE.sl{α:Type}{R:Rep α}{t:TypeId}{l:List α}{w:World}{e:Ending}{w':World}(h:PE R t l w e w'):VS R l w e w':=by
 obtain⟨A,cap,rfl,hg,hb⟩:=h;exact xq.out hg hb
end
open Go.ChangeShapes Go.WideShapes
section
section
variable {H:Type} {enc:TypeId×Value->H} {P:Program}
theorem GQ{f:Func}{s:ChangeSpec}{apart fresh handsOn again:Bool}{W W':World}{args:Array Value}{v:Value}{ds gs:List (DataW H)}{before pa pv:List MemPlace}
  (hW:DataW.Whole enc P f.params.toList s.vars apart W args.toList ds gs before)
  (hres:∀(b:Nat) (sp:Nat->Bool) (hd:Bool),DataW.TrodAll enc P W' b sp hd f.resultTypes.toList (v.resultList f.resultTypes.size) (s.fn H (ds++gs)).results [])
  (hargs:∀sp:Nat->Bool,(∀p∈before,sp p.block=true)->DataW.TrodAll enc P W' 0 sp true f.params.toList args.toList (s.fn H (ds++gs)).args pa)
  (hvars:∀sp:Nat->Bool,(∀p∈before,sp p.block=true)->DataW.TrodVars enc P W' sp s.vars (s.fn H (ds++gs)).vars pv)
  (hps:before=pa++pv) (hb:Below W.heap.size W W')
  (hok:∀(j:Nat) (t:TypeId) (r:Value),f.resultTypes[j]? =some t->(v.resultList f.resultTypes.size)[j]? =some r->Value.okWide P W' .any 0 t r):
  s.post enc P f apart fresh handsOn again W args v W':=by
 have hlt:∀p∈before,p.block<W.heap.size:=λp hp=>hW.lt p hp;have hold:∀p∈before,(λb=>decide (b<W.heap.size)) p.block=true:=λp hp=>by simpa using hlt p hp
 refine⟨ds,gs,before,[],pa,pv,hW,hres _ _ _,hargs _ hold,hvars _ hold,World.keptBut_mono (λp hp=>⟨hp,?_⟩) (hb.frame (· ∈before)),λ_=>?_⟩
 ·rw[hps,List.mem_append]at hp;exact Or.inr hp
 ·obtain⟨_,_,_,_,_,hz,hn⟩:=hW;refine⟨hok,_,_,([]++pa)++pv,⟨[]++pa,pv,trodAll_append (hargs _ (λ_ _=>rfl)) (hres _ _ _),hvars _ (λ_ _=>rfl),rfl,?_,?_⟩,?_⟩
  ·intro b off hp;have hin:MemPlace.cell b off∈before:=by rw[hps];simpa using hp
   rw[hb.frozen (hlt _ hin)];exact hz b off hin
  ·intro ha;have:=hn ha;rw[hps]at this;simpa using this
  ·intro p hp _;rw[hps];simpa using hp
theorem He(hl:laidOutB P=true):∀(ts:List TypeId) (vs:List Value) (ds:List (DataW H)) (ps:List MemPlace) (W W':World) (sp:Nat->Bool),
  (ts.all λt=>P.readableRec t&&decide (t<P.types.size))=true->DataW.TrodAll enc P W 0 (λ_=>true) true ts vs ds ps->(∀x∈ps,W.sameAt W' x)->(∀x∈ps,sp x.block=true)->
  DataW.TrodAll enc P W' 0 sp true ts vs ds ps:=by
 intro ts;induction ts with
 |nil=>
  intro vs ds ps W W' sp _ h _ _;cases vs<;>cases ds<;>simp_all[DataW.TrodAll]
 |cons t ts ih=>
  intro vs ds ps W W' sp hr h hs hsp;cases vs with
  |nil=>simp[DataW.TrodAll]at h
  |cons v vs=>
   cases ds with
   |nil=>simp[DataW.TrodAll]at h
   |cons d ds=>
    obtain⟨p,q,h1,h2,rfl⟩:=h;simp only[List.all_cons,Bool.and_eq_true,decide_eq_true_eq]at hr;exact⟨p,q,WideElems.Trod_stays hl hr.1.1 hr.1.2 h1 (λx hx=>hs x (List.mem_append_left _ hx)) (λx hx=>hsp x (List.mem_append_left _ hx)),
     ih vs ds q W W' sp hr.2 h2 (λx hx=>hs x (List.mem_append_right _ hx)) (λx hx=>hsp x (List.mem_append_right _ hx)),rfl⟩
end
end
section
variable {α:Type}
structure SmR {α:Type} (R:Rep α) (p:α->Prop):Prop where
 h:∀{w cs a F},R.rd w cs a F->p a
theorem SmR.any{R:Rep α}:SmR R λ_=>True:=⟨λ_=>trivial⟩
theorem SmR.all{R:Rep α}{p:α->Prop}(h:SmR R p){w:World}:∀{l:List α} {xs:List Value} {F:List Nat},R.all w xs l F->∀y∈l,p y
 |[],_,_,_,y,hy=>by cases hy
 |a::l,_,_,⟨c1,c2,F1,F2,_,_,h1,h2⟩,y,hy=>by
  rcases List.mem_cons.1 hy with rfl|hy
  ·exact h.h h1
  ·exact SmR.all h h2 y hy
theorem SmR.sl{R:Rep α}{p:α->Prop}(h:SmR R p):SmR (Rep.sl R) λl=>l.length<=9223372036854775807/\∀y∈l,p y:=by
 refine⟨?_⟩;rintro w cs l F ⟨A,cap,xs,F1,_,hc,hm,_,hall,_⟩;have:maxLen<=9223372036854775807:=ai;exact⟨ac,SmR.all h hall⟩
theorem SmR.mono{R:Rep α}{p q:α->Prop}(h:SmR R p)(hq:∀a,p a->q a):SmR R q:=⟨λhr=>hq _ (h.h hr)⟩
end
theorem aI.sz{E:bx}{S:bZ}{f:FuncId}{args:List AV}{st:ASt}{K:AV->ASt->Prop}{p:AP1}{left a:Int}(hc:aN E f [p,pI left] (rI (max (left-a) (-1))))(hps:aPs args (· =[p,pI left]))
  (h1:decide (left-a<0)=true->K (vI .i64 (-1)) st) (h2:decide (left-a<0)=false->K (vI .i64 (left-a)) st):aI E S f args st K:=by
 refine aaB hc hps ?_;cases h:decide (left-a<0)with
 |true=>
  have e:max (left-a) (-1)= -1:=by simp only[decide_eq_true_eq]at h;omega
  rw[e];exact h1 h
 |false=>
  have e:max (left-a) (-1)=left-a:=by simp only[decide_eq_false_iff_not]at h;omega
  rw[e];exact h2 h
section
section
variable {α:Type}
end
end
section
variable {d:bD}{s:bK}{c:bp}{g:pz}
structure A6 (c:bp):Prop where
 id:c.id=4\/c.id=5
 todo:∀x∈c.todo,eL x=true
 len:c.todo.length<=12
 gl:c.gots.length<=c.todo.length
 got:∀k,k<c.gots.length->mR (c.todo.getD k ⟨0,op0,0⟩) (c.gots.getD k ⟨0,0,0,0⟩) ((k:Int)+1) (im c.gots k)=true
 last:c.last=im c.gots c.gots.length
theorem Tg(h:ci c=true):A6 c:=by
 simp only[ci,and_eq_true,decide_eq_true_eq,or_eq_true,beq_iff_eq,List.all_eq_true]at h;exact⟨h.1.1.1.1.1,h.1.1.1.1.2,h.1.1.1.2,h.1.1.2,λk hk=>K7 h.1.2 hk,h.2⟩
theorem A6.ok(h:A6 c):ci c=true:=by
 simp only[ci,and_eq_true,decide_eq_true_eq,or_eq_true,beq_iff_eq,List.all_eq_true];exact⟨⟨⟨⟨⟨h.id,h.todo⟩,h.len⟩,h.gl⟩,K8 h.got⟩,h.last⟩
def rA(c:bp)(g:pz):bp:=⟨c.id,c.todo,c.gots++[g],g.index⟩
theorem Oc{l:List pz}{k:Nat}(h:k<=l.length):im (l++[g]) k=im l k:=by
 cases k with
 |zero=>rfl
 |succ j=>simp only[im,List.getD_eq_getElem?_getD,List.getElem?_append_left (by omega:j<l.length)]
theorem HZ(h:A6 c)(hl:c.gots.length<c.todo.length)(hg:mR (c.todo.getD c.gots.length ⟨0,op0,0⟩) g ((c.gots.length:Int)+1) c.last=true):A6 (rA c g):=by
 refine⟨h.id,h.todo,h.len,by simp[rA];omega,λk hk=>?_,?_⟩
 ·have hk':k<c.gots.length+1:=by simpa[rA]using hk
  unfold rA;simp only;rw[Oc ac];by_cases e:k<c.gots.length
  ·rw[List.getD_eq_getElem?_getD (l:=c.gots++[g]),List.getElem?_append_left e,<-List.getD_eq_getElem?_getD];exact h.got k e
  ·have e:k=c.gots.length:=ac;subst e;rw[List.getD_eq_getElem?_getD (l:=c.gots++[g]),List.getElem?_append_right (Nat.le_refl _)];simp only[Nat.sub_self,List.getElem?_cons_zero,Option.getD_some];rw[<-h.last];exact hg
 ·show g.index=im (c.gots++[g]) (c.gots++[g]).length;rw[List.length_append];show g.index=((c.gots++[g]).getD c.gots.length _).index;simp
structure Jj (s:cr):Prop where
 id:s.id=2\/s.id=3
 seq:0<=s.seq/\s.seq<=2000
 jobs:gF s.view.jobs=true
 index:0<=s.index/\s.index<=2000
 idle:s.busy=false->s.op=op0
 busy:s.busy=true->s.seq≠0/\m9 s.op=true/\(s.op.kind=4\/s.op.kind=5)
theorem M5{s:cr}(h:dG s=true):Jj s:=by
 simp only[dG,ft,aJ,and_eq_true,decide_eq_true_eq,or_eq_true,beq_iff_eq]at h;refine⟨h.1.1.1.1,h.1.1.1.2,h.1.1.2,h.1.2,λhb=>?_,λhb=>?_⟩
 ·have:=h.2;rw[hb]at this;simpa using this
 ·have:=h.2;rw[hb]at this;simp at this;exact⟨this.1.1,this.1.2,this.2⟩
theorem Jj.ok{s:cr}(h:Jj s):dG s=true:=by
 simp only[dG,ft,aJ,and_eq_true,decide_eq_true_eq,or_eq_true,beq_iff_eq];refine⟨⟨⟨⟨h.id,h.seq⟩,h.jobs⟩,h.index⟩,?_⟩;cases hb:s.busy with
 |false=>simpa using h.idle hb
 |true=>
  have:=h.busy hb;simpa using⟨⟨this.1,this.2.1⟩,this.2.2⟩
structure Jk (s:bK):Prop where
 disk:dw s.disk=true
 state:bB s.state=true
 num:0<=s.num/\s.num<=1000000000
 last:0<=s.last/\s.last<=s.state.index
 zero:s.num=0↔s.last=0
 busy:s.busy=0\/(s.num<1000000000/\s.last<s.busy/\s.busy<=s.state.index)
theorem KK(h:storeOk s=true):Jk s:=by
 simp only[storeOk,aJ,and_eq_true,decide_eq_true_eq,or_eq_true,beq_iff_eq]at h;refine⟨h.1.1.1.1.1,h.1.1.1.1.2,h.1.1.1.2,h.1.1.2,?_,?_⟩
 ·have:=h.1.2;rw[Bool.eq_iff_iff]at this;simpa using this
 ·have:=h.2;omega
theorem Jk.ok(h:Jk s):storeOk s=true:=by
 simp only[storeOk,aJ,and_eq_true,decide_eq_true_eq,or_eq_true,beq_iff_eq];refine⟨⟨⟨⟨⟨h.disk,h.state⟩,h.num⟩,h.last⟩,?_⟩,?_⟩
 ·rw[Bool.eq_iff_iff];simpa using h.zero
 ·have:=h.busy;omega
theorem Ez(h:Jk s)(hd:dw d=true)(hb:s.busy=0)(hg:s.last+4<=s.state.index)(hn:s.num<1000000000):Jk {s with disk:=d,busy:=s.state.index}:=
 ⟨hd,h.state,h.num,h.last,h.zero,.inr ⟨hn,by show s.last<s.state.index;omega,Int.le_refl _⟩⟩
theorem KH(h:dw d=true):dw (gZ d)=true:=by
 simp only[dw,and_eq_true,decide_eq_true_eq]at h⊢;exact⟨kw h.1,by rw[gZ,iA];exact h.2⟩
theorem SB(h:Jk s)(hb:s.busy≠0):Jk {s with disk:=gZ s.disk,num:=s.num+1,last:=s.busy,busy:=0}:=by
 have h1:=h.num;have h2:=h.last;have h3:=h.busy.resolve_left hb;exact⟨KH h.disk,h.state,by show 0<=s.num+1/\s.num+1<=1000000000;omega,by show 0<=s.busy/\s.busy<=s.state.index;omega,by show s.num+1=0↔s.busy=0;omega,.inl rfl⟩
theorem Ur{t:bf}(h:Jk s)(ht:bB t=true)(hi:s.state.index<=t.index):Jk {s with state:=t}:=by
 have h2:=h.last;have h3:=h.busy;exact⟨h.disk,ht,h.num,by show 0<=s.last/\s.last<=t.index;omega,h.zero,by show s.busy=0\/(s.num<_/\s.last<s.busy/\s.busy<=t.index);omega⟩
theorem G4{a:Int}{r:List Int}(h:dw d=true)(hw:d.wait.length<60)(ha:0<=a/\a<=7)(hr:bQ r=true):dw (lx d a r)=true:=by
 simp only[dw,and_eq_true,decide_eq_true_eq]at h⊢;exact⟨kS h.1 hw (by simp[aJ];omega) hr,h.2⟩
end
section
open Go.Deep
variable {P:Program}{t:TypeId}
def Ny(P:Program)(t:TypeId){α:Type}(R:Rep α):Prop:=
 ∀(H:Type) (enc:TypeId×Value->H) (w:World) (base:Nat) (spare:Nat->Bool) (held:Bool) (fuel:Nat) (cs:List Value) (y:DataW H×List MemPlace),
  DataW.trod enc P w base spare held fuel t cs=some y->∃a F,R.rd w cs a F
theorem Pz{k:IntKind}(ht:P.underlying t=some (.int k)):Ny P t (Rep.int k):=by
 intro H enc w base spare held fuel cs y h;obtain⟨n,rfl,_,hw⟩:=DataW.trod_int ht h;exact⟨n,[],rfl,hw,rfl⟩
theorem SF{e:TypeId}{α:Type}{R:Rep α}(ht:P.underlying t=some (.slice e))(hc:P.cellsOf e=R.size)(hr:Ny P e R):Ny P t (Rep.sl R):=by
 intro H enc w base spare held fuel cs y h;rcases open_slice ht h with⟨rfl,_⟩|⟨a,len,cap,m,n,D,Pl,rfl,hb,hl,hm,hmm,_,hi⟩
 ·exact⟨[],[],none,0,[],[],rfl,Nat.le_refl _,Nat.zero_le _,λj hj=>absurd hj (Nat.not_lt_zero _),⟨rfl,rfl⟩,rfl⟩
 ·have hlm:len<=m:=by rw[hmm];split<;>omega
  have key:∀q,q<=len->∃(l:List α) (xs:List Value) (F:List Nat),l.length=q/\R.all w xs l F/\∀(j:Nat) (u:Value),xs[j]? =some u->w.cell? (a.add j)=some u:=by
   intro q;induction q with
   |zero=>intro _;exact⟨[],[],[],rfl,⟨rfl,rfl⟩,by intro j u hu;simp at hu⟩
   |succ q ih=>
    intro hq;obtain⟨l,xs,F,hll,hall,hx⟩:=ih (by omega);obtain⟨cs',h1,h2⟩:=hi q (by omega);obtain⟨_,hcl,hat⟩:=World.cells?_some h1;obtain⟨b,F',hrd⟩:=hr H enc w base spare held n cs' _ h2;have hxl:=abD hall;refine⟨l++[b],xs++cs',F++F',by simp[hll],abQ hall hrd,λj u hu=>?_⟩;by_cases hj:j<xs.length
    ·rw[List.getElem?_append_left hj]at hu;exact hx j u hu
    ·rw[List.getElem?_append_right (by omega)]at hu;have hjl:j-xs.length<cs'.length:=(List.getElem?_eq_some_iff.1 hu).1;have:=hat (j-xs.length) (by omega);rw[hu,Go.Deep.add_add,hc,<-hll,<-hxl,show xs.length+(j-xs.length)=j by omega]at this;exact this
  obtain⟨l,xs,F,hll,hall,hx⟩:=key len (Nat.le_refl _);refine⟨l,lT (some a) xs++F,some a,cap,xs,F,by rw[hll],by omega,hm,?_,hall,rfl⟩;intro j0 hj0;have h0:=hx 0 xs[0] (List.getElem?_eq_getElem (by omega));have ea:a.add 0=a:=by simp[Addr.add]
  rw[ea]at h0;have hlt:=World.block_lt_of_cell? w a h0;have hsp:a.spot=none:=by
   unfold World.cell? at h0;split at h0
   ·split at h0
    ·cases h0
    ·rename_i hs;simpa using hs
   ·cases h0
  obtain⟨b,off,sp⟩:=a;simp only at hsp;subst hsp;refine⟨b,off,rfl,hlt,λi u hu=>?_⟩;have:=hx i u hu;rwa[show(⟨b,off,none⟩:Addr).add i=⟨b,off+i,none⟩by unfold Addr.add;split<;>simp_all]at this
end
end Go.Proofs.YthgkdhnlehneeaaGreatDoor
