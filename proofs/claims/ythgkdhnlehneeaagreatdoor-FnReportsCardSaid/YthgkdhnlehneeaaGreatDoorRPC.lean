/- RPC -/
import Derived.Test.YthgkdhnlehneeaaGreatDoorAvLD
import Derived.Test.YthgkdhnlehneeaaGreatDoorAvQ
import Derived.Test.YthgkdhnlehneeaaGreatDoorUF
set_option maxHeartbeats 8000000
set_option linter.unusedVariables false
set_option linter.unusedSimpArgs false
set_option maxRecDepth 100000
namespace Go.Proofs.YthgkdhnlehneeaaGreatDoor
section
open Go.RowKit
variable {st:ASt}{K:ASt->Prop}{b n:Nat}{Z:Nat->Prop}{v:Value}{w:World}{S:bZ}{E:bx}
def LS(b n:Nat):AD:= .x λ_ _ v=>v= .slice (some ⟨b,0,none⟩) n n
theorem TH(h:co Z w (LS b n) v):v= .slice (some ⟨b,0,none⟩) n n:=by
 cases h with
 |x _ _ _ h=>exact h Z w (λ_ h=>h) λ_ _=>rfl
theorem U4:co Z w (LS b n) (.slice (some ⟨b,0,none⟩) n n):= .x _ _ rfl λ_ _ _ _=>rfl
def SD(id b:Nat):AO:= .frame [.one (.ref id 0 1 0)] [.pointer (some ⟨b,0,none⟩)]
def UI(e:TypeId)(d id fr i0 i1:Nat)(st:ASt)(b:Nat)(K:ASt->Prop):Prop:=
 C8 st id (.cells e [.own i0,.own i1]) λst=>C8 st fr (SD id b) λst=>fa st (some d) (.one (.d (LS b 2))) K
theorem Io(h1:v.oneCell'=true):v.cells= #[v]:=by unfold Value.oneCell' at h1;unfold Value.cells;split<;>simp_all
theorem ab1(he:E.Ok){S:bZ}{o:Oper}{st:ASt}{K:ASt->Prop}{t e:TypeId}{x0 x1:Operand}(d id fr i0 i1:Nat)(ho:o.op= .buildSlice t 2 #[(0,x0),(1,x1)])(hd:o.dst=some d)(hT:aTI E.T t λi=>match i.kind with| .sl e'=>e'=e/\aTI E.T e' λj=>j.size=1|_=>False)
  (hx0:aEv st x0 λv=>v= .one (.own i0)) (hx1:aEv st x1 λv=>v= .one (.own i1)) (hn0:i0≠id) (hn1:i1≠id) (hnf:fr≠id) (hk:∀b,UI e d id fr i0 i1 st b K):AOp E S o st K:=by
 obtain⟨ti,hti,hT⟩:=bJ he hT;split at hT
 case h_2=>exact hT.elim
 rename_i e' hs0;obtain⟨he1,hT⟩:=hT;rw[he1]at hT hs0;obtain⟨j,hj,h1⟩:=bJ he hT;have hu:=hti.sl hs0;refine⟨λa w Q ⟨Z,ρ,hs⟩=>?_⟩;obtain⟨v0,hv0,rfl⟩:=bz hs hx0;obtain⟨v1,hv1,rfl⟩:=bz hs hx1;have e0:a.eval x0=ρ i0/\(a.eval x0).oneCell'=true:=by cases hv0 with|one _ _ h=>exact h
 have e1:a.eval x1=ρ i1/\(a.eval x1).oneCell'=true:=by cases hv1 with|one _ _ h=>exact h
 have c0:(a.eval x0).cells= #[a.eval x0]:=Io e0.2;have c1:(a.eval x1).cells= #[a.eval x1]:=Io e1.2;have hr:(execOp a.eval o).run E.P w= .ok (.value (.slice (some ⟨w.heap.size,0,none⟩) 2 2)) (w.alloc (.cells #[a.eval x0,a.eval x1] e)):=by
  have hfill:∀zs:Array Value,zs.size=2->Instr.fill (λi=>some (i*1,1)) zs [(0,a.eval x0),(1,a.eval x1)]=some #[a.eval x0,a.eval x1]:=by
   intro zs hz;obtain⟨p,q,rfl⟩:∃p q,zs= #[p,q]:=by
    match zs,hz with
    |⟨[p,q]⟩,_=>exact⟨p,q,rfl⟩
   simp[Instr.fill,c0,c1]
  have hps:((#[(0,x0),(1,x1)]:Array (Nat×Operand)).map fun(i,x)=>(i,a.eval x)).toList=[(0,a.eval x0),(1,a.eval x1)]:=ah;have hc:=hfill ((Array.range (2*1)).map (j.zero.cells[· % j.zero.cells.size]!)) ah;simp only[execOp,ho,Instr.buildSlice,Sem.run_bind,run_underlying hu,Result.andThen_ok,hj.sz,h1,Sem.run_ite,if_neg (show¬(2*1>2^24)by decide),if_neg (show¬(2*1=0)by decide),Sem.run_pure,hps,hj.zr,hc];simp[newRow]
 have hg:=grownBy_alloc w (.cells #[a.eval x0,a.eval x1] e) none;have hs1:=hs.renew id (.pointer (some ⟨w.heap.size,0,none⟩)) (.cells e [.own i0,.own i1]) hg ah (λb hb=> .inr (by simp[ch]at hb;omega))
  ⟨w.heap.size,[a.eval x0,a.eval x1],by simp,heap_alloc_new w _,rfl,λi c u hc hu=>by
   match i,hc,hu with
   |0,hc,hu=>
    simp at hc hu;subst hc hu;exact⟨by simp only[if_neg hn0];exact e0.1,e0.2⟩
   |1,hc,hu=>
    simp at hc hu;subst hc hu;exact⟨by simp only[if_neg hn1];exact e1.1,e1.2⟩
   |n+2,hc,hu=>simp at hc⟩
 have hg2:(w.alloc (.cells #[a.eval x0,a.eval x1] e)).grownBy (w.alloc (.cells #[a.eval x0,a.eval x1] e)) none:=⟨rfl,rfl,rfl,Nat.le_refl _,λk hk _=>rfl⟩;have hs2:=hs1.renew fr undef (SD id w.heap.size) hg2 ah (λb hb=>by simp[ch,undef]at hb)
  ⟨by simp,rfl,λi x v hx hv=>by
   match i,hx,hv with
   |0,hx,hv=>
    simp at hx hv;subst hx hv;refine .one _ _ ⟨w.heap.size,?_,by simp⟩;simp only[if_neg (show¬id=fr from λh=>hnf h.symm),if_true];rfl
   |n+1,hx,hv=>simp at hx⟩
 have hk2:=jJ (jJ (hk w.heap.size));rw[<-hd]at hk2;exact qi hs2 (x:= .one (.d (LS w.heap.size 2))) (.one _ _ (show co _ _ (LS w.heap.size 2) _ from U4)) hr hk2 Q
theorem AXi.two{T:World->Prop}{ob:List (Nat×AO)}{K:AV->Prop}{R:(Nat->Prop)->World->Value->Prop}{n:Int}{s:Nat}(b id fr k:Nat)(hR:R=λ_ _ v=>v= .slice (some ⟨b,0,none⟩) 2 2)(hn:n=(k:Int))(hk2:k<2)(hs:s=1)(hf:aOb ob fr λo=>o=SD id b)(hk:K (.one (.ref id 0 0 k))):AXi T ob R n s K:=by
 subst hR hn hs;obtain⟨of,hof,rfl⟩:=da hf;refine⟨_,hk,λS Z w ρ v hs hv=>⟨b,0,k,2,2,TH hv,rfl,hk2,?_⟩⟩;have ho1:cZ Z w ρ fr (SD id b):=hs.obj fr _ hof;obtain⟨_,_,hfr⟩:=ho1;have hb:ch (ρ id)=some b:=by
  have:=hfr 0 _ _ rfl rfl;cases this with
  |one _ _ h=>
   obtain⟨b',h1,h2⟩:=h;simp at h2;rw[h1,h2]
 exact .one _ _ ⟨b,hb,by simp⟩
def Ex(E:bx)(S:bZ)(all:List Oper):List Nat->Nat->List Oper->ASt->(ASt->Prop)->Prop
 |_,_,[],st,K=>K st
 |[],_,ops,st,K=>Bj E S all ops st K
 |p::ps,i,o::r,st,K=>match Nat.beq p i with
  |true=>uj all o st (λst=>AOp E S o st λst=>Ex E S all ps (i+1) r st K) (λst=>fa st o.dst (.one .und) λst=>Ex E S all ps (i+1) r st K)
  |false=>uj all o st (λst=>aop E S o st λst=>Ex E S all (p::ps) (i+1) r st K) (λst=>fa st o.dst (.one .und) λst=>Ex E S all (p::ps) (i+1) r st K)
theorem mn(he:E.Ok){all:List Oper}{Q:Exit->Act->World->Prop}(hQ:∀a w,(∃st',f8 E.W S st' a w/\K st')->Q .normal a w):
  ∀(ops:List Oper) (ps:List Nat) (i:Nat) (st:ASt) (a:Act) (w:World),f8 E.W S st a w->Ex E S all ps i ops st K->wpList E.P all.toArray Q ops a w
 |[],ps,i,st,a,w,h,hk=>hQ a w ⟨st,h,by cases ps<;>exact hk⟩
 |o::r,[],i,st,a,w,h,hk=>nI he hQ (o::r) st a w h hk
 |o::r,p::ps,i,st,a,w,⟨Z,ρ,h⟩,hk=>by
  unfold wpList;unfold Ex at hk;split at hk
  ·rcases iT h hk with⟨hw,st',hs,hk⟩|⟨hw,st',hs,hk⟩
   ·rw[if_pos hw];refine .inl (Oper.wp_mono (λa' w' h'=>?_) (hk.run a w Q ⟨Z,ρ,hs⟩));obtain⟨st2,h2,hk2⟩:=h';exact mn he hQ r ps (i+1) st2 a' w' h2 hk2
   ·rw[if_neg (by simp[hw])];have:=hs.put o.dst (x:= .one .und) (v:=undef) (.one _ _ (show fp Z w ρ .und undef from rfl));exact mn he hQ r ps (i+1) _ _ w ⟨Z,ρ,this⟩ (fG hk)
  ·rcases iT h hk with⟨hw,st',hs,hk⟩|⟨hw,st',hs,hk⟩
   ·rw[if_pos hw];refine .inl (Oper.wp_mono (λa' w' h'=>?_) (pP he hs hk Q));obtain⟨st2,h2,hk2⟩:=h';exact mn he hQ r (p::ps) (i+1) st2 a' w' h2 hk2
   ·rw[if_neg (by simp[hw])];have:=hs.put o.dst (x:= .one .und) (v:=undef) (.one _ _ (show fp Z w ρ .und undef from rfl));exact mn he hQ r (p::ps) (i+1) _ _ w ⟨Z,ρ,this⟩ (fG hk)
theorem abW{K:Exit->ASt->Prop}(he:E.Ok)(ps:List Nat){rid:Nat}{ops:Array Oper}(h:Ex E S ops.toList ps 0 ops.toList st (K .normal)):AWP E S (.region rid ops false) K st:=by
 refine⟨λa w hs=>wp_region_list ?_⟩;have:=mn he (all:=ops.toList) (Q:=λe a' w'=>∃st',f8 E.W S st' a' w'/\K e st') (λa w h=>h) ops.toList ps 0 st a w hs h;simpa using this
end
open Go.Proofs.Tryz
open Go.ChangeShapes Go.WideShapes Go.RowKit
theorem Xs(b:List Int):aN av 4 [.one (.sl (b.map eU))] (rB (decide ((b.length:Int)>4096))):=by
 have e:((b.map eU).length:Int)=b.length:=ah;refine pO func4 call4 ntmps4 results4 λS=>?_;conv=>whnf
 repeat'(first|refine awz ?_|exact rZ|refine tW ?_ ?_|(intro h;conv=>whnf))
 rw[e]
theorem Oe(l:List Int)(hl:l.length<=1000):aN av 11 [.one (.sl (l.map eI)),.one (.sl (l.map eI))] (rB true):=by
 have h0:(((l.map eI).length:Int) !=((l.map eI).length:Int))=false:=ah;refine pO func11 call11 ntmps11 results11 λS=>?_;conv=>whnf
 repeat'((first|refine awz ?_|refine aaD h0 ?_|exact rZ|refine tW ?_ ?_|intro h)<;>conv=>whnf)
 refine aaK (λk:Nat=>k<=l.length) (4::5::rg 11 15) (λk=>[(5,vI .i64 (k:Int))]) (λk=>[]) (λk=>l.length-k) 0 ac ?_ aaE (λk hk=>?_)<;>(conv=>whnf)
 ·exact whd
 ·by_cases hlt:k<l.length
  ·have hc:decide ((k:Int)<((l.map eI).length:Int))=true:=al;have hne:(l[k] !=l[k])=false:=ah;repeat'((first|refine awz ?_|refine aaF hc ?_|refine aaJ aM 6 8 aX aR ae ae ae rfl ?_|refine aaM hlt ?_|refine aaD hne ?_|refine aaH ac ac ?_|exact rZ|refine tW ?_ ?_|intro h)<;>conv=>whnf)
   all_goals
    refine a8.mk ⟨k+1,hlt,ac,?_,aaE⟩;exact hds
  ·have e:k=l.length:=ac;subst e;have hc:decide ((l.length:Int)<((l.map eI).length:Int))=false:=ah;repeat'((first|refine awz ?_|refine aaD hc ?_|exact rZ|refine tW ?_ ?_|intro h)<;>conv=>whnf)
end Go.Proofs.YthgkdhnlehneeaaGreatDoor
