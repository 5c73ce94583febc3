/- QZ -/
import Derived.Test.YthgkdhnlehneeaaGreatDoorWR1
import Derived.Test.YthgkdhnlehneeaaGreatDoorAvTR
import Derived.Test.YthgkdhnlehneeaaGreatDoorAvLD
import Derived.Test.YthgkdhnlehneeaaGreatDoorRB7
import Derived.Test.YthgkdhnlehneeaaGreatDoorWB7
import Derived.Test.YthgkdhnlehneeaaGreatDoorAvFX
import Derived.Test.YthgkdhnlehneeaaGreatDoorRA3
import Derived.Test.YthgkdhnlehneeaaGreatDoorAvCT
import Derived.Test.YthgkdhnlehneeaaGreatDoorAwx
import Derived.Test.YthgkdhnlehneeaaGreatDoorAvFO
set_option maxHeartbeats 8000000
set_option linter.unusedVariables false
set_option linter.unusedSimpArgs false
set_option maxRecDepth 100000
open List (getElem?_map length_cons length_map map_append mem_map)
namespace Go.Proofs.YthgkdhnlehneeaaGreatDoor
open Go.Proofs.Tryz
open Go.ChangeShapes Go.WideShapes Go.RowKit
def uF:List (List Nat):=bC [0,1,0,3,4,322,6,0x7185103081147]
def uG:List (List Nat):=bC [0,0,2,0,4,323,6,20929,0x207185103081208]
theorem iZ{j:jr}(h:gF j=true):j.opens.length<=8/\(∀d∈j.opens,1<=d.id/\d.id<=20)/\0<=j.epoch/\j.epoch<=1000:=by
  simp only[gF,Bool.and_eq_true,decide_eq_true_eq,List.all_eq_true,aJ]at h;refine⟨h.1.1.1.2,λd hd=>?_,h.1.1.1.1.1.2⟩;have:=h.1.1.2 d hd;simp only[kA,aJ,Bool.and_eq_true,decide_eq_true_eq]at this;exact this.1
theorem yU(v:iK)(now:Int):cA av 444 [.agg v.ds,pI now] (λ_:Int=>True) (λy=> .val (pI y)):=by
  refine aV aM func444 rfl call444 ntmps444 (ace results444) λS=>?_;conv=>whnf
  repeat'((first|refine awz ?_|refine cP (l0 v) ?_|refine cP (dR _) ?_|refine cP (jT _ _) ?_|refine tW ?_ ?_|intro h)<;>conv=>whnf)
  all_goals exact⟨(_:Int),trivial,rfl⟩
theorem OW(v:iK)(who now:Int):cA av 374 [.agg v.ds,pI who,pI now] (λ_:Bool=>True) (λy=>rB y):=by
  refine aV aM func374 rfl call374 ntmps374 (ace results374) λS=>?_;conv=>whnf
  repeat'((first|refine awz ?_|refine aI.q (yU v now) rfl λy _=>?_|refine cP (dp _) ?_|refine tW ?_ ?_|intro h)<;>conv=>whnf)
  all_goals exact⟨(_:Bool),trivial,rfl⟩
theorem R5(v:iK)(now:Int):cA av 375 [.agg v.ds,pI now] (λ_:Bool=>True) (λy=>rB y):=by
  refine aV aM func375 rfl call375 ntmps375 (ace results375) λS=>?_;conv=>whnf
  repeat'((first|refine awz ?_|refine aI.q (yU v now) rfl λy _=>?_|refine tW ?_ ?_|intro h)<;>conv=>whnf)
  all_goals exact⟨(_:Bool),trivial,rfl⟩
theorem O8(v:iK)(i:Int):cA av 372 [.agg v.ds,pI i] (λ_:Bool=>True) (λy=>rB y):=by
  refine aV aM func372 rfl call372 ntmps372 (ace results372) λS=>?_;conv=>whnf
  repeat'((first|refine awz ?_|refine cP (l0 v) ?_|refine tW ?_ ?_|intro h)<;>conv=>whnf)
  all_goals exact⟨(_:Bool),trivial,rfl⟩
def Xe(l:List Int):Prop:=∀x∈l,1<=x/\x<=20
theorem Ss(v:iK)(now:Int)(h:gF v.jobs=true):cA av 443 [.agg v.ds,pI now] Xe (λy=> .val (.one (.sl (y.map eI)))):=by
  obtain⟨h8,hid,_⟩:=iZ h;refine aV aM func443 rfl call443 ntmps443 (ace results443) λS=>?_;conv=>whnf
  repeat'(first|refine awz ?_|(refine aI.q (yU v now) rfl λgs _=>?_;conv=>whnf)|fail)
  refine aaK (λg:Nat×List Int=>g.1<=v.jobs.opens.length/\g.2.length<=g.1/\Xe g.2) (8::[5,7,12,13,14,15,16,17,18,19,20,21,22,23,24,25,26,27,28,29,30,31,32,33,34,35,36,37,38,39,40,41,42]) (λg=>[(5,.one (.own 8)),(6,vI .i64 gs),(7,vI .i64 (g.1:Int))]) (λg=>[(2,.cells 54 (v.ds.map .d)),(8,.row 2 1 (g.2.map eI))]) (λg=>v.jobs.opens.length-g.1) (0,[]) ⟨Nat.zero_le _,by simp,by intro x hx;cases hx⟩ ?_ sbW (λg hg=>?_)<;>(conv=>whnf)
  · exact whd
  · obtain⟨k,l⟩:=g;obtain⟨hk,hl,hi⟩:=hg;simp only at hk hl hi;by_cases hlt:k<v.jobs.opens.length
    · have hc:decide ((k:Int)<((v.jobs.opens.map eG.ds).length:Int))=true:=al;have hd:=hid _ (List.getElem_mem hlt);repeat'((first|refine awz ?_|refine aaM hlt ?_|refine a7 ak ?_|refine aaH ac ac ?_|refine tW ?_ ?_|intro h)<;>conv=>whnf)
      all_goals first
        |exact⟨l,hi,rfl⟩
        | (refine a8.mk ⟨(k + 1, l ++ [v.jobs.opens[k].id]), ⟨hlt, by simp; omega, fun x hx => ?_⟩, by show v.jobs.opens.length - (k + 1) < v.jobs.opens.length - k; omega, ?_, aaC rfl (aaC (by rw [List.map_append]; rfl) aaE)⟩
           · rcases List.mem_append.1 hx with hx|hx
             · exact hi x hx
             · rw[List.mem_singleton.1 hx];exact hd
           · exact hds)
        | (refine a8.mk ⟨(k + 1, l), ⟨hlt, by simp only; omega, hi⟩, by show v.jobs.opens.length - (k + 1) < v.jobs.opens.length - k; omega, ?_, sbW⟩
           exact hds)
    · have e:k=v.jobs.opens.length:=ac;subst e;have hc:decide ((v.jobs.opens.length:Int)<((v.jobs.opens.map eG.ds).length:Int))=false:=ah;repeat'(first|refine awz ?_|fail)
      all_goals exact⟨l,hi,rfl⟩
theorem MU(v:iK)(now:Int)(h:gF v.jobs=true):cA av 373 [.agg v.ds,pI now] (λy:Int×Bool=>y.2=true->1<=y.1/\y.1<=20) (λy=> .tup [.one (dI y.1),.one (dB y.2)]):=by
  refine aV aM func373 rfl call373 ntmps373 (ace results373) λS=>?_;conv=>whnf
  repeat'(first|refine awz ?_|fail)
  refine aI.q (Ss v now h) rfl λl hl=>?_;rcases l with _|⟨a,r⟩
  · (conv=>whnf)
    repeat'(first|refine awz ?_|fail)
    all_goals exact⟨(_,false),by simp,rfl⟩
  · have q:((((a::r).map eI).length:Int)==0)=false:=al;(conv=>whnf)
    repeat'(first|refine awz ?_|(refine aaG 0 (eI a) rfl rfl ?_;conv=>whnf)|fail)
    all_goals exact⟨(a,true),λ_=>hl a (List.mem_cons_self ..),rfl⟩
theorem om(j:jr)(h:j.opens.length<=1048576):aN av 466 [.agg j.ds] (.val (.agg j.ds)):=by
  refine pO func466 call466 ntmps466 results466 λS=>?_;conv=>whnf
  repeat'((first|refine awz ?_|refine aW (by first|(intro y hy;obtain⟨a,_,rfl⟩:=List.mem_map.1 hy;rfl)|(simp;done)) ?_|refine a7 ak ?_|exact rZ|fail)<;>conv=>whnf)
theorem y7(v:iK)(h:v.jobs.opens.length<=1048576):aN av 442 [.agg v.ds] (.val (.agg v.ds)):=by
  refine pO func442 call442 ntmps442 results442 λS=>?_;conv=>whnf
  repeat'(first|refine awz ?_|(refine cP (om v.jobs h) ?_;conv=>whnf)|exact rZ|fail)
theorem Gi(s:cr)(h:s.view.jobs.opens.length<=1048576):aN av 371 [.agg s.ds] (.val (.agg s.ds)):=by
  refine pO func371 call371 ntmps371 results371 λS=>?_;conv=>whnf
  repeat'(first|refine awz ?_|(refine cP (y7 s.view h) ?_;conv=>whnf)|exact rZ|fail)
theorem Ku(v:iK)(j:jr)(hV:gF v.jobs=true):cA av 432 [.agg v.ds,.agg j.ds] (λy:iK=>gF y.jobs=true) (λy=> .val (.agg y.ds)):=by
  have c0:=l0 v;rw[hV]at c0;have c1:=lY j;have c2:=y7 v (by have:=(iZ hV).1;omega);cases hj:gF j with
  |false=>
    rw[hj]at c1;refine aV aM func432 rfl call432 ntmps432 (ace results432) λS=>?_;conv=>whnf
    repeat'((first|refine awz ?_|refine cP (c0) ?_|refine cP (c1) ?_|refine cP (c2) ?_|fail)<;>conv=>whnf)
    all_goals exact⟨v,hV,rfl⟩
  |true=>
    rw[hj]at c1;have c3:=om j (by have:=(iZ hj).1;omega);refine aV aM func432 rfl call432 ntmps432 (ace results432) λS=>?_;conv=>whnf
    repeat'((first|refine awz ?_|refine cP (c0) ?_|refine cP (c1) ?_|refine cP (c2) ?_|refine cP (c3) ?_|refine tW ?_ ?_|intro h)<;>conv=>whnf)
    all_goals first|exact⟨v,hV,rfl⟩|exact⟨⟨j⟩,hj,rfl⟩
def QS(s y:cr):Prop:=Jj y/\y.id=s.id
theorem FR(s:cr)(now:Int)(f:Jj s):cA av 272 [.agg s.ds,pI now] (QS s) (λy=> .val (.agg y.ds)):=by
  have c0:=kb s;rw[f.ok]at c0;obtain⟨h8,hid,he⟩:=iZ f.jobs;have c1:=Gi s ac;have hq:=f.seq;cases hb:s.busy with
  |true=>
    have qb:s.busy=true:=hb;refine aV aM func272 rfl call272 ntmps272 (ace results272) λS=>?_;conv=>whnf
    repeat'((first|refine awz ?_|refine cP (c0) ?_|refine cP (c1) ?_|refine cP (dR _) ?_|refine tW ?_ ?_|intro h)<;>conv=>whnf)
    all_goals exact⟨s,⟨f,rfl⟩,rfl⟩
  |false=>
    have qb:s.busy=false:=hb;by_cases hm:s.seq>=2000
    · have q1:decide (s.seq>=2000)=true:=by simpa using hm
      refine aV aM func272 rfl call272 ntmps272 (ace results272) λS=>?_;conv=>whnf
      repeat'((first|refine awz ?_|refine cP (c0) ?_|refine cP (c1) ?_|refine cP (dR _) ?_|refine tW ?_ ?_|intro h)<;>conv=>whnf)
      all_goals exact⟨s,⟨f,rfl⟩,rfl⟩
    · have q1:decide (s.seq>=2000)=false:=by simpa using hm
      have ok:∀o:DOp,m9 o=true->o.kind=4\/o.kind=5->QS s {s with seq:=s.seq+1,busy:=true,op:=o}:=λo h1 h2=>
        ⟨⟨f.id,by show 0<=s.seq+1/\s.seq+1<=2000;omega,f.jobs,f.index,λh=>(by cases h),λ_=>⟨by show s.seq+1≠0;omega,h1,h2⟩⟩,rfl⟩
      refine aV aM func272 rfl call272 ntmps272 (ace results272) λS=>?_;conv=>whnf
      repeat'((first|refine awz ?_|refine cP (c0) ?_|refine cP (c1) ?_|refine cP (dR _) ?_|refine aI.q (O8 s.view s.index) rfl λy _=>?_|(refine aI.q (MU s.view now f.jobs) rfl λz hz=>?_;obtain⟨zi,zb⟩:=z)|refine aI.q (OW s.view s.id now) rfl λy _=>?_|refine aI.q (R5 s.view now) rfl λy _=>?_|refine aaH ac ac ?_|refine tW ?_ ?_|intro h)<;>conv=>whnf)
      all_goals first
        |exact⟨s,⟨f,rfl⟩,rfl⟩
        |exact⟨_,ok ⟨5,20,0,0,0⟩ ai (.inr rfl),rfl⟩
        |(have h4:=hz (by simpa using h);exact⟨_,ok ⟨4,zi,s.view.jobs.epoch,0,0⟩ (by simp[m9,aJ];omega) (.inl rfl),rfl⟩)
theorem Uj(s:cr)(f:Jj s):cA av 377 [.agg s.ds] (λ_:DG×Bool=>True) (λy=> .tup [.agg y.1.ds,.one (dB y.2)]):=by
  have c0:=kb s;rw[f.ok]at c0;refine aV aM func377 rfl call377 ntmps377 (ace results377) λS=>?_;conv=>whnf
  repeat'((first|refine awz ?_|refine cP (c0) ?_|refine tW ?_ ?_|intro h)<;>conv=>whnf)
  all_goals first
    |exact⟨(⟨_,_,⟨_,_,_,_,_⟩⟩,_),trivial,rfl⟩
    |exact⟨(⟨_,_,_⟩,_),trivial,rfl⟩
theorem F0(s:cr)(f:Jj s):cA av 273 [.agg s.ds] zg (λy=> .val (.one (.sl (y.map cX.ds)))):=by
  have c0:=kb s;rw[f.ok]at c0;refine aV aM func273 rfl call273 ntmps273 (ace results273) λS=>?_;conv=>whnf
  repeat'(first|refine awz ?_|(refine cP (c0) ?_;conv=>whnf)|fail)
  (refine aaL aM 3 (tkc [0,1,2,3] (onc [4,5,6] (.take 7 .done))) [(1,9980)] uF ae ae ae ae (λRz=>?_);(conv=>whnf);intro bp0 up0;(conv=>whnf))
  repeat'((first|refine awz ?_|refine aI.q (OY _) rfl λy hy=>?_|(refine aI.q (Uj s f) rfl λz _=>?_;obtain⟨za,zb⟩:=z)|refine tW ?_ ?_|intro h)<;>conv=>whnf)
  · (refine aaL aM 6 (tkc [0,1,2,3] (onc [4,5,6,7] (.take 8 .done))) [(1,9980),(4,9981)] uG ae ae ae ae (λRz=>?_);(conv=>whnf);intro bp0 up0;(conv=>whnf);intro bp1 up1;(conv=>whnf))
    repeat'((first|refine awz ?_|refine aI.q (IE za) rfl λx hx=>?_|refine a7 ak ?_|fail)<;>conv=>whnf)
    all_goals exact⟨[⟨s.id,1,y⟩,⟨s.id,0,x⟩],⟨by simp,λm hm=>by simp at hm;rcases hm with rfl|rfl;exact Nat.le_trans hy ai;exact Nat.le_trans hx ai⟩,rfl⟩
  · exact⟨[⟨s.id,1,y⟩],.one (Nat.le_trans hy ai),rfl⟩
theorem MH(s:cr)(a:fE)(f:Jj s):cA av 430 [.agg s.ds,.agg a.ds] (QS s) (λy=> .val (.agg y.ds)):=by
  have c0:=kb s;rw[f.ok]at c0;have h8:=(iZ f.jobs).1;have c1:=Gi s ac;have c2:=n8 a;have hq:=f.seq;cases ho:uy a with
  |false=>
    rw[ho]at c2;refine aV aM func430 rfl call430 ntmps430 (ace results430) λS=>?_;conv=>whnf
    repeat'((first|refine awz ?_|refine cP (c0) ?_|refine cP (c1) ?_|refine cP (c2) ?_|fail)<;>conv=>whnf)
    all_goals exact⟨s,⟨f,rfl⟩,rfl⟩
  |true=>
    rw[ho]at c2;have hr:(a.last<=2000/\1<=a.last)/\0<=a.index/\a.index<=2000:=by
      simp only[uy,Bool.and_eq_true,aJ,decide_eq_true_eq]at ho;have h:=ho.2;split at h
      · simp only[beq_iff_eq]at h;omega
      · simp only[Bool.and_eq_true,decide_eq_true_eq]at h;omega
    have o1:QS s {s with index:=a.index,busy:=false,op:=op0}:=⟨⟨f.id,f.seq,f.jobs,hr.2,λ_=>rfl,λh=>by cases h⟩,rfl⟩;have o2:QS s {s with seq:=a.last,busy:=false,op:=op0}:=⟨⟨f.id,by show 0<=a.last/\a.last<=2000;omega,f.jobs,f.index,λ_=>rfl,λh=>by cases h⟩,rfl⟩;refine aV aM func430 rfl call430 ntmps430 (ace results430) λS=>?_;conv=>whnf
    repeat'((first|refine awz ?_|refine cP (c0) ?_|refine cP (c1) ?_|refine cP (c2) ?_|refine tW ?_ ?_|intro h)<;>conv=>whnf)
    all_goals first
      |exact⟨s,⟨f,rfl⟩,rfl⟩
      |exact⟨_,o1,rfl⟩
      |exact⟨_,o2,rfl⟩
def tg:List (List Nat):=bC [0,1,0,3,0,5,0,7,33156,9,528514,0xb2892071851030812ca]
def th:List (List Nat):=bC [0,1,0,3,0,5,0,7,0,9,2654596,11,528514,0xd30b28920718510308134c]
def Wt(y:aS×List fE):Prop:=mh y.1/\y.2.length<=1
def Xq(y:aS×List fE):AP:= .tup [.agg y.1.ds,.one (.sl (y.2.map fE.ds))]
theorem OM(n:aS)(a:DG)(now:Int)(f:mh n)(hn:0<=now/\now<=1000000):cA av 346 [.agg n.ds,.agg a.ds,pI now] Wt Xq:=by
 have hsh:=f.short;have c1:=n9 n (by have:=hsh.h1;omega) (by have:=hsh.ow;omega) (by have:=hsh.sn;omega) (by have:=hsh.h2;omega);rw[f.ok]at c1;have c2:=y1 n hsh;have c3:=Ap a;have c4:=db now;rw[show aJ now 0 1000000=true from ia hn]at c4;have c5:=jp n.seen a.client f.seenOk;cases ha:B4 a with
 |false=>
  rw[ha]at c3;refine aV aM func346 rfl call346 ntmps346 (ace results346) λS=>?_;conv=>whnf
  repeat'((first|refine awz ?_|refine cP (c1) ?_|refine cP (c2) ?_|refine cP (c3) ?_|fail)<;>conv=>whnf)
  all_goals exact⟨(n,[]),⟨f,by simp⟩,rfl⟩
 |true=>
  rw[ha]at c3;by_cases hf:(bI n.seen a.client).seq<a.seq
  ·have q:decide (a.seq>(bI n.seen a.client).seq)=true:=by simpa using hf
   have c6:=Nb n a now f ha hn hf;refine aV aM func346 rfl call346 ntmps346 (ace results346) λS=>?_;conv=>whnf
   repeat'((first|refine awz ?_|refine cP (c1) ?_|refine cP (c3) ?_|refine cP (c4) ?_|refine cP (c5) ?_|refine aI.q c6 rfl λy hy=>?_|fail)<;>conv=>whnf)
   all_goals exact⟨(_,[]),⟨hy,by simp⟩,rfl⟩
  ·have q:decide (a.seq>(bI n.seen a.client).seq)=false:=by simpa using hf
   refine aV aM func346 rfl call346 ntmps346 (ace results346) λS=>?_;conv=>whnf
   repeat'(first|refine awz ?_|((first|refine cP (c1) ?_|refine cP (c2) ?_|refine cP (c3) ?_|refine cP (c4) ?_|refine cP (c5) ?_|fail)<;>conv=>whnf)|(refine aaL aM 10 (tkc [0,2,3,4,5,6,7] (.two 1 (.two 8 (.two 9 (.one 10 (.take 11 .done)) 10 (.one 9 (.take 11 .done))) 10 (.one 8 (.one 9 (.take 11 .done)))) 8 (.two 1 (.two 9 (.one 10 (.take 11 .done)) 10 (.one 9 (.take 11 .done))) 9 (.one 1 (.one 10 (.take 11 .done)))))) [(3,9980),(4,9981),(9,9982)] tg ae ae ae ae (λRz=>?_);(conv=>whnf);intro bp0 up0;(conv=>whnf);intro bp1 up1;(conv=>whnf);intro bp2 up2;(conv=>whnf))|(refine aaL aM 13 (tkc [0,2,3,4,5,6,7,8,9] (.two 1 (.two 10 (.two 11 (.one 12 (.take 13 .done)) 12 (.one 11 (.take 13 .done))) 12 (.one 10 (.one 11 (.take 13 .done)))) 10 (.two 1 (.two 11 (.one 12 (.take 13 .done)) 12 (.one 11 (.take 13 .done))) 11 (.one 1 (.one 12 (.take 13 .done)))))) [(3,9980),(4,9981),(9,9982)] th ae ae ae ae (λRz=>?_);(conv=>whnf);intro bp0 up0;(conv=>whnf);intro bp1 up1;(conv=>whnf);intro bp2 up2;(conv=>whnf))|refine tW ?_ ?_|(intro h;conv=>whnf))
   all_goals first
    |exact⟨(n,[]),⟨f,by simp⟩,rfl⟩
    |exact⟨(n,[⟨_,_,_,_⟩]),⟨f,by simp⟩,rfl⟩
def tj:List (List Nat):=bC [0,0,2,3,0,5,1597697,7,7,0x92071851030811c8,0x289207185103081289]
theorem OU(h:bH)(ho:dm h=true):aN av 171 [.agg h.ds] (.val (.one (.sl ((fX h).map eI)))):=by
 have hs:=(cI ho).2.2.2.2.1;have hl:=eO hs;have hok:=g8 h ac;rw[ho]at hok;have e:fX h=[h.num,h.base,h.time,(bI h.seen 2).seq,(bI h.seen 2).index,(bI h.seen 3).seq,(bI h.seen 3).index,(bI h.seen 4).seq,(bI h.seen 4).index,(bI h.seen 5).seq,(bI h.seen 5).index,h.num,h.num]:=by simp[fX,ho]
 rw[e];refine pO func171 call171 ntmps171 results171 λS=>?_;conv=>whnf
 repeat'(first|refine awz ?_|(refine cP (hok) ?_;conv=>whnf)|fail)
 refine aaZ 5 ?_;conv=>whnf
 repeat'((first|refine awz ?_|refine cP (jp h.seen _ hs) ?_|refine aaH ai ai ?_|refine a7 ak ?_|exact rZ|fail)<;>conv=>whnf)
theorem MR(t:di)(h:bH)(ht:eC t=true)(hh:dm h=true):aN av 423 [.agg t.ds,.agg h.ds] (Ac (py t (h.num % 2) (fX h))):=by
 have hf:=cI hh;have c1:=iD t;rw[ht]at c1;have c2:=g8 h (by have:=eO hf.2.2.2.2.1;omega);rw[hh]at c2;have hr:=pn h;have hn:=hf.1;have c4:=OU h hh;have c5:=Aq t (h.num % 2) (fX h) ht ac hr.1 hr.2;have em:Int.tmod h.num 2=h.num % 2:=by rw[Int.tmod_eq_emod_of_nonneg ac]
 rw[<-em]at c5⊢;unfold Ac at c5⊢;generalize py t (Int.tmod h.num 2) (fX h)=q at c5⊢;obtain⟨q1,q2⟩:=q;simp only at c5⊢;refine pO func423 call423 ntmps423 results423 λS=>?_;conv=>whnf
 repeat'((first|refine awz ?_|refine cP (c1) ?_|refine cP (c2) ?_|fail)<;>conv=>whnf)
 (refine aaL aM 5 (tkc [0,1,2,4] (.two 3 (.one 5 (.one 6 (.take 7 (.take 8 (.one 9 (.take 10 .done)))))) 5 (.one 3 (.one 6 (.take 7 (.take 8 (.one 9 (.take 10 .done)))))))) [(2,9980),(3,9981)] tj ae ae ae ae (λRz=>?_);(conv=>whnf);intro bp0 up0;(conv=>whnf);intro bp1 up1;(conv=>whnf))
 repeat'((first|refine awz ?_|refine cP (c4) ?_|refine cP (c5) ?_|refine And.intro ac ?_|exact rZ|refine tW ?_ ?_|fail)<;>conv=>whnf)
theorem RG{n:aS}(f:mh n){i:Int}(h1:n.head.base+1<=i)(h2:i<=bg n.book):dm (j9 n i)=true:=by
 have hb:=(bY f.book).2.2.2.1;have hso:=jl (cI f.head).2.2.2.2.1 ac f.fold;have:=vO (n:={n with nxt:=⟨0,i,0,[]⟩}) f.book f.head f.base (by rw[hso]) h1 h2;rw[vM f.book];simpa only[fV]using this
theorem KF(n:aS)(i:Int)(f:mh n):cA av 351 [.agg n.ds,pI i] Xf (λy=> .val (.agg y.ds)):=by
 have hsh:=f.short;have c1:=n9 n (by have:=hsh.h1;omega) (by have:=hsh.ow;omega) (by have:=hsh.sn;omega) (by have:=hsh.h2;omega);rw[f.ok]at c1;have c2:=y1 n hsh;have hh:=cI f.head;have hbs:=f.base;have hd:=f.dhi;have hl:=Dt f.book;have c3:=aQ i (n.head.base+1) n.durable;cases hm:n.more with
 |true=>
  refine aV aM func351 rfl call351 ntmps351 (ace results351) λS=>?_;conv=>whnf
  repeat'((first|refine awz ?_|refine cP (c1) ?_|refine cP (c2) ?_|fail)<;>conv=>whnf)
  all_goals exact⟨n,f,rfl⟩
 |false=>
  cases hi:aJ i (n.head.base+1) n.durable with
  |false=>
   rw[hi]at c3;refine aV aM func351 rfl call351 ntmps351 (ace results351) λS=>?_;conv=>whnf
   repeat'((first|refine awz ?_|refine cP (c1) ?_|refine cP (c2) ?_|refine cP (c3) ?_|refine aaH ac ac ?_|fail)<;>conv=>whnf)
   all_goals exact⟨n,f,rfl⟩
  |true=>
   rw[hi]at c3;have hr:n.head.base+1<=i/\i<=n.durable:=by simpa[aJ]using hi
   have c4:=y3 n i f.book ac ac ac;have ho:=RG f (i:=i) hr.1 ac;have c5:=MR n.two (j9 n i) f.two ho;by_cases hw:n.two.a.wait.length<60/\n.two.b.wait.length<60
   ·have hok:=PA f hr hw.1 hw.2;rw[py,if_pos hw]at c5;unfold Ac at c5;simp only at c5;refine aV aM func351 rfl call351 ntmps351 (ace results351) λS=>?_;conv=>whnf
    repeat'((first|refine awz ?_|refine cP (c1) ?_|refine cP (c2) ?_|refine cP (c3) ?_|refine cP (c4) ?_|refine cP (c5) ?_|refine aaH ac ac ?_|fail)<;>conv=>whnf)
    all_goals exact⟨sJ n i,hok,rfl⟩
   ·rw[py,if_neg hw]at c5;unfold Ac at c5;simp only at c5;refine aV aM func351 rfl call351 ntmps351 (ace results351) λS=>?_;conv=>whnf
    repeat'((first|refine awz ?_|refine cP (c1) ?_|refine cP (c2) ?_|refine cP (c3) ?_|refine cP (c4) ?_|refine cP (c5) ?_|refine aaH ac ac ?_|fail)<;>conv=>whnf)
    all_goals exact⟨n,f,rfl⟩
def xC:List (List Nat):=bC [0,1,129,0,4,324,0,7,0,9,0,11,0,13,909,62286,0xc108610520728930b40e34f,0x113cd3902cc24a1c8144182043]
def xH:List (List Nat):=dW 16 [43046694,43046695,43046698,43046018,43046045,43046126,43040888,43041617,42994232,43000793,42574328,42633377,531440,1062881,2657204,7440173]
def mN:List (List Nat):=bC [0,1,0,3,0,5,389,0,8,0,0x811031c518920a,0xb2882461470c4042,0x3020440c714624828b]
def mP:List (List Nat):=dW 10 [59040,59041,58976,58985,56942,57023,57266,41552,43739,19682]
theorem QH(b:Bool):aN av 101 [.one (dB b)] (.val (pI (if b then 1 else 0))):=by
  cases b with
  |false=>
    refine pO func101 call101 ntmps101 results101 λS=>?_;conv=>whnf
    repeat'(first|refine awz ?_|exact rZ|fail)
  |true=>
    refine pO func101 call101 ntmps101 results101 λS=>?_;conv=>whnf
    repeat'(first|refine awz ?_|exact rZ|fail)
theorem R9(s:bK)(h:storeOk s=true):cA av 359 [.agg s.ds] (λy:jr=>y.opens.length<=8) (λy=> .val (.agg y.ds)):=by
  have hs:=f7 h;have c1:=ip s (by have:=hs.2.1;omega);rw[h]at c1;have hj:=(cK (KK h).state).2.2.2.1;have c2:=wh s.state.jobs hj;have hl:=(dF hj).1;have ho:(mT s.state.jobs).length<=8:=by have:=Bz s.state.jobs s.state.jobs.length (Nat.le_refl _);rw[List.take_length]at this;omega
  refine aV aM func359 rfl call359 ntmps359 (ace results359) λS=>?_;conv=>whnf
  repeat'(first|refine awz ?_|(refine cP (c1) ?_;conv=>whnf)|fail)
  (refine aaJ aM 4 16 xC xH ae ae ae rfl ?_;conv=>whnf)
  repeat'(first|refine awz ?_|(refine cP (c2) ?_;conv=>whnf)|fail)
  all_goals exact⟨⟨_,_,_,_,_,mT s.state.jobs⟩,ho,rfl⟩
theorem Sc(s:bK)(r:DH)(h:storeOk s=true):cA av 355 [.agg s.ds,.agg r.ds] (λ_:Jg×Bool=>True) (λy=> .tup [.agg y.1.ds,.one (dB y.2)]):=by
  have hs:=f7 h;have c1:=ip s (by have:=hs.2.1;omega);rw[h]at c1;have hp:=(cK (KK h).state).2.2.1;have c2:=qA r;have c3:=yY s.state.pairs r.key hp;cases hf:s.state.pairs.find? (vz r.key)with
  |none=>
    rw[hf]at c3;have c4:=QH false;refine aV aM func355 rfl call355 ntmps355 (ace results355) λS=>?_;conv=>whnf
    repeat'((first|refine awz ?_|refine cP (c1) ?_|refine cP (c2) ?_|refine cP (c3) ?_|refine tW ?_ ?_|intro h)<;>conv=>whnf)
    all_goals first
      |exact⟨(⟨_,_,_,_,_⟩,_),trivial,rfl⟩
      | ((refine aaJ aM 4 10 mN mP ae ae ae rfl ?_; conv => whnf)
         repeat'(first|refine awz ?_|(refine cP (c4) ?_;conv=>whnf)|fail)
         all_goals exact⟨(⟨_,_,_,_,_⟩,_),trivial,rfl⟩)
  |some x=>
    rw[hf]at c3;have c4:=QH true;refine aV aM func355 rfl call355 ntmps355 (ace results355) λS=>?_;conv=>whnf
    repeat'((first|refine awz ?_|refine cP (c1) ?_|refine cP (c2) ?_|refine cP (c3) ?_|refine tW ?_ ?_|intro h)<;>conv=>whnf)
    all_goals first
      |exact⟨(⟨_,_,_,_,_⟩,_),trivial,rfl⟩
      | ((refine aaJ aM 4 10 mN mP ae ae ae rfl ?_; conv => whnf)
         repeat'(first|refine awz ?_|(refine cP (c4) ?_;conv=>whnf)|fail)
         all_goals exact⟨(⟨_,_,_,_,_⟩,_),trivial,rfl⟩)
def PC(y:BS):Prop:=y.ents.length<=20
theorem ML(n:aS)(i:Int)(f:mh n):cA av 349 [.agg n.ds,pI i] PC (λy=> .val (.agg y.ds)):=by
 have hsh:=f.short;have c1:=n9 n (by have:=hsh.h1;omega) (by have:=hsh.ow;omega) (by have:=hsh.sn;omega) (by have:=hsh.h2;omega);rw[f.ok]at c1;have h20:=(bY f.book).2.2.2.1;have c2:=aQ i 1 2001;cases hi:aJ i 1 2001 with
 |false=>
  rw[hi]at c2;refine aV aM func349 rfl call349 ntmps349 (ace results349) λS=>?_;conv=>whnf
  repeat'((first|refine awz ?_|refine cP (c1) ?_|refine cP (c2) ?_|fail)<;>conv=>whnf)
  all_goals exact⟨⟨0,0,[]⟩,by simp[PC],rfl⟩
 |true=>
  rw[hi]at c2;have c3:=oh n.book i n.durable h20;have hpl:(ld n.book i n.durable).length<=20:=by
   have:(ld n.book i n.durable).length<=n.book.entries.length:=List.length_filter_le _ _;omega
  generalize ld n.book i n.durable=p at c3 hpl;by_cases h3:3<p.length
  ·have q:decide (((p.map aO.ds).length:Int)>3)=true:=al;refine aV aM func349 rfl call349 ntmps349 (ace results349) λS=>?_;conv=>whnf
   repeat'((first|refine awz ?_|refine cP (c1) ?_|refine cP (c2) ?_|refine cP (c3) ?_|refine⟨0,3,by simp[L0],by simp[zI],ac,by simp;omega,?_⟩|refine And.intro (λx hx=>by obtain⟨a,_,rfl⟩:=List.mem_map.1 hx;rfl) ?_|fail)<;>conv=>whnf)
   all_goals exact⟨⟨n.head.base,n.durable,p.take 3⟩,by simp[PC];omega,by simp[BS.ds]⟩
  ·have q:decide (((p.map aO.ds).length:Int)>3)=false:=al;refine aV aM func349 rfl call349 ntmps349 (ace results349) λS=>?_;conv=>whnf
   repeat'((first|refine awz ?_|refine cP (c1) ?_|refine cP (c2) ?_|refine cP (c3) ?_|fail)<;>conv=>whnf)
   all_goals exact⟨⟨n.head.base,n.durable,p⟩,hpl,rfl⟩
def uD:List (List Nat):=bC [0,0,2,0,259,5,6,0,8,0,649,11,12,839,897,0xf38d30b2892071851030813cf]
def uT:List (List Nat):=bC [0,1,129,0,4,324,3238551813,0,35670845825091]
def vh:List (List Nat):=dW 8 [5076,5077,5080,4400,4427,4508,4738,2186]
def uE:List (List Nat):=bC [0,1,0,0,259,5,0,0,8,583,10,710,12,834,0x38d30b289207185103081,0xe34c2ca2481c61440c204e38f]
def RR(l:List Int):Prop:=l.length<=1000
theorem MJ(e:aO):cA av 422 [.agg e.ds] (λl:List Int=>l.length<=9) (λl=> .val (.one (.sl (l.map eI)))):=by
 cases h:bL e with
 |true=>
  have c:aN av 422 [.agg e.ds] (.val (.one (.sl ((yG e).map eI)))):=dd.data (CN e h) rfl rfl;exact c.q (yG e) (by simp[yG,opL]) rfl
 |false=>
  have c1:=bP e;rw[h]at c1;refine aV aM func422 rfl call422 ntmps422 (ace results422) λS=>?_;conv=>whnf
  repeat'(first|refine awz ?_|(refine cP (c1) ?_;conv=>whnf)|fail)
  all_goals exact⟨[],by simp,rfl⟩
theorem OQ(f:BS)(hf:PC f):cA av 348 [.agg f.ds] RR (λl=> .val (.one (.sl (l.map eI)))):=by
 have hf:f.ents.length<=20:=hf;refine aV aM func348 rfl call348 ntmps348 (ace results348) λS=>?_;conv=>whnf
 repeat'((first|refine awz ?_|refine aI.q (BJ f ac) rfl λb _=>?_|refine tW ?_ ?_|intro h)<;>conv=>whnf)
 ·exact⟨[],by simp[RR],rfl⟩
 ·refine aaK (λg:Nat×List Int=>g.1<=f.ents.length/\g.2.length<=3+9*g.1) (13::[3,4,14,15,16,17,18,19,20,21,22,23,24,25,26,27,28]) (λg=>[(3,.one (.own 13)),(4,vI .i64 (g.1:Int))]) (λg=>[(1,.cells 358 (f.ds.map .d)),(13,.row 2 1 (g.2.map eI))]) (λg=>f.ents.length-g.1) (0,[4,f.base,f.last]) ⟨Nat.zero_le _,by simp⟩ ?_ sbW (λg hg=>?_)<;>(conv=>whnf)
  ·exact whd
  ·obtain⟨k,l⟩:=g;obtain⟨hk,hl⟩:=hg;simp only at hk hl;by_cases hlt:k<f.ents.length
   ·have hc:decide ((k:Int)<((f.ents.map aO.ds).length:Int))=true:=al;repeat'((first|refine awz ?_|refine aaM hlt ?_|refine aI.q (MJ f.ents[k]) rfl λy hy=>?_|refine aW (by first|(intro y hy;obtain⟨a,_,rfl⟩:=List.mem_map.1 hy;rfl)|(simp;done)) ?_|refine a7 ak ?_|refine aaH ac ac ?_|fail)<;>conv=>whnf)
    all_goals
     refine a8.mk ⟨(k+1,l++y),⟨hlt,by simp;omega⟩,by show f.ents.length-(k+1)<f.ents.length-k;omega,?_,aaC rfl (aaC (by rw[map_append];rfl) aaE)⟩;exact hds
   ·have e:k=f.ents.length:=ac;subst e;have hc:decide ((f.ents.length:Int)<((f.ents.map aO.ds).length:Int))=false:=ah;repeat'(first|refine awz ?_|fail)
    all_goals exact⟨l,by unfold RR;omega,rfl⟩
theorem OX(j:jr)(hj:j.opens.length<=8):cA av 358 [.agg j.ds] RR (λl=> .val (.one (.sl (l.map eI)))):=by
 refine aV aM func358 rfl call358 ntmps358 (ace results358) λS=>?_;conv=>whnf
 repeat'((first|refine awz ?_|refine cP (lY j) ?_|refine tW ?_ ?_|intro h)<;>conv=>whnf)
 ·exact⟨[],by simp[RR],rfl⟩
 ·refine aaK (λg:Nat×List Int=>g.1<=j.opens.length/\g.2.length<=6+2*g.1) (19::[3,4,20,21,22,23,24,25,26,27,28,29,30,31,32,33,34,35,36,37,38,39,40,41]) (λg=>[(3,.one (.own 19)),(4,vI .i64 (g.1:Int))]) (λg=>[(1,.cells 52 (j.ds.map .d)),(19,.row 2 1 (g.2.map eI))]) (λg=>j.opens.length-g.1) (0,[9,j.index,j.time,j.holder,j.epoch,j.til]) ⟨Nat.zero_le _,by simp⟩ ?_ sbW (λg hg=>?_)<;>(conv=>whnf)
  ·exact whd
  ·obtain⟨k,l⟩:=g;obtain⟨hk,hl⟩:=hg;simp only at hk hl;by_cases hlt:k<j.opens.length
   ·have hc:decide ((k:Int)<((j.opens.map eG.ds).length:Int))=true:=al;repeat'(first|refine awz ?_|(refine aaL aM 7 (tkc [0,1,2,3,4,5,6,7,8,9,10,11,12] (.one 13 (.one 14 (.take 15 .done)))) [(1,9980)] uD ae ae ae ae (λRz=>?_);(conv=>whnf);intro bp0 up0;(conv=>whnf))|((first|refine aaM hlt ?_|refine a7 ak ?_|refine aaH ac ac ?_|fail)<;>conv=>whnf))
    all_goals
     refine a8.mk ⟨(k+1,l++[j.opens[k].id,j.opens[k].due]),⟨hlt,by simp;omega⟩,by show j.opens.length-(k+1)<j.opens.length-k;omega,?_,aaC rfl (aaC (by rw[map_append];rfl) aaE)⟩;exact hds
   ·have e:k=j.opens.length:=ac;subst e;have hc:decide ((j.opens.length:Int)<((j.opens.map eG.ds).length:Int))=false:=ah;repeat'(first|refine awz ?_|fail)
    all_goals exact⟨l,by unfold RR;omega,rfl⟩
theorem QR{l:List Int}{m c:Nat}:((((l.map eI).length:Nat):Int).tmod (m:Int) !=(c:Int))= !decide (l.length % m=c):=by
 rw[length_map,Int.tmod_eq_emod_of_nonneg ac,Bool.eq_iff_iff];simp;omega
theorem O1(l:List Int):cA av 352 [.one (.sl (l.map eI))] (λy:BS×Bool=>y.1.ents.length<=1000) (λy=> .tup [.agg y.1.ds,.one (dB y.2)]):=by
 rcases l with _|⟨a,r⟩
 ·refine aV aM func352 rfl call352 ntmps352 (ace results352) λS=>?_;conv=>whnf
  repeat'(first|refine awz ?_|fail)
  all_goals exact⟨(⟨0,0,[]⟩,false),by simp,rfl⟩
 ·have hm:=QR (l:=a::r) (m:=9) (c:=3);have e0:(((a::r).map eI).length:Int)=((a::r).length:Int):=by rw[length_map]
  have hne:(9:Int)≠0:=ai;by_cases h1:(a::r).length<3
  ·have q1:decide ((((a::r).map eI).length:Int)<3)=true:=by rw[e0,decide_eq_true_eq];omega
   refine aV aM func352 rfl call352 ntmps352 (ace results352) λS=>?_;conv=>whnf
   repeat'(first|refine awz ?_|fail)
   all_goals exact⟨(⟨0,0,[]⟩,false),by simp,rfl⟩
  ·have q1:decide ((((a::r).map eI).length:Int)<3)=false:=by rw[e0,decide_eq_false_iff_not];omega
   by_cases h2:(a::r).length>30
   ·have q2:decide ((((a::r).map eI).length:Int)>30)=true:=by rw[e0,decide_eq_true_eq];omega
    refine aV aM func352 rfl call352 ntmps352 (ace results352) λS=>?_;conv=>whnf
    repeat'(first|refine awz ?_|fail)
    all_goals exact⟨(⟨0,0,[]⟩,false),by simp,rfl⟩
   ·have q2:decide ((((a::r).map eI).length:Int)>30)=false:=by rw[e0,decide_eq_false_iff_not];omega
    by_cases h3:(a::r).length % 9=3
    ·have q3:((((a::r).map eI).length:Int).tmod 9 !=3)=false:=by rw[show(9:Int)=((9:Nat):Int)from rfl,show(3:Int)=((3:Nat):Int)from rfl,hm];simpa using h3
     obtain⟨b,r2,rfl,_⟩:=bm (l:=r) (n:=r.length-1) (by simp only[length_cons]at h1 h2 h3⊢;omega);obtain⟨c,r3,rfl,_⟩:=bm (l:=r2) (n:=r2.length-1) (by simp only[length_cons]at h1 h2 h3⊢;omega);generalize hL:a::b::c::r3=L at*
     have g0:(L.map eI)[0]? =some (eI a):=by rw[<-hL];rfl
     have g1:(L.map eI)[1]? =some (eI b):=by rw[<-hL];rfl
     have g2:(L.map eI)[2]? =some (eI c):=by rw[<-hL];rfl
     refine aV aM func352 rfl call352 ntmps352 (ace results352) λS=>?_;conv=>whnf
     repeat'((first|refine awz ?_|refine And.intro hne ?_|refine aaG 0 _ rfl g0 ?_|refine aaG 1 _ rfl g1 ?_|refine aaG 2 _ rfl g2 ?_|refine aaJ aM 3 8 uT vh ae ae ae rfl ?_|refine tW ?_ ?_|intro h)<;>conv=>whnf)
     ·exact⟨(⟨0,0,[]⟩,false),by simp,rfl⟩
     ·refine aa1 4 2 45 275 9 ai ?_;conv=>whnf
      repeat'(first|refine awz ?_|fail)
      refine aaK (λg:Nat×List aO=>g.1 % 9=3/\g.1<=L.length/\g.2.length<=g.1) (3::5::6::7::rg 36 24) (λg=>[(5,vI .i64 (g.1:Int))]) (λg=>[(2,.cells 358 [.d (dI 0),.d (dI 0),.nil]),(4,.cells 358 [.d (dI b),.d (dI c),.own 45]),(45,.row 275 9 (g.2.map aO.ds))]) (λg=>L.length-g.1) (3,[]) ⟨rfl,by simp only;omega,by simp⟩ ?_ sbW (λg hg=>?_)<;>(conv=>whnf)
      ·exact whd
      ·have hL1:3<=L.length:=ac;obtain⟨k,es⟩:=g;obtain⟨hp,hk,hes⟩:=hg;simp only at hp hk hes;have e0:((L.map eI).length:Int)=(L.length:Int):=by rw[length_map]
       by_cases hlt:k<L.length
       ·have hc:decide ((k:Int)<((L.map eI).length:Int))=true:=by rw[e0,decide_eq_true_eq];omega
        have hcut:List.drop k (List.take (k+9) (L.map eI))=((L.drop k).take 9).map eI:=by
         rw[List.drop_take,show k+9-k=9 by omega,List.map_take,List.map_drop]
        have ce:=CX ((L.drop k).take 9);unfold BB at ce;generalize ((iy ((L.drop k).take 9)).getD WA)=e at ce;repeat'((first|refine awz ?_|refine aaH ac ac ?_|(refine⟨k,k+9,rfl,rfl,ac,am,(λx hx=>by obtain⟨a,_,rfl⟩:=List.mem_map.1 hx;rfl),?_⟩;rw[hcut])|refine cP (ce) ?_|refine a7 ak ?_|refine tW ?_ ?_|intro h)<;>conv=>whnf)
        ·exact⟨(⟨0,0,[]⟩,false),by simp,rfl⟩
        ·refine a8.mk ⟨(k+9,es++[e]),⟨by simp only;omega,by simp only;omega,by simp;omega⟩,by show L.length-(k+9)<L.length-k;omega,?_,aaC rfl (aaC rfl (aaC (by rw[map_append];rfl) aaE))⟩;exact hds
       ·have hc:decide ((k:Int)<((L.map eI).length:Int))=false:=by rw[e0,decide_eq_false_iff_not];omega
        repeat'(first|refine awz ?_|(refine aI.freeze 45 275 9 (es.map aO.ds) rfl ?_;(conv=>whnf);refine aI.q (BJ ⟨b,c,es⟩ ay) rfl λy hy=>?_;conv=>whnf)|refine tW ?_ ?_|(intro h;conv=>whnf))
        all_goals first|exact⟨(⟨0,0,[]⟩,false),by simp,rfl⟩|exact⟨(⟨b,c,es⟩,true),by simp only;omega,rfl⟩
    ·have q3:((((a::r).map eI).length:Int).tmod 9 !=3)=true:=by rw[show(9:Int)=((9:Nat):Int)from rfl,show(3:Int)=((3:Nat):Int)from rfl,hm];simpa using h3
     refine aV aM func352 rfl call352 ntmps352 (ace results352) λS=>?_;conv=>whnf
     repeat'(first|refine awz ?_|(refine And.intro hne ?_;conv=>whnf)|fail)
     all_goals exact⟨(⟨0,0,[]⟩,false),by simp,rfl⟩
theorem O3(l:List Int):cA av 431 [.one (.sl (l.map eI))] (λy:jr×Bool=>y.1.opens.length<=1000) (λy=> .tup [.agg y.1.ds,.one (dB y.2)]):=by
 rcases l with _|⟨a,r⟩
 ·refine aV aM func431 rfl call431 ntmps431 (ace results431) λS=>?_;conv=>whnf
  repeat'(first|refine awz ?_|fail)
  all_goals exact⟨(⟨0,0,0,0,0,[]⟩,false),by simp,rfl⟩
 ·have hm:=QR (l:=a::r) (m:=2) (c:=0);have e0:(((a::r).map eI).length:Int)=((a::r).length:Int):=by rw[length_map]
  have hne:(2:Int)≠0:=ai;by_cases h1:(a::r).length<6
  ·have q1:decide ((((a::r).map eI).length:Int)<6)=true:=by rw[e0,decide_eq_true_eq];omega
   refine aV aM func431 rfl call431 ntmps431 (ace results431) λS=>?_;conv=>whnf
   repeat'(first|refine awz ?_|fail)
   all_goals exact⟨(⟨0,0,0,0,0,[]⟩,false),by simp,rfl⟩
  ·have q1:decide ((((a::r).map eI).length:Int)<6)=false:=by rw[e0,decide_eq_false_iff_not];omega
   by_cases h2:(a::r).length>22
   ·have q2:decide ((((a::r).map eI).length:Int)>22)=true:=by rw[e0,decide_eq_true_eq];omega
    refine aV aM func431 rfl call431 ntmps431 (ace results431) λS=>?_;conv=>whnf
    repeat'(first|refine awz ?_|fail)
    all_goals exact⟨(⟨0,0,0,0,0,[]⟩,false),by simp,rfl⟩
   ·have q2:decide ((((a::r).map eI).length:Int)>22)=false:=by rw[e0,decide_eq_false_iff_not];omega
    by_cases h3:(a::r).length % 2=0
    ·have q3:((((a::r).map eI).length:Int).tmod 2 !=0)=false:=by rw[show(2:Int)=((2:Nat):Int)from rfl,show(0:Int)=((0:Nat):Int)from rfl,hm];simpa using h3
     obtain⟨b,r2,rfl,_⟩:=bm (l:=r) (n:=r.length-1) (by simp only[length_cons]at h1 h2 h3⊢;omega);obtain⟨c,r3,rfl,_⟩:=bm (l:=r2) (n:=r2.length-1) (by simp only[length_cons]at h1 h2 h3⊢;omega);obtain⟨d,r4,rfl,_⟩:=bm (l:=r3) (n:=r3.length-1) (by simp only[length_cons]at h1 h2 h3⊢;omega);obtain⟨e,r5,rfl,_⟩:=bm (l:=r4) (n:=r4.length-1) (by simp only[length_cons]at h1 h2 h3⊢;omega);obtain⟨f,r6,rfl,_⟩:=bm (l:=r5) (n:=r5.length-1) (by simp only[length_cons]at h1 h2 h3⊢;omega);generalize hL:a::b::c::d::e::f::r6=L at*
     have g0:(L.map eI)[0]? =some (eI a):=by rw[<-hL];rfl
     have g1:(L.map eI)[1]? =some (eI b):=by rw[<-hL];rfl
     have g2:(L.map eI)[2]? =some (eI c):=by rw[<-hL];rfl
     have g3:(L.map eI)[3]? =some (eI d):=by rw[<-hL];rfl
     have g4:(L.map eI)[4]? =some (eI e):=by rw[<-hL];rfl
     have g5:(L.map eI)[5]? =some (eI f):=by rw[<-hL];rfl
     refine aV aM func431 rfl call431 ntmps431 (ace results431) λS=>?_;conv=>whnf
     repeat'((first|refine awz ?_|refine And.intro hne ?_|refine aaG 0 _ rfl g0 ?_|refine aaG 1 _ rfl g1 ?_|refine aaG 2 _ rfl g2 ?_|refine aaG 3 _ rfl g3 ?_|refine aaG 4 _ rfl g4 ?_|refine aaG 5 _ rfl g5 ?_|refine aaJ aM 3 17 jA jC ae ae ae rfl ?_|refine tW ?_ ?_|intro h)<;>conv=>whnf)
     ·exact⟨(⟨0,0,0,0,0,[]⟩,false),by simp,rfl⟩
     ·refine aa1 4 5 45 212 2 ai ?_;conv=>whnf
      repeat'(first|refine awz ?_|fail)
      refine aaK (λg:Nat×List eG=>g.1 % 2=0/\g.1<=L.length/\g.2.length<=g.1) (5::rg 43 21) (λg=>[(5,vI .i64 (g.1:Int))]) (λg=>[(2,.cells 52 [.d (dI 0),.d (dI 0),.d (dI 0),.d (dI 0),.d (dI 0),.nil]),(4,.cells 52 [.d (dI b),.d (dI c),.d (dI d),.d (dI e),.d (dI f),.own 45]),(45,.row 212 2 (g.2.map eG.ds))]) (λg=>L.length-g.1) (6,[]) ⟨rfl,by simp only;omega,by simp⟩ ?_ sbW (λg hg=>?_)<;>(conv=>whnf)
      ·exact whd
      ·obtain⟨k,es⟩:=g;obtain⟨hp,hk,hes⟩:=hg;simp only at hp hk hes;have e0:((L.map eI).length:Int)=(L.length:Int):=by rw[length_map]
       by_cases hlt:k<L.length
       ·have hc:decide ((k:Int)<((L.map eI).length:Int))=true:=by rw[e0,decide_eq_true_eq];omega
        have hk1:k+1<L.length:=ac;have gk:(L.map eI)[k]? =some (eI L[k]):=by rw[List.getElem?_map,List.getElem?_eq_getElem hlt];rfl
        have gk1:(L.map eI)[k+1]? =some (eI L[k+1]):=by rw[List.getElem?_map,List.getElem?_eq_getElem hk1];rfl
        repeat'(first|refine awz ?_|(refine aaL aM 7 (tkc [0,2,3,4,5,6,7] (.two 1 (.one 8 (.take 9 (onc [10,11,12,13] (.take 14 (.one 15 .done))))) 8 (.take 9 (.two 1 (onc [10,11,12,13] (.take 14 (.one 15 .done))) 10 (.two 1 (onc [11,12,13] (.take 14 (.one 15 .done))) 11 (.two 1 (.one 12 (.one 13 (.take 14 (.one 15 .done)))) 12 (.one 1 (.one 13 (.take 14 (.one 15 .done)))))))))) [] uE ae ae ae ae (λRz=>?_);(conv=>whnf))|((first|refine aaG k _ rfl gk ?_|refine aaG (k+1) _ rfl gk1 ?_|refine a7 ak ?_|refine aaH ac ac ?_|fail)<;>conv=>whnf)|refine tW ?_ ?_|fail)
        all_goals
         refine a8.mk ⟨(k+2,es++[⟨L[k],L[k+1]⟩]),⟨by simp only;omega,by simp only;omega,by simp;omega⟩,by show L.length-(k+2)<L.length-k;omega,?_,aaC rfl (aaC rfl (aaC (by rw[map_append];rfl) aaE))⟩;exact hds
       ·have hc:decide ((k:Int)<((L.map eI).length:Int))=false:=by rw[e0,decide_eq_false_iff_not];omega
        repeat'(first|refine awz ?_|(refine aI.freeze 45 212 2 (es.map eG.ds) rfl ?_;(conv=>whnf);refine aaB (lY ⟨b,c,d,e,f,es⟩) rfl ?_;conv=>whnf)|refine tW ?_ ?_|(intro h;conv=>whnf))
        all_goals first|exact⟨(⟨0,0,0,0,0,[]⟩,false),by simp,rfl⟩|exact⟨(⟨b,c,d,e,f,es⟩,true),by simp only;omega,rfl⟩
    ·have q3:((((a::r).map eI).length:Int).tmod 2 !=0)=true:=by rw[show(2:Int)=((2:Nat):Int)from rfl,show(0:Int)=((0:Nat):Int)from rfl,hm];simpa using h3
     refine aV aM func431 rfl call431 ntmps431 (ace results431) λS=>?_;conv=>whnf
     repeat'(first|refine awz ?_|(refine And.intro hne ?_;conv=>whnf)|fail)
     all_goals exact⟨(⟨0,0,0,0,0,[]⟩,false),by simp,rfl⟩
theorem Ut{Z:Nat->Prop}{w:World}{b c:Nat}{ws:List (List UInt8)}(hz:Z b)(hc:ws.length<=c)(hm:c<=maxLen)(hr:∀i u,(xl ws)[i]? =some u->w.cell? ⟨b,i,none⟩=some u):co Z w (dSs ws) (.slice (some ⟨b,0,none⟩) ws.length c):=by
 have:=co.sl (Z:=Z) (w:=w) (ws.map eS) (some ⟨b,0,none⟩) c 1 (ws.map λs=>[Value.string ⟨s.toArray⟩]) (by simpa using hc) hm ah (λx hx=>?_) (λu hu=>?_) (.inr ⟨b,0,rfl,hz,λi u hu=>?_⟩) λi j x u p q hx hu hp hq=>?_
 ·simpa using this
 ·obtain⟨s,_,rfl⟩:=mem_map.1 hx;rfl
 ·obtain⟨s,_,rfl⟩:=mem_map.1 hu;rfl
 ·rw[Bm]at hu;rw[Nat.zero_add];exact hr i u hu
 ·rw[getElem?_map]at hx hu;obtain⟨s,hs,rfl⟩:=Option.map_eq_some_iff.1 hx;rw[hs]at hu;simp at hu;subst hu;cases j with
  |zero=>simp at hp hq;subst hp hq;exact .pv _ rfl
  |succ j=>simp at hp
theorem LO(c:UInt8)(l:List UInt8)(hl:l.length<=2000000):aN av 27 [pL l,pL [c]] (.val (.one (dSs (dv c l)))):=by
 refine⟨call27,λZ w us hz hg hul hr=>?_⟩;obtain⟨w1,hw1,hb1,hz1⟩:=hg;match us,hul,hr with
 |[],hul,_=>simp at hul
 |[a],hul,_=>simp at hul
 |a::b::x::r,hul,_=>simp at hul
 |[a,b],hul,hr=>
  have ha:a= .string ⟨l.toArray⟩:=mb rfl (show co Z w (dL l) a from hr 0 _ a rfl rfl);have hb:b= .string ⟨[c].toArray⟩:=mb rfl (show co Z w (dL [c]) b from hr 1 _ b rfl rfl);subst ha hb;obtain⟨m,hm⟩:=((show Nz w1 from hw1).below hb1).2;refine(Ng c l hl w m hm).mono ?_;rintro e w' ⟨rfl,rfl⟩;have hlen:=GD c l;refine⟨_,λb=>Z b\/b=w.heap.size,rfl,Below.alloc (Below.refl _ _) (Nat.le_refl _) _,λb h=> .inl h,λb h=>h.imp (λh=>h) λh=>?_,Ut (.inr rfl) (Nat.le_refl _) (by unfold maxLen;omega) λi u hu=>?_⟩
  ·subst h;exact⟨Nat.le_refl _,by simp⟩
  ·have hcell:=heap_alloc_new w (.cells (xl (dv c l)).toArray 9);rw[cell_of_row _ _ _ _ _ _ hcell];simpa using hu
theorem Lz(xs:List (List UInt8))(y:List UInt8)(hx:xs≠ [])(hl:xs.length<=1000000):aN av 28 [.one (dSs xs),.one (dSs [y])] (rB (decide (xs=[y]))):=by
 refine⟨call28,λZ w us hz hg hul hr=>?_⟩;match us,hul,hr with
 |[],hul,_=>simp at hul
 |[a],hul,_=>simp at hul
 |a::b::x::r,hul,_=>simp at hul
 |[a,b],hul,hr=>
  obtain⟨A,c1,rfl,_,_,r1⟩:=Af (l:=xs) (f:=λs=>Value.string ⟨s.toArray⟩) (show co Z w (dSs xs) a from hr 0 _ a rfl rfl) hz;obtain⟨B,c2,rfl,_,_,r2⟩:=Af (l:=[y]) (f:=λs=>Value.string ⟨s.toArray⟩) (show co Z w (dSs [y]) b from hr 1 _ b rfl rfl) hz;obtain⟨b1,o1,rfl,_,q1⟩:=r1 0 (by simpa using List.length_pos_iff.2 hx);obtain⟨b2,o2,rfl,_,q2⟩:=r2 0 ah;have:=Tryz.slices_Equal_string b1 o1 xs.length c1 b2 o2 1 c2 (xs.map mkS) [mkS y] w ah ah ac ac (λj hj=>by
   have hj':j<xs.length:=by simpa using hj
   refine q1 j _ ?_;simp[hj',List.getD_eq_getElem?_getD]) (λj hj=>by
   have:j=0:=by simp at hj;omega
   subst this;exact q2 0 _ rfl)
  refine this.mono ?_;rintro e w' ⟨rfl,q,rfl⟩;have e:(List.take xs.length (xs.map mkS)=List.take 1 [mkS y])↔xs=[y]:=by
   rw[List.take_of_length_le ah];constructor
   ·intro h;have h:xs.map mkS=[mkS y]:=h;match xs,h with
    |[x],h=>
     injection h with h _
     have:x.toArray=y.toArray:=congrArg ByteArray.data h;have:=congrArg Array.toList this;simp at this;rw[this]
   ·rintro rfl;rfl
  refine⟨_,Z,rfl,JD _ _,λb h=>h,λb h=> .inl h,?_⟩;rw[show decide (List.take xs.length (xs.map mkS)=List.take 1 [mkS y])=decide (xs=[y])from decide_eq_decide.2 e];exact co.pv _ rfl
theorem Sp{k:Nat}(h:k<7):3<=wn.getD k 0:=by
 have:k=0\/k=1\/k=2\/k=3\/k=4\/k=5\/k=6:=ac;rcases this with rfl|rfl|rfl|rfl|rfl|rfl|rfl<;>decide
theorem GJ(f:Nat->List Int)(l:List UInt8)(hl:l.length<=1000)(hw:dv 10 l=(List.range 7).map (λj=>mC (bW.getD j []) (f j))++[[]])(hf:∀k,k<7->o3 (f k) k)(hg:∀k,mK (f k)):aN av 8 [pL l] (.tup [.one (.sl (((List.range 7).map f).map λx=>[dIs x])),.one (dB true)]):=by
 have s10:=LO 10 l ac;rw[hw]at s10;have c1:decide (((⟨l.toArray⟩:ByteArray).size:Int)>1000)=false:=by rw[fD];simp;omega
 have q0:(!((⟨#[]⟩:ByteArray).toList==(⟨#[]⟩:ByteArray).toList))=false:=ah;refine pO func8 call8 ntmps8 results8 λS=>?_;conv=>whnf
 repeat'((first|refine awz ?_|refine cP (s10) ?_|refine cP (w5) ?_|refine aaG 7 _ rfl rfl ?_|refine aaH ai ai ?_|fail)<;>conv=>whnf)
 refine aaK (λk:Nat=>k<=7) (34::57::61::62::82::83::[2,3,6,7,8,9,10,11,37,38,39,40,41,42,43,44,45,46,47,48,49,50,51,52,53,54,55,56,57,58,59,60,61,62,63,64,65,66,67,68,69,70,71,72,73,74,75,76,77,78,79,80,81,82,83,84]) (λk=>[(6,.one (.own 34)),(37,vI .i64 (k:Int))]) (λk=>[(12,.row 3 1 (wn.map eI)),(34,.row 67 1 (((List.range k).map f).map λx=>[dIs x]))]) (λk=>7-k) 0 (Nat.zero_le _) ?_ sbW (λk hk=>?_)<;>(conv=>whnf)
 ·exact whd
 ·rcases Nat.lt_or_ge k 7 with hlt|hge
  ·have hc:decide ((k:Int)<((bW.map eS).length:Int))=true:=by simp[bW];omega
   have gN:(bW.map eS)[k]? =some (eS (bW.getD k [])):=by rw[getElem?_map,List.getD_eq_getElem?_getD,List.getElem?_eq_getElem (show k<bW.length from hlt)];rfl
   have gL:(((List.range 7).map (λj=>mC (bW.getD j []) (f j))++[[]]).map eS)[k]? =some (eS (mC (bW.getD k []) (f k))):=by
    rw[getElem?_map,List.getElem?_append_left (by simpa using hlt),getElem?_map,List.getElem?_range hlt];rfl
   have gS:(wn.map eI)[k]? =some (eI (wn.getD k 0)):=by rw[getElem?_map,List.getD_eq_getElem?_getD,List.getElem?_eq_getElem (show k<wn.length from hlt)];rfl
   have hn:=Bt hlt;have hgk:=hg k;have hle:=IB hn.2.2 hgk.1 hgk.2;have s32:=LO 32 (mC (bW.getD k []) (f k)) ac;rw[Mz hn.1 hgk.2]at s32;have hfk:=hf k hlt;have hrow:∀x,f k=x->(((List.range k).map f).map λx=>[dIs x])++[[dIs x]]=((List.range (k+1)).map f).map λx=>[dIs x]:=by
    rintro x rfl;rw[List.range_succ,List.map_append,List.map_append];rfl
   have hlenr:((((List.range k).map f).map λx=>[dIs x]).length)=k:=ah;generalize bW.getD k []=nm at gN gL s32;generalize mC nm (f k)=ln at gL s32;have qn:(!((⟨nm.toArray⟩:ByteArray).toList==(⟨nm.toArray⟩:ByteArray).toList))=false:=ah;rcases hfk with⟨h0,h4⟩|⟨h0,hsz⟩
   ·rw[if_pos h0]at s32;have h4':decide ((k:Int)<4)=true:=al;have cE:=Lz [u7] u7 ah ah;rw[show decide ([u7]=[u7])=true by simp]at cE;repeat'((first|refine awz ?_|refine aaG k _ rfl gN ?_|refine aaG k _ rfl gL ?_|refine aaG 0 _ rfl rfl ?_|refine cP (s32) ?_|refine⟨1,2,rfl,rfl,by decide,Nat.le_refl _,(λx hx=>by obtain⟨a,_,rfl⟩:=mem_map.1 hx;rfl),?_⟩|refine aI.scalar cE rfl rfl ?_|refine KM (by rw[hlenr];simp only[List.length_cons,List.length_nil];omega) ?_|refine aaH ac ac ?_|fail)<;>conv=>whnf)
    all_goals
     refine a8.mk ⟨k+1,hlt,ac,?_,aaC rfl (aaC (congrArg some (congrArg (AO.row 67 1) (hrow [] h0))) aaE)⟩;exact hds
   ·rw[if_neg h0]at s32;have hb:=In hgk.2;have hs3:=Sp hlt;have ht:((f k).map Lib.itoa).length=(f k).length:=ah;have cN:=J5 ((f k).map Lib.itoa) (by have:=hgk.1;omega) (λw hw=>by
     obtain⟨x,hx,rfl⟩:=mem_map.1 hw;have:=(qj (hgk.2 x hx)).2.2.1;omega) hb.1
    have cE:=Lz ((f k).map Lib.itoa) u7 (by simpa using h0) (by have:=hgk.1;omega);rw [show decide ((f k).map Lib.itoa=[u7])=false by
     rw[decide_eq_false_iff_not];intro e;have:=congrArg List.length e;rw[ht]at this;simp at this;omega]at cE
    rw[hb.2]at cN;have et:((((nm::(f k).map Lib.itoa).map eS).take ((nm::(f k).map Lib.itoa).map eS).length).drop 1)=((f k).map Lib.itoa).map eS:=by rw[List.take_length];rfl
    have hc2:(((f k).map eI).length:Int)=wn.getD k 0:=by simpa using hsz
    have qs:((((f k).map eI).length:Int) !=wn.getD k 0)=false:=by rw[hc2];simp
    have cE':aN av 28 [.one (.sl ((((nm::(f k).map Lib.itoa).map eS).take ((nm::(f k).map Lib.itoa).map eS).length).drop 1)),.one (dSs [u7])] (rB false):=by rw[et];exact cE
    have cN':dd av 29 [.one (.d (.sl ((((nm::(f k).map Lib.itoa).map eS).take ((nm::(f k).map Lib.itoa).map eS).length).drop 1)))] [] [(9,.row 2 1 ((f k).map eI))] [] (.tup [.one (.own 9),.one (.d (dB true))]):=by rw[et];exact cN
    generalize (f k).map Lib.itoa=tl at s32 cE' cN';by_cases h4:(k:Int)<4;all_goals
     have h4':=h4;rw[<-decide_eq_true_iff (p:=(k:Int)<4)]at h4';try rw[Bool.not_eq_true]at h4'
     repeat'((first|refine AWP.freeze 970 2 1 ((f k).map eI) rfl ?_|refine awz ?_|refine aaG k _ rfl gN ?_|refine aaG k _ rfl gL ?_|refine aaG k _ rfl gS ?_|refine aaG 0 _ rfl rfl ?_|refine cP (s32) ?_|refine⟨1,_,rfl,rfl,by simp,Nat.le_refl _,(λx hx=>by obtain⟨a,_,rfl⟩:=mem_map.1 hx;rfl),?_⟩|refine aI.scalar cE' rfl rfl ?_|refine aaI cN' [(9,970)] rfl rfl ?_|refine KM (by rw[hlenr];simp only[List.length_cons,List.length_nil];omega) ?_|refine aaH ac ac ?_|fail)<;>conv=>whnf)
    all_goals
     refine a8.mk ⟨k+1,hlt,ac,?_,aaC rfl (aaC (congrArg some (congrArg (AO.row 67 1) (hrow _ rfl))) aaE)⟩;exact hds
  ·have hkk:k=7:=ac;subst hkk;have hc:decide (((7:Nat):Int)<((bW.map eS).length:Int))=false:=by simp[bW]
   repeat'(first|refine awz ?_|exact rZ|fail)
theorem LT{x:Int}(h:0<=x/\x<=100000000):(Lib.itoa x).length<=21:=by
 have:=oX [x] (by intro y hy;simp at hy;subst hy;simp[Lit.wf,IntKind.min,IntKind.max,IntKind.signed,IntKind.bits];omega);simp[dx]at this;omega
theorem sL:∀{l:List (List UInt8)},(∀x∈l,x.length<=21)->(du [32] l).length<=22*l.length
 |[],_=>by simp[du]
 |[a],h=>by have:=h a ah;simp[du];omega
 |a::b::r,h=>by
  have h1:=h a ah;have:=sL (l:=b::r) λx hx=>h x (by simp[hx]);simp only[du,List.length_append,List.length_cons,List.length_nil]at this⊢;omega
theorem Sr(l:List Int)(h:mK l):aN av 106 [.one (.sl (l.map eI))] (rL (du [32] (l.map Lib.itoa))):=by
 have hl:=h.1;refine pO func106 call106 ntmps106 results106 λS=>?_;conv=>whnf
 repeat'(first|refine awz ?_|fail)
 refine aaK (λk:Nat=>k<=l.length) (5::[3,4,6,7,8,9,10,11,12,13,14,15,16,17,18,19]) (λk=>[(3,.one (.own 5)),(4,vI .i64 (k:Int))]) (λk=>[(5,.row 9 1 (((l.take k).map Lib.itoa).map eS))]) (λk=>l.length-k) 0 ac ?_ sbW (λk hR=>?_)<;>(conv=>whnf)
 ·exact whd
 ·by_cases hlt:k<l.length
  ·have hx:=h.2 l[k] (List.getElem_mem hlt);have hc:decide ((k:Int)<((l.map eI).length:Int))=true:=al;repeat'((first|refine awz ?_|refine aaM hlt ?_|refine cP (IT _ hx.1 ac) ?_|refine a7 al ?_|refine aaH ac ac ?_|fail)<;>conv=>whnf)
   refine a8.mk ⟨k+1,hlt,ac,?_,aaC (congrArg some (congrArg (AO.row 9 1) (by rw[sI hlt,List.map_append,List.map_append];rfl))) aaE⟩;exact hds
  ·have e:k=l.length:=ac;subst e;have hc:decide ((l.length:Int)<((l.map eI).length:Int))=false:=ah;have hw:=sL (l:=l.map Lib.itoa) (λx hx=>by obtain⟨y,hy,rfl⟩:=List.mem_map.1 hx;exact LT (h.2 y hy));rw[List.length_map]at hw;rw[List.take_length];repeat'(first|refine awz ?_|(refine aI.scalar (Po (l.map Lib.itoa) [32] al ac ah) rfl rfl ?_;conv=>whnf)|exact rr|fail)
theorem Gj(name:List UInt8)(hn:name.length<=5)(l:List Int)(h:mK l):aN av 37 [pL name,.one (.sl (l.map eI))] (rL (jn name l)):=by
 cases l with
 |nil=>
  have e:jn name []=name++[32,100,111,119,110,10]:=rfl;rw[e];refine pO func37 call37 ntmps37 results37 λS=>?_;conv=>whnf
  repeat'(first|refine awz ?_|(refine KL al ?_;conv=>whnf)|fail)
  simp only[AP.val.injEq,AP1.one.injEq,AD.pv.injEq,Value.string.injEq];apply ByteArray.ext;simp
 |cons x r=>
  have e:jn name (x::r)=name++([32]++du [32] ((x::r).map Lib.itoa)++[10]):=by
   rw[jn,if_neg ah,sE ah];simp
  have hw:=sL (l:=(x::r).map Lib.itoa) (λy hy=>by obtain⟨z,hz,rfl⟩:=List.mem_map.1 hy;exact LT (h.2 z hz));have hl:=h.1;rw[List.length_map]at hw;have hp:=Sr (x::r) h;rw[e];clear e;generalize du [32] ((x::r).map Lib.itoa)=W at hp hw⊢;have hc:decide ((((x::r).map eI).length:Int)=0)=false:=al;refine pO func37 call37 ntmps37 results37 λS=>?_;conv=>whnf
  repeat'((first|refine awz ?_|refine cP (hp) ?_|refine KL ax ?_|fail)<;>conv=>whnf)
  simp only[AP.val.injEq,AP1.one.injEq,AD.pv.injEq,Value.string.injEq];apply ByteArray.ext;simp
def pf:List (List Nat):=bC [0,1,0,12417,0,84938883,0,487529648389,0,0x9205101083187,0,0xb287183081105209,0,0xd30920510108318728b,0x8110318520728930b38d,0xf34e2cc24a1c81460c4042]
def pk:List (List Nat):=dW 13 [1195740,1195741,1195730,1195735,1195640,1195681,1194830,1195195,1187540,1190821,1121930,1151455,531440]
def pg:List (List Nat):=bC [0,0,0,131,16578,0,0,391,33222,22130962227656,0x4a207189103085,0xb1420c42461c8281]
def pm:List (List Nat):=dW 10 [59046,19460,19448,19454,19481,1700,728,1214,3401,9842]
theorem Gk:aN av 36 [] (.val (.one (dSs bW))):=by
 refine pO func36 call36 ntmps36 results36 λS=>?_;conv=>whnf
 repeat'(first|refine awz ?_|fail)
 rfl
def v7(w:aP):List (List Int):=[bM w,bA w,aY w 2,aY w 3,a6 w 4,a6 w 5,cy w]
theorem OF(w:aP){k:Nat}(hk:k<7):(v7 w)[k]'hk=eJ w k:=by
 have:k=0\/k=1\/k=2\/k=3\/k=4\/k=5\/k=6:=ac;rcases this with rfl|rfl|rfl|rfl|rfl|rfl|rfl<;>rfl
abbrev eR(l:List Int):List AD:=[.sl (l.map eI)]
theorem GY(w:aP)(hs:aaN 1048576 w):aN av 9 [.agg w.ds] (rL (dh w)):=by
 cases hw:aZ w with
 |false=>
  have hn:(!aZ w)=true:=by rw[hw];rfl
  have e:dh w=[]:=by simp[dh,hw]
  rw[e];refine pO func9 call9 ntmps9 results9 λS=>?_;conv=>whnf
  repeat'(first|refine awz ?_|(refine cP (bd w hs) ?_;conv=>whnf)|exact rr|fail)
 |true=>
  have hn:(!aZ w)=false:=by rw[hw];rfl
  have e:dh w=txt w 7:=by simp[dh,hw]
  rw[e];refine pO func9 call9 ntmps9 results9 λS=>?_;conv=>whnf
  repeat'(first|refine awz ?_|(refine cP (bd w hs) ?_;conv=>whnf)|fail)
  (refine aaJ aM 3 13 pf pk ae ae ae rfl ?_;conv=>whnf)
  repeat'((first|refine awz ?_|refine cP (As w hs) ?_|refine cP (wj w hs) ?_|refine cP (lk w 2 hs) ?_|refine cP (lk w 3 hs) ?_|refine cP (jX w 4 hs) ?_|refine cP (jX w 5 hs) ?_|refine cP (At w hs) ?_|refine cP (Gk) ?_|fail)<;>conv=>whnf)
  refine aaK (λk:Nat=>k<=7) (4::[4,6,26,27,28,29,30,31,32,33,34,35,36,37,38,39,40,41,42]) (λk=>[(4,.one (.d (dL (txt w k)))),(6,vI .i64 (k:Int))]) (λk=>[(24,.row 67 1 ((v7 w).map eR))]) (λk=>7-k) 0 ac ?_ sbW (λk hR=>?_)<;>(conv=>whnf)
  ·exact whd
  ·have h7:bW.length=7:=rfl;have h7r:(v7 w).length=7:=rfl;by_cases hlt:k<bW.length
   ·have hn5:=Bu hlt;have hg:=v8 hs k;have htx:=KO hs k ac;have hll:=CK hn5 hg;have hget:((v7 w).map eR)[k]? =some (eR (eJ w k)):=by
     have hk7:k<7:=ac;have hkl:k<(v7 w).length:=hk7;have:=OF w hk7;rw[List.getElem?_map,List.getElem?_eq_getElem hkl];show some (eR ((v7 w)[k]'hk7))=some (eR (eJ w k));rw[this]
    have hc:decide ((k:Int)<(((v7 w).map eR).length:Int))=true:=al;have hsucc:=wA w hlt;repeat'(first|refine awz ?_|fail)
    (refine aaJ aM 9 10 pg pm ae ae ae rfl ?_;conv=>whnf)
    repeat'((first|refine awz ?_|refine aaG k _ rfl hget ?_|refine aaM hlt ?_|refine cP (Gj bW[k] hn5 (eJ w k) hg) ?_|refine KL ax ?_|refine aaH ac ac ?_|fail)<;>conv=>whnf)
    refine a8.mk ⟨k+1,hlt,ac,?_,sbW⟩;rw[hsucc];exact hds
   ·have e7:k=7:=ac;subst e7;have hc:decide (((7:Nat):Int)<(((v7 w).map eR).length:Int))=false:=by simp[h7r]
    repeat'(first|refine awz ?_|exact rr|fail)
end Go.Proofs.YthgkdhnlehneeaaGreatDoor
