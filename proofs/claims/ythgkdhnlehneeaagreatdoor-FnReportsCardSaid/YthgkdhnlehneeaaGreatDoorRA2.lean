/- RA2 -/
import Derived.Test.YthgkdhnlehneeaaGreatDoorWC2
set_option maxHeartbeats 8000000
set_option linter.unusedVariables false
set_option linter.unusedSimpArgs false
set_option maxRecDepth 100000
namespace Go.Proofs.YthgkdhnlehneeaaGreatDoor
open Go.Proofs.Tryz
open Go.ChangeShapes Go.WideShapes Go.RowKit
variable {l:List Int}
def qS:List (List Nat):=bC [0,1,0,3,0,5,0,7,2121986,0,10,11,49929,0xd30b28920718510308134d]
def tn:List (List Nat):=bC [0,1,0,3,0,5,388,8642,0x207185103081208]
def jA:List (List Nat):=bC [0,1,129,0,4,324,0,7,519,0,10,714,0,13,909,0x30421841491c830a2cf34e,0,0x1140e34f2ca3081c9144182043]
def jC:List (List Nat):=dW 17 [100442322,100442323,100442326,100441646,100441673,100441754,100423394,100424123,100426310,99930590,99950273,100009322,86624882,87156323,88750646,93267895,43046720]
theorem bm{n:Nat}:∀{l:List Int},l.length=n+1->∃a r,l=a::r/\r.length=n
 |[],h=>by cases h
 |a::r,h=>⟨a,r,rfl,by simpa using h⟩
theorem Ff(h0:l.length=5):∃a b c d e,l=[a,b,c,d,e]:=by
 obtain⟨a,r1,rfl,h1⟩:=bm h0;obtain⟨b,r2,rfl,h2⟩:=bm h1;obtain⟨c,r3,rfl,h3⟩:=bm h2;obtain⟨d,r4,rfl,h4⟩:=bm h3;obtain⟨e,r5,rfl,h5⟩:=bm h4;obtain rfl:=List.eq_nil_of_length_eq_zero h5;exact⟨a,b,c,d,e,rfl⟩
theorem TP(h0:l.length=9):∃i t c s k a b x d,l=[i,t,c,s,k,a,b,x,d]:=by
 obtain⟨i,r1,rfl,h1⟩:=bm h0;obtain⟨t,r2,rfl,h2⟩:=bm h1;obtain⟨c,r3,rfl,h3⟩:=bm h2;obtain⟨s,r4,rfl,h4⟩:=bm h3;obtain⟨k,r5,rfl,h5⟩:=bm h4;obtain⟨a,r6,rfl,h6⟩:=bm h5;obtain⟨b,r7,rfl,h7⟩:=bm h6;obtain⟨x,r8,rfl,h8⟩:=bm h7;obtain⟨d,r9,rfl,h9⟩:=bm h8;obtain rfl:=List.eq_nil_of_length_eq_zero h9;exact⟨i,t,c,s,k,a,b,x,d,rfl⟩
theorem Od(h0:l.length=11):∃i t c s k a b x d y z,l=[i,t,c,s,k,a,b,x,d,y,z]:=by
 obtain⟨i,r1,rfl,h1⟩:=bm h0;obtain⟨t,r2,rfl,h2⟩:=bm h1;obtain⟨c,r3,rfl,h3⟩:=bm h2;obtain⟨s,r4,rfl,h4⟩:=bm h3;obtain⟨k,r5,rfl,h5⟩:=bm h4;obtain⟨a,r6,rfl,h6⟩:=bm h5;obtain⟨b,r7,rfl,h7⟩:=bm h6;obtain⟨x,r8,rfl,h8⟩:=bm h7;obtain⟨d,r9,rfl,h9⟩:=bm h8;obtain⟨y,r10,rfl,h10⟩:=bm h9;obtain⟨z,r11,rfl,h11⟩:=bm h10;obtain rfl:=List.eq_nil_of_length_eq_zero h11;exact⟨i,t,c,s,k,a,b,x,d,y,z,rfl⟩
theorem JZ(h0:l.length=13):∃n b t u v w p q s g f x y,l=[n,b,t,u,v,w,p,q,s,g,f,x,y]:=by
 obtain⟨n,r1,rfl,h1⟩:=bm h0;obtain⟨b,r2,rfl,h2⟩:=bm h1;obtain⟨t,r3,rfl,h3⟩:=bm h2;obtain⟨u,r4,rfl,h4⟩:=bm h3;obtain⟨v,r5,rfl,h5⟩:=bm h4;obtain⟨w,r6,rfl,h6⟩:=bm h5;obtain⟨p,r7,rfl,h7⟩:=bm h6;obtain⟨q,r8,rfl,h8⟩:=bm h7;obtain⟨s,r9,rfl,h9⟩:=bm h8;obtain⟨g,r10,rfl,h10⟩:=bm h9;obtain⟨f,r11,rfl,h11⟩:=bm h10;obtain⟨x,r12,rfl,h12⟩:=bm h11;obtain⟨y,r13,rfl,h13⟩:=bm h12;obtain rfl:=List.eq_nil_of_length_eq_zero h13;exact⟨n,b,t,u,v,w,p,q,s,g,f,x,y,rfl⟩
def WA:aO:=⟨0,0,0,0,⟨0,0,0,0,0⟩⟩
def BB(o:Option aO):AP:= .tup [.agg (o.getD WA).ds,.one (dB o.isSome)]
def pOp(o:Option DOp):AP:= .tup [.agg (o.getD ⟨0,0,0,0,0⟩).ds,.one (dB o.isSome)]
def qx(l:List Int):Option DOp:=match l with
 |[k,a,b,c,d]=>if m9 ⟨k,a,b,c,d⟩then some ⟨k,a,b,c,d⟩else none
 |_=>none
theorem FX(o:DOp)(h:m9 o=true):aN av 445 [.agg o.ds] (.val (.one (.sl ((opL o).map eI)))):=by
 have n1:(!m9 o)=false:=by rw[h];rfl
 refine pO func445 call445 ntmps445 results445 λS=>?_;conv=>whnf
 repeat'(first|refine awz ?_|(refine cP (iQ o) ?_;conv=>whnf)|exact rZ|fail)
theorem CN(e:aO)(h:bL e=true):dd av 422 [.agg (e.ds.map .d)] [] [(15,.row 2 1 ((yG e).map eI))] [] (.val (.one (.own 15))):=by
 have n1:(!bL e)=false:=by rw[h];rfl
 have ho:=(fI h).2.2.2.2;refine cH aM func422 rfl call422 ntmps422 (ace results422) rfl λS pv=>?_;conv=>whnf
 repeat'(first|refine awz ?_|(refine cP (bP e) ?_;conv=>whnf)|fail)
 (refine aaL aM 3 (tkc [0,1,2,3,4,5,6,7,9,10] (.two 8 (.one 11 (.one 12 (.take 13 .done))) 11 (.one 8 (.one 12 (.take 13 .done))))) [(1,9980)] qS ae ae ae ae (λRz=>?_);(conv=>whnf);intro bp0 up0;(conv=>whnf))
 repeat'((first|refine awz ?_|refine cP (FX e.op ho) ?_|refine aW (by first|(intro y hy;obtain⟨a,_,rfl⟩:=List.mem_map.1 hy;rfl)|(simp;done)) ?_|refine a7 (by simp only[List.length_map,List.length_nil,List.length_append,List.length_cons,List.length_take,opL,yG]<;>omega) ?_|exact rZ|refine tW ?_ ?_|fail)<;>conv=>whnf)
 done
theorem yX(e:aO):aN av 385 [.agg e.ds] (.val (.one (.sl ((fP e).map eI)))):=by
 cases h:bL e with
 |false=>
  have n1:(!bL e)=true:=by rw[h];rfl
  have e1:fP e=[]:=by simp[fP,h]
  rw[e1];refine pO func385 call385 ntmps385 results385 λS=>?_;conv=>whnf
  repeat'(first|refine awz ?_|(refine cP (bP e) ?_;conv=>whnf)|exact rZ|fail)
 |true=>
  have n1:(!bL e)=false:=by rw[h];rfl
  have e1:fP e=yG e++[e.index,e.index]:=by simp[fP,h]
  rw[e1];refine pO func385 call385 ntmps385 results385 λS=>?_;conv=>whnf
  repeat'(first|refine awz ?_|(refine cP (bP e) ?_;conv=>whnf)|fail)
  (refine aaL aM 3 (tkc [0,2,3,4,5] (.two 1 (.one 6 (.one 7 (.take 8 .done))) 6 (.one 1 (.one 7 (.take 8 .done))))) [(1,9980)] tn ae ae ae ae (λRz=>?_);(conv=>whnf);intro bp0 up0;(conv=>whnf))
  repeat'((first|refine awz ?_|refine aaI (CN e h) [(15,915)] rfl rfl ?_|refine a7 (by simp only[List.length_map,List.length_nil,List.length_append,List.length_cons,List.length_take,opL,yG]<;>omega) ?_|exact rZ|refine tW ?_ ?_|fail)<;>conv=>whnf)
  done
theorem MY(l:List Int):aN av 417 [.one (.sl (l.map eI))] (pOp (qx l)):=by
 by_cases hl:l.length=5
 ·obtain⟨k,a,b,c,d,rfl⟩:=Ff hl;cases ho:m9 ⟨k,a,b,c,d⟩with
  |false=>
   have n1:(!m9 ⟨k,a,b,c,d⟩)=true:=by rw[ho];rfl
   have e:qx [k,a,b,c,d]=none:=by simp[qx,ho]
   rw[e];unfold pOp;refine pO func417 call417 ntmps417 results417 λS=>?_;conv=>whnf
   repeat'(first|refine awz ?_|fail)
   (refine aaJ aM 3 17 jA jC ae ae ae rfl ?_;conv=>whnf)
   repeat'((first|refine awz ?_|refine aaG 0 _ rfl rfl ?_|refine aaG 1 _ rfl rfl ?_|refine aaG 2 _ rfl rfl ?_|refine aaG 3 _ rfl rfl ?_|refine aaG 4 _ rfl rfl ?_|refine cP (iQ ⟨k,a,b,c,d⟩) ?_|exact rZ|fail)<;>conv=>whnf)
  |true=>
   have n1:(!m9 ⟨k,a,b,c,d⟩)=false:=by rw[ho];rfl
   have e:qx [k,a,b,c,d]=some ⟨k,a,b,c,d⟩:=by simp[qx,ho]
   rw[e];unfold pOp;refine pO func417 call417 ntmps417 results417 λS=>?_;conv=>whnf
   repeat'(first|refine awz ?_|fail)
   (refine aaJ aM 3 17 jA jC ae ae ae rfl ?_;conv=>whnf)
   repeat'((first|refine awz ?_|refine aaG 0 _ rfl rfl ?_|refine aaG 1 _ rfl rfl ?_|refine aaG 2 _ rfl rfl ?_|refine aaG 3 _ rfl rfl ?_|refine aaG 4 _ rfl rfl ?_|refine cP (iQ ⟨k,a,b,c,d⟩) ?_|exact rZ|fail)<;>conv=>whnf)
 ·have n1:(((l.map eI).length:Int) !=5)=true:=by simp only[List.length_map,bne_iff_ne,ne_eq];omega
  have e:qx l=none:=by
   unfold qx;split
   ·exact absurd rfl hl
   ·rfl
  rw[e];unfold pOp;refine pO func417 call417 ntmps417 results417 λS=>?_;conv=>whnf
  repeat'(first|refine awz ?_|exact rZ|fail)
end Go.Proofs.YthgkdhnlehneeaaGreatDoor
