/- K18 -/
import Derived.Test.YtpdmakdpnejnfaaGreatMkE
import Derived.Test.YtpdmakdpnejnfaaGreatK29
set_option maxHeartbeats 8000000
set_option linter.unusedVariables false
set_option linter.unusedSimpArgs false
set_option maxRecDepth 100000
open List (getElem?_append_left getElem?_append_right getElem?_drop getElem?_eq_getElem getElem?_map getElem?_take length_append length_cons length_drop length_map length_nil length_take map_append mem_map mem_of_getElem?)
open Nat (zero_add zero_le)
open Option (map_eq_some_iff)
namespace Go.Proofs.YtpdmakdpnejnfaaGreat
section
open Go.Proofs.Tryz
open Go.ChangeShapes Go.WideShapes Go.RowKit
variable {l m:List Int}{k:Nat}
def qK:List (List Nat):=cz [0,1,0,3,0,5,0,7,2121986,0,10,11,49929,0xd30b28920718510308134d]
def lw:List (List Nat):=cz [0,1,0,3,0,5,388,8642,0x207185103081208]
def ne:List (List Nat):=cz [0,1,129,0,4,324,0,7,519,0,10,714,0,13,909,0x30421841491c830a2cf34e,0,0x1140e34f2ca3081c9144182043]
def nf:List (List Nat):=eK 17 [100442322,100442323,100442326,100441646,100441673,100441754,100423394,100424123,100426310,99930590,99950273,100009322,86624882,87156323,88750646,93267895,43046720]
theorem bL{n:Nat}:∀{l:List Int},l.length=n+1->∃a r,l=a::r/\r.length=n
 |[],h=>by cases h
 |a::r,h=>⟨a,r,rfl,by simpa using h⟩
theorem QI(h0:l.length=5):∃a b c d e,l=[a,b,c,d,e]:=by
 obtain⟨a,r1,rfl,h1⟩:=bL h0;obtain⟨b,r2,rfl,h2⟩:=bL h1;obtain⟨c,r3,rfl,h3⟩:=bL h2;obtain⟨d,r4,rfl,h4⟩:=bL h3;obtain⟨e,r5,rfl,h5⟩:=bL h4;obtain rfl:=List.eq_nil_of_length_eq_zero h5;exact⟨a,b,c,d,e,rfl⟩
theorem J8(h0:l.length=9):∃i t c s k a b x d,l=[i,t,c,s,k,a,b,x,d]:=by
 obtain⟨i,r1,rfl,h1⟩:=bL h0;obtain⟨t,r2,rfl,h2⟩:=bL h1;obtain⟨c,r3,rfl,h3⟩:=bL h2;obtain⟨s,r4,rfl,h4⟩:=bL h3;obtain⟨k,r5,rfl,h5⟩:=bL h4;obtain⟨a,r6,rfl,h6⟩:=bL h5;obtain⟨b,r7,rfl,h7⟩:=bL h6;obtain⟨x,r8,rfl,h8⟩:=bL h7;obtain⟨d,r9,rfl,h9⟩:=bL h8;obtain rfl:=List.eq_nil_of_length_eq_zero h9;exact⟨i,t,c,s,k,a,b,x,d,rfl⟩
theorem Dj(h0:l.length=11):∃i t c s k a b x d y z,l=[i,t,c,s,k,a,b,x,d,y,z]:=by
 obtain⟨i,r1,rfl,h1⟩:=bL h0;obtain⟨t,r2,rfl,h2⟩:=bL h1;obtain⟨c,r3,rfl,h3⟩:=bL h2;obtain⟨s,r4,rfl,h4⟩:=bL h3;obtain⟨k,r5,rfl,h5⟩:=bL h4;obtain⟨a,r6,rfl,h6⟩:=bL h5;obtain⟨b,r7,rfl,h7⟩:=bL h6;obtain⟨x,r8,rfl,h8⟩:=bL h7;obtain⟨d,r9,rfl,h9⟩:=bL h8;obtain⟨y,r10,rfl,h10⟩:=bL h9;obtain⟨z,r11,rfl,h11⟩:=bL h10;obtain rfl:=List.eq_nil_of_length_eq_zero h11;exact⟨i,t,c,s,k,a,b,x,d,y,z,rfl⟩
theorem yt(h0:l.length=13):∃n b t u v w p q s g f x y,l=[n,b,t,u,v,w,p,q,s,g,f,x,y]:=by
 obtain⟨n,r1,rfl,h1⟩:=bL h0;obtain⟨b,r2,rfl,h2⟩:=bL h1;obtain⟨t,r3,rfl,h3⟩:=bL h2;obtain⟨u,r4,rfl,h4⟩:=bL h3;obtain⟨v,r5,rfl,h5⟩:=bL h4;obtain⟨w,r6,rfl,h6⟩:=bL h5;obtain⟨p,r7,rfl,h7⟩:=bL h6;obtain⟨q,r8,rfl,h8⟩:=bL h7;obtain⟨s,r9,rfl,h9⟩:=bL h8;obtain⟨g,r10,rfl,h10⟩:=bL h9;obtain⟨f,r11,rfl,h11⟩:=bL h10;obtain⟨x,r12,rfl,h12⟩:=bL h11;obtain⟨y,r13,rfl,h13⟩:=bL h12;obtain rfl:=List.eq_nil_of_length_eq_zero h13;exact⟨n,b,t,u,v,w,p,q,s,g,f,x,y,rfl⟩
def Qj:DEntry:=⟨0,0,0,0,⟨0,0,0,0,0⟩⟩
def ld(o:Option DEntry):AP:= .tup [.agg (o.getD Qj).ds,.one (dB o.isSome)]
def pOp(o:Option DOp):AP:= .tup [.agg (o.getD ⟨0,0,0,0,0⟩).ds,.one (dB o.isSome)]
def uS(l:List Int):Option DOp:=match l with
 |[k,a,b,c,d]=>if xm ⟨k,a,b,c,d⟩then some ⟨k,a,b,c,d⟩else none
 |_=>none
theorem KZ(o:DOp)(h:xm o=true):aL av 363 [.agg o.ds] (.val (.one (.sl ((opL o).map eI)))):=by
 have n1:(!xm o)=false:=by rw[h];rfl
 refine pO func363 call363 ntmps363 results363 λS=>?_;conv=>whnf
 repeat'(first|refine awz ?_|(refine cP (jZ o) ?_;conv=>whnf)|exact rZ|fail)
theorem KT(e:DEntry)(h:cj e=true):gc av 305 [.agg (e.ds.map .d)] [] [(15,.row 2 1 ((pi e).map eI))] [] (.val (.one (.own 15))):=by
 have n1:(!cj e)=false:=by rw[h];rfl
 have ho:=(kt h).2.2.2.2;refine dq aM func305 rfl call305 ntmps305 (aaX results305) rfl λS pv=>?_;conv=>whnf
 repeat'(first|refine awz ?_|(refine cP (cy e) ?_;conv=>whnf)|fail)
 (refine XF aM 3 (tkc [0,1,2,3,4,5,6,7,9,10] (.two 8 (.one 11 (.one 12 (.take 13 .done))) 11 (.one 8 (.one 12 (.take 13 .done))))) [(1,9980)] qK ac ac ac ac (λRz=>?_);(conv=>whnf);intro bp0 up0;(conv=>whnf))
 repeat'((first|refine awz ?_|refine cP (KZ e.op ho) ?_|refine aY (by first|(intro y hy;obtain⟨a,_,rfl⟩:=mem_map.1 hy;rfl)|(simp;done)) ?_|refine bc (by simp only[length_map,length_nil,length_append,length_cons,length_take,opL,pi]<;>omega) ?_|exact rZ|refine tW ?_ ?_|fail)<;>conv=>whnf)
 done
theorem D4(e:DEntry):aL av 238 [.agg e.ds] (.val (.one (.sl ((bx e).map eI)))):=by
 cases h:cj e with
 |false=>
  have n1:(!cj e)=true:=by rw[h];rfl
  have e1:bx e=[]:=by simp[bx,h]
  rw[e1];refine pO func238 call238 ntmps238 results238 λS=>?_;conv=>whnf
  repeat'(first|refine awz ?_|(refine cP (cy e) ?_;conv=>whnf)|exact rZ|fail)
 |true=>
  have n1:(!cj e)=false:=by rw[h];rfl
  have e1:bx e=pi e++[e.index,e.index]:=by simp[bx,h]
  rw[e1];refine pO func238 call238 ntmps238 results238 λS=>?_;conv=>whnf
  repeat'(first|refine awz ?_|(refine cP (cy e) ?_;conv=>whnf)|fail)
  (refine XF aM 3 (tkc [0,2,3,4,5] (.two 1 (.one 6 (.one 7 (.take 8 .done))) 6 (.one 1 (.one 7 (.take 8 .done))))) [(1,9980)] lw ac ac ac ac (λRz=>?_);(conv=>whnf);intro bp0 up0;(conv=>whnf))
  repeat'((first|refine awz ?_|refine XE (KT e h) [(15,915)] rfl rfl ?_|refine bc (by simp only[length_map,length_nil,length_append,length_cons,length_take,opL,pi]<;>omega) ?_|exact rZ|refine tW ?_ ?_|fail)<;>conv=>whnf)
  done
theorem Rf(l:List Int):aL av 437 [.one (.sl (l.map eI))] (pOp (uS l)):=by
 by_cases hl:l.length=5
 ·obtain⟨k,a,b,c,d,rfl⟩:=QI hl;cases ho:xm ⟨k,a,b,c,d⟩with
  |false=>
   have n1:(!xm ⟨k,a,b,c,d⟩)=true:=by rw[ho];rfl
   have e:uS [k,a,b,c,d]=none:=by simp[uS,ho]
   rw[e];unfold pOp;refine pO func437 call437 ntmps437 results437 λS=>?_;conv=>whnf
   repeat'(first|refine awz ?_|fail)
   (refine XB aM 3 17 ne nf ac ac ac rfl ?_;conv=>whnf)
   repeat'((first|refine awz ?_|refine Xw 0 _ rfl rfl ?_|refine Xw 1 _ rfl rfl ?_|refine Xw 2 _ rfl rfl ?_|refine Xw 3 _ rfl rfl ?_|refine Xw 4 _ rfl rfl ?_|refine cP (jZ ⟨k,a,b,c,d⟩) ?_|exact rZ|fail)<;>conv=>whnf)
  |true=>
   have n1:(!xm ⟨k,a,b,c,d⟩)=false:=by rw[ho];rfl
   have e:uS [k,a,b,c,d]=some ⟨k,a,b,c,d⟩:=by simp[uS,ho]
   rw[e];unfold pOp;refine pO func437 call437 ntmps437 results437 λS=>?_;conv=>whnf
   repeat'(first|refine awz ?_|fail)
   (refine XB aM 3 17 ne nf ac ac ac rfl ?_;conv=>whnf)
   repeat'((first|refine awz ?_|refine Xw 0 _ rfl rfl ?_|refine Xw 1 _ rfl rfl ?_|refine Xw 2 _ rfl rfl ?_|refine Xw 3 _ rfl rfl ?_|refine Xw 4 _ rfl rfl ?_|refine cP (jZ ⟨k,a,b,c,d⟩) ?_|exact rZ|fail)<;>conv=>whnf)
 ·have n1:(((l.map eI).length:Int) !=5)=true:=by simp only[length_map,bne_iff_ne,ne_eq];omega
  have e:uS l=none:=by
   unfold uS;split
   ·exact absurd rfl hl
   ·rfl
  rw[e];unfold pOp;refine pO func437 call437 ntmps437 results437 λS=>?_;conv=>whnf
  repeat'(first|refine awz ?_|exact rZ|fail)
def qN:List (List Nat):=cz [0,0,0,194,4,0,0,7,518,9,645,11,769,0xd30b28920718510308134d]
def pG:List (List Nat):=cz [0,0,0,194,4,0,0,7,518,9,0,0,12,843,14,0,0,17,1168,19,0,0,22,1493,24,424735365,26,1729,0x71b69961759551349140f38d30b28920718510308171c]
theorem oh{i:Nat}(h:i<m.length)(x:Int):((x::m).map eI)[i+1]? =some (eI (m.getD i 0)):=by
 rw[List.getElem?_map,List.getElem?_cons_succ,List.getElem?_eq_getElem h,List.getD_eq_getElem?_getD,List.getElem?_eq_getElem h];rfl
def DH(o:Option (List DPair)):AP:= .tup [.one (.sl ((o.getD []).map DPair.ds)),.one (dB o.isSome)]
def Bw(m:List Int):Option (List DPair):=if da (dE m)then some (dE m)else none
theorem A8(hk:k<(dE m).length):((dE m).take (k+1)).map DPair.ds=((dE m).take k).map DPair.ds++[DPair.ds ((dE m)[k])]:=by
 rw[List.take_add_one,List.getElem?_eq_getElem hk,List.map_append];rfl
theorem K4(m:List Int)(n:Nat)(hn:n<=10)(hl:m.length=2*n):aL av 414 [.one (.sl (((n:Int)::m).map eI))] (DH (Bw m)):=by
 have hpl:(dE m).length=n:=by rw[ru,hl];omega
 have hln:((((n:Int)::m).map eI).length:Int)=1+2*(n:Int):=by simp[hl];omega
 have m1:(((((n:Int)::m).map eI).length:Int).tmod 2 !=1)=false:=by rw[hln,Int.tmod_eq_emod_of_nonneg aa];simp only[bne_eq_false_iff_eq];omega
 have m2:decide (((((n:Int)::m).map eI).length:Int)>1+2*10)=false:=by rw[hln];simp only[decide_eq_false_iff_not];omega
 have main:∀o:Option (List DPair),(da (dE m)=true->o=some (dE m))->(da (dE m)=false->o=none)->aL av 414 [.one (.sl (((n:Int)::m).map eI))] (DH o):=by
  intro o h1 h2;refine pO func414 call414 ntmps414 results414 λS=>?_;conv=>whnf
  repeat'(first|refine awz ?_|(refine And.intro ae ?_;conv=>whnf)|fail)
  refine XA (λk:Nat=>k<=n) (16::[4,5,17,18,19,20,21,22,23,24,25,26,27,28,29,30,31,32,33,34,35]) (λk=>[(4,.one (.own 16)),(5,vI .i64 (1+2*(k:Int)))]) (λk=>[(16,.row 320 2 (((dE m).take k).map DPair.ds))]) (λk=>n-k) 0 (Nat.zero_le _) ?_ sbW (λk hk=>?_)<;>(conv=>whnf)
  ·exact whd
  ·by_cases hlt:k<n
   ·have hc:decide (1+2*(k:Int)<((((n:Int)::m).map eI).length:Int))=true:=by rw[hln];simp only[decide_eq_true_eq];omega
    have hs:=A8 (m:=m) (k:=k) aa;have hel:(dE m)[k]'(aa)=(⟨m.getD (2*k) 0,m.getD (2*k+1) 0⟩:DPair):=by simp[dE]
    rw[hel]at hs;repeat'(first|refine awz ?_|fail)
    (refine XF aM 7 (tkc [0,1,2,3,4,5,6] (.one 7 (.take 8 (onc [9,10,11,12] (.take 13 .done))))) [] qN ac ac ac ac (λRz=>?_);(conv=>whnf))
    repeat'((first|refine awz ?_|refine Xw (2*k+1) _ aa (oh (i:=2*k) aa _) ?_|refine Xw (2*k+2) _ aa (oh (i:=2*k+1) aa _) ?_|refine bc aA ?_|refine Xz aa aa ?_|fail)<;>conv=>whnf)
    all_goals
     refine aT.mk ⟨k+1,hlt,aa,?_,Xu (by rw[hs];rfl) Xv⟩;rw[show(1+2*((k+1:Nat):Int))=1+2*(k:Int)+2 by omega];exact hds
   ·have e:k=n:=aa;subst e;have hc:decide (1+2*(k:Int)<((((k:Int)::m).map eI).length:Int))=false:=by rw[hln];simp only[decide_eq_false_iff_not];omega
    have n3:((k:Int) !=(((dE m).map DPair.ds).length:Int))=false:=by simp[hpl]
    rw[List.take_of_length_le aa];cases hp:da (dE m)with
    |false=>
     have n4:(!da (dE m))=true:=by rw[hp];rfl
     obtain rfl:=h2 hp;unfold DH;repeat'((first|refine awz ?_|refine Xw 0 _ rfl rfl ?_|refine aG.scalar (gX (dE m)) rfl rfl ?_|exact rZ|fail)<;>conv=>whnf)
    |true=>
     have n4:(!da (dE m))=false:=by rw[hp];rfl
     obtain rfl:=h1 hp;unfold DH;repeat'((first|refine awz ?_|refine Xw 0 _ rfl rfl ?_|refine aG.scalar (gX (dE m)) rfl rfl ?_|exact rZ|fail)<;>conv=>whnf)
 exact main _ (λh=>by simp[Bw,h]) (λh=>by simp[Bw,h])
def KF(o:Option (List DJob)):AP:= .tup [.one (.sl ((o.getD []).map DJob.ds)),.one (dB o.isSome)]
def Ip(m:List Int):Option (List DJob):=if dA (eM m)then some (eM m)else none
theorem Es(hk:k<(eM m).length):((eM m).take (k+1)).map DJob.ds=((eM m).take k).map DJob.ds++[DJob.ds ((eM m)[k])]:=by
 rw[List.take_add_one,List.getElem?_eq_getElem hk,List.map_append];rfl
theorem IC(m:List Int)(n:Nat)(hn:n<=8)(hl:m.length=5*n):aL av 415 [.one (.sl (((n:Int)::m).map eI))] (KF (Ip m)):=by
 have hpl:(eM m).length=n:=by rw[Gp,hl];omega
 have hln:((((n:Int)::m).map eI).length:Int)=1+5*(n:Int):=by simp[hl];omega
 have m1:(((((n:Int)::m).map eI).length:Int).tmod 5 !=1)=false:=by rw[hln,Int.tmod_eq_emod_of_nonneg aa];simp only[bne_eq_false_iff_eq];omega
 have m2:decide (((((n:Int)::m).map eI).length:Int)>1+5*8)=false:=by rw[hln];simp only[decide_eq_false_iff_not];omega
 have main:∀o:Option (List DJob),(dA (eM m)=true->o=some (eM m))->(dA (eM m)=false->o=none)->aL av 415 [.one (.sl (((n:Int)::m).map eI))] (KF o):=by
  intro o h1 h2;refine pO func415 call415 ntmps415 results415 λS=>?_;conv=>whnf
  repeat'(first|refine awz ?_|(refine And.intro ae ?_;conv=>whnf)|fail)
  refine XA (λk:Nat=>k<=n) (16::[4,5,17,18,19,20,21,22,23,24,25,26,27,28,29,30,31,32,33,34,35,36,37,38,39,40,41,42,43,44,45,46,47,48,49,50]) (λk=>[(4,.one (.own 16)),(5,vI .i64 (1+5*(k:Int)))]) (λk=>[(16,.row 324 5 (((eM m).take k).map DJob.ds))]) (λk=>n-k) 0 (Nat.zero_le _) ?_ sbW (λk hk=>?_)<;>(conv=>whnf)
  ·exact whd
  ·by_cases hlt:k<n
   ·have hc:decide (1+5*(k:Int)<((((n:Int)::m).map eI).length:Int))=true:=by rw[hln];simp only[decide_eq_true_eq];omega
    have hs:=Es (m:=m) (k:=k) aa;have hel:(eM m)[k]'(aa)=(⟨m.getD (5*k) 0,m.getD (5*k+1) 0,m.getD (5*k+2) 0,m.getD (5*k+3) 0,m.getD (5*k+4) 0⟩:DJob):=by simp[eM]
    rw[hel]at hs;repeat'(first|refine awz ?_|fail)
    (refine XF aM 7 (tkc [0,1,2,3,4,5,6,7,8,9,10,11,12,13,14,15,16,17,18,19,20,21,22,23,24] (onc [25,26,27] (.take 28 .done))) [] pG ac ac ac ac (λRz=>?_);(conv=>whnf))
    repeat'((first|refine awz ?_|refine Xw (5*k+1) _ aa (oh (i:=5*k) aa _) ?_|refine Xw (5*k+2) _ aa (oh (i:=5*k+1) aa _) ?_|refine Xw (5*k+3) _ aa (oh (i:=5*k+2) aa _) ?_|refine Xw (5*k+4) _ aa (oh (i:=5*k+3) aa _) ?_|refine Xw (5*k+5) _ aa (oh (i:=5*k+4) aa _) ?_|refine bc aA ?_|refine Xz aa aa ?_|fail)<;>conv=>whnf)
    all_goals
     refine aT.mk ⟨k+1,hlt,aa,?_,Xu (by rw[hs];rfl) Xv⟩;rw[show(1+5*((k+1:Nat):Int))=1+5*(k:Int)+5 by omega];exact hds
   ·have e:k=n:=aa;subst e;have hc:decide (1+5*(k:Int)<((((k:Int)::m).map eI).length:Int))=false:=by rw[hln];simp only[decide_eq_false_iff_not];omega
    have n3:((k:Int) !=(((eM m).map DJob.ds).length:Int))=false:=by simp[hpl]
    rw[List.take_of_length_le aa];cases hp:dA (eM m)with
    |false=>
     have n4:(!dA (eM m))=true:=by rw[hp];rfl
     obtain rfl:=h2 hp;unfold KF;repeat'((first|refine awz ?_|refine Xw 0 _ rfl rfl ?_|refine aG.scalar (iS (eM m)) rfl rfl ?_|exact rZ|fail)<;>conv=>whnf)
    |true=>
     have n4:(!dA (eM m))=false:=by rw[hp];rfl
     obtain rfl:=h1 hp;unfold KF;repeat'((first|refine awz ?_|refine Xw 0 _ rfl rfl ?_|refine aG.scalar (iS (eM m)) rfl rfl ?_|exact rZ|fail)<;>conv=>whnf)
 exact main _ (λh=>by simp[Ip,h]) (λh=>by simp[Ip,h])
def iA:List (List Nat):=cz [0,1,129,0,4,324,0,7,519,0,10,714,0,0x30421841491c830a2cd,0,0xf38d2ca3081c9144182043]
def iB:List (List Nat):=eK 15 [11160234,11160235,11160238,11159558,11159585,11159666,11141306,11142035,11144222,10648502,10668185,10727234,10097378,10363099,4782968]
def dd:List (List Nat):=cz [0,1,129,12354,1056835,84676740,6510088389,1056835,135008388,9731313864,0x1c50c108418a209,0x40810cb248286147,0x30714628824b0c1084,0xd1020432c920a1851cc,0x38c1c518a2092c304210d,0xf3440810cb24828614730e,0xd1020432c920a1851cc,0x44c1c518a2092c304210d,0x123440810cb248286147311,0x1038c1c518a2092c304210d3d3452,0x3440810cb2482861473144914cf390]
def de:List (List Nat):=eK 19 [0,1,4,13,56902,56983,57226,2146,4333,10894,29524,88573,265720,1120011907,1121606230,1126389199,42249559,85296280,214436443]
theorem yE(h:l.length≠9):eF l=none:=by
 unfold eF;split
 ·exact absurd rfl h
 ·rfl
theorem AN(h:l.length≠11):ez l=none:=by
 unfold ez;split
 ·exact absurd rfl h
 ·rfl
theorem AM(h:l.length≠13):iG l=none:=by
 unfold iG;split
 ·exact absurd rfl h
 ·rfl
theorem K2(l:List Int):aL av 412 [.one (.sl (l.map eI))] (ld (eF l)):=by
 by_cases hl:l.length=9
 ·obtain⟨i,t,c,s,k,a,b,x,d,rfl⟩:=J8 hl;have ro:=Rf [k,a,b,x,d];cases ho:xm ⟨k,a,b,x,d⟩with
  |false=>
   have e:eF [i,t,c,s,k,a,b,x,d]=none:=by simp[eF,cj,ho]
   have e2:uS [k,a,b,x,d]=none:=by simp[uS,ho]
   rw[e2]at ro;rw[e];unfold ld;refine pO func412 call412 ntmps412 results412 λS=>?_;conv=>whnf
   repeat'((first|refine awz ?_|refine⟨4,9,rfl,rfl,by decide,ah,(by intro y hy;obtain⟨a,_,rfl⟩:=mem_map.1 hy;rfl),?_⟩|refine cP (ro) ?_|fail)<;>conv=>whnf)
   (refine XB aM 4 15 iA iB ac ac ac rfl ?_;conv=>whnf)
   repeat'((first|refine awz ?_|refine Xw 0 _ rfl rfl ?_|refine Xw 1 _ rfl rfl ?_|refine Xw 2 _ rfl rfl ?_|refine Xw 3 _ rfl rfl ?_|exact rZ|fail)<;>conv=>whnf)
  |true=>
   have e2:uS [k,a,b,x,d]=some ⟨k,a,b,x,d⟩:=by simp[uS,ho]
   rw[e2]at ro;cases he:cj ⟨i,t,c,s,⟨k,a,b,x,d⟩⟩with
   |false=>
    have n1:(!cj ⟨i,t,c,s,⟨k,a,b,x,d⟩⟩)=true:=by rw[he];rfl
    have e:eF [i,t,c,s,k,a,b,x,d]=none:=by simp[eF,he]
    rw[e];unfold ld;refine pO func412 call412 ntmps412 results412 λS=>?_;conv=>whnf
    repeat'((first|refine awz ?_|refine⟨4,9,rfl,rfl,by decide,ah,(by intro y hy;obtain⟨a,_,rfl⟩:=mem_map.1 hy;rfl),?_⟩|refine cP (ro) ?_|fail)<;>conv=>whnf)
    (refine XB aM 4 15 iA iB ac ac ac rfl ?_;conv=>whnf)
    repeat'((first|refine awz ?_|refine Xw 0 _ rfl rfl ?_|refine Xw 1 _ rfl rfl ?_|refine Xw 2 _ rfl rfl ?_|refine Xw 3 _ rfl rfl ?_|refine cP (cy ⟨i,t,c,s,⟨k,a,b,x,d⟩⟩) ?_|exact rZ|fail)<;>conv=>whnf)
   |true=>
    have n1:(!cj ⟨i,t,c,s,⟨k,a,b,x,d⟩⟩)=false:=by rw[he];rfl
    have e:eF [i,t,c,s,k,a,b,x,d]=some ⟨i,t,c,s,⟨k,a,b,x,d⟩⟩:=by simp[eF,he]
    rw[e];unfold ld;refine pO func412 call412 ntmps412 results412 λS=>?_;conv=>whnf
    repeat'((first|refine awz ?_|refine⟨4,9,rfl,rfl,by decide,ah,(by intro y hy;obtain⟨a,_,rfl⟩:=mem_map.1 hy;rfl),?_⟩|refine cP (ro) ?_|fail)<;>conv=>whnf)
    (refine XB aM 4 15 iA iB ac ac ac rfl ?_;conv=>whnf)
    repeat'((first|refine awz ?_|refine Xw 0 _ rfl rfl ?_|refine Xw 1 _ rfl rfl ?_|refine Xw 2 _ rfl rfl ?_|refine Xw 3 _ rfl rfl ?_|refine cP (cy ⟨i,t,c,s,⟨k,a,b,x,d⟩⟩) ?_|exact rZ|fail)<;>conv=>whnf)
 ·have n1:(((l.map eI).length:Int) !=9)=true:=by simp only[length_map,bne_iff_ne,ne_eq];omega
  rw[yE hl];unfold ld;refine pO func412 call412 ntmps412 results412 λS=>?_;conv=>whnf
  repeat'(first|refine awz ?_|exact rZ|fail)
theorem MY(l:List Int):aL av 361 [.one (.sl (l.map eI))] (ld (ez l)):=by
 by_cases hl:l.length=11
 ·obtain⟨i,t,c,s,k,a,b,x,d,y,z,rfl⟩:=Dj hl;have re:=K2 [i,t,c,s,k,a,b,x,d];by_cases hy:y=i
  ·have n1:(y !=i)=false:=by simpa using hy
   by_cases hz:z=i
   ·have n2:(z !=i)=false:=by simpa using hz
    have e:ez [i,t,c,s,k,a,b,x,d,y,z]=eF [i,t,c,s,k,a,b,x,d]:=by simp[ez,eF,hy,hz]
    rw[e];unfold ld at re⊢;refine pO func361 call361 ntmps361 results361 λS=>?_;conv=>whnf
    repeat'(first|refine awz ?_|fail)
    (refine XB aM 1 19 dd de ac ac ac rfl ?_;conv=>whnf)
    repeat'((first|refine awz ?_|refine Xw 0 _ rfl rfl ?_|refine Xw 9 _ rfl rfl ?_|refine Xw 10 _ rfl rfl ?_|refine⟨0,9,rfl,rfl,by decide,ah,(by intro y hy;obtain⟨a,_,rfl⟩:=mem_map.1 hy;rfl),?_⟩|refine cP (re) ?_|exact rZ|fail)<;>conv=>whnf)
   ·have n2:(z !=i)=true:=by simpa using hz
    have e:ez [i,t,c,s,k,a,b,x,d,y,z]=none:=by simp[ez,hz]
    rw[e];unfold ld;refine pO func361 call361 ntmps361 results361 λS=>?_;conv=>whnf
    repeat'(first|refine awz ?_|fail)
    (refine XB aM 1 19 dd de ac ac ac rfl ?_;conv=>whnf)
    repeat'((first|refine awz ?_|refine Xw 0 _ rfl rfl ?_|refine Xw 9 _ rfl rfl ?_|refine Xw 10 _ rfl rfl ?_|exact rZ|fail)<;>conv=>whnf)
  ·have n1:(y !=i)=true:=by simpa using hy
   have e:ez [i,t,c,s,k,a,b,x,d,y,z]=none:=by simp[ez,hy]
   rw[e];unfold ld;refine pO func361 call361 ntmps361 results361 λS=>?_;conv=>whnf
   repeat'(first|refine awz ?_|fail)
   (refine XB aM 1 19 dd de ac ac ac rfl ?_;conv=>whnf)
   repeat'((first|refine awz ?_|refine Xw 0 _ rfl rfl ?_|refine Xw 9 _ rfl rfl ?_|exact rZ|fail)<;>conv=>whnf)
 ·have n1:(((l.map eI).length:Int) !=11)=true:=by simp only[length_map,bne_iff_ne,ne_eq];omega
  rw[AN hl];unfold ld;refine pO func361 call361 ntmps361 results361 λS=>?_;conv=>whnf
  repeat'(first|refine awz ?_|fail)
  (refine XB aM 1 19 dd de ac ac ac rfl ?_;conv=>whnf)
  repeat'(first|refine awz ?_|exact rZ|fail)
theorem zw(i:Int)(h:1<=i/\i<=2000):aL av 239 [pI i] (.val (pI (bW i))):=by
 have n1:(!aJ i 1 2000)=false:=by simp[aJ];omega
 have e:bW i=2+i.tmod 20:=by rw[bW,Int.tmod_eq_emod_of_nonneg aa]
 have hr:0<=i.tmod 20/\i.tmod 20<20:=by rw[Int.tmod_eq_emod_of_nonneg aa];omega
 rw[e];refine pO func239 call239 ntmps239 results239 λS=>?_;conv=>whnf
 repeat'((first|refine awz ?_|refine cP (jt i) ?_|refine And.intro ae ?_|refine Xz aa aa ?_|exact rZ|fail)<;>conv=>whnf)
theorem Pb(i:Int)(h:¬(1<=i/\i<=2000)):aL av 239 [pI i] (.val (pI (-1))):=by
 have n1:(!aJ i 1 2000)=true:=by simp[aJ];omega
 refine pO func239 call239 ntmps239 results239 λS=>?_;conv=>whnf
 repeat'(first|refine awz ?_|(refine cP (jt i) ?_;conv=>whnf)|exact rZ|fail)
def ms:List (List Nat):=cz [0,1,0,3,4,20802,26736222278022]
def w3:List (List Nat):=cz [0,1,2,0,4,5,0,7,8,0,10,11,0,13,14,254841219,0x103ce34c2ca2481c61440c2050]
def kJ:List (List Nat):=cz [0,1,2,0,4,5,0,7,8,0,10,11,0,13,14,254841219,0,0x4503ce34c2ca2481c61440c204f411]
def gk:List (List Nat):=cz [0,1,129,12354,1056835,84676740,12354,1843267,26665322041863,848970198831366,0x286105207242043,0xb0c10891c814418a,0x30a1841481c90810cb,0xd2c304224720510628c,0xb0c10891c814418a,0x3ca1841481c90810cb,0x38c2861052072420432cd40f,0xb0c10891c814418a44f40d30e]
def gn:List (List Nat):=eK 16 [0,1,4,5845,5872,5953,715,1444,3280,9841,29524,38352325,38529472,39060913,4694395,9477364]
theorem yh(o:DOp):aL av 431 [.agg o.ds] (.val (.one (.sl ((opL o).map eI)))):=by
 refine pO func431 call431 ntmps431 results431 λS=>?_;conv=>whnf
 repeat'(first|refine awz ?_|exact rZ|fail)
theorem MC(e:DEntry):gc av 402 [.agg (e.ds.map .d)] [] [(14,.row 2 1 ((pi e).map eI))] [] (.val (.one (.own 14))):=by
 refine dq aM func402 rfl call402 ntmps402 (aaX results402) rfl λS pv=>?_;conv=>whnf
 repeat'(first|refine awz ?_|fail)
 (refine XF aM 2 (tkc [0,1,2,3] (.one 4 (.one 5 (.take 6 .done)))) [(3,9980)] ms ac ac ac ac (λRz=>?_);(conv=>whnf);intro bp0 up0;(conv=>whnf))
 repeat'((first|refine awz ?_|refine cP (yh e.op) ?_|refine aY (by first|(intro y hy;obtain⟨a,_,rfl⟩:=mem_map.1 hy;rfl)|(simp;done)) ?_|refine bc (by simp only[length_map,length_nil,length_append,length_cons,length_take,opL,pi]<;>omega) ?_|exact rZ|fail)<;>conv=>whnf)
theorem Mu(e:DEntry):aL av 344 [.agg e.ds] (.val (.one (.sl ((bx e).map eI)))):=by
 have eo:=gd e;cases h:cj e with
 |false=>
  rw[h]at eo;have e1:bx e=[]:=by simp[bx,h]
  rw[e1];refine pO func344 call344 ntmps344 results344 λS=>?_;conv=>whnf
  repeat'(first|refine awz ?_|(refine cP (eo) ?_;conv=>whnf)|exact rZ|fail)
 |true=>
  rw[h]at eo;have e1:bx e=pi e++[e.index,e.index]:=by simp[bx,h]
  rw[e1];refine pO func344 call344 ntmps344 results344 λS=>?_;conv=>whnf
  repeat'(first|refine awz ?_|(refine cP (eo) ?_;conv=>whnf)|fail)
  (refine XF aM 3 (tkc [0,2,3,4,5] (.two 1 (.one 6 (.one 7 (.take 8 .done))) 6 (.one 1 (.one 7 (.take 8 .done))))) [(1,9980)] lw ac ac ac ac (λRz=>?_);(conv=>whnf);intro bp0 up0;(conv=>whnf))
  repeat'((first|refine awz ?_|refine XE (MC e) [(14,914)] rfl rfl ?_|refine bc (by simp only[length_map,length_nil,length_append,length_cons,length_take,opL,pi]<;>omega) ?_|exact rZ|refine tW ?_ ?_|fail)<;>conv=>whnf)
theorem Bu(k a b c d:Int):aL av 443 [.one (.sl ([k,a,b,c,d].map eI))] (.val (.agg (⟨k,a,b,c,d⟩:DOp).ds)):=by
 refine pO func443 call443 ntmps443 results443 λS=>?_;conv=>whnf
 repeat'(first|refine awz ?_|fail)
 (refine XF aM 1 (tkc [0,1,2,3,4,5,6,7,8,9,10,11,12,13,14] (.one 15 (.one 16 .done))) [] w3 ac ac ac ac (λRz=>?_);(conv=>whnf))
 repeat'((first|refine awz ?_|refine Xw 0 _ rfl rfl ?_|refine Xw 1 _ rfl rfl ?_|refine Xw 2 _ rfl rfl ?_|refine Xw 3 _ rfl rfl ?_|refine Xw 4 _ rfl rfl ?_|exact rZ|fail)<;>conv=>whnf)
theorem JM(l:List Int):aL av 429 [.one (.sl (l.map eI))] (ld (eF l)):=by
 by_cases hl:l.length=9
 ·obtain⟨i,t,c,s,k,a,b,x,d,rfl⟩:=J8 hl;have eo:=gd ⟨i,t,c,s,⟨k,a,b,x,d⟩⟩;cases he:cj ⟨i,t,c,s,⟨k,a,b,x,d⟩⟩with
  |false=>
   rw[he]at eo;have e:eF [i,t,c,s,k,a,b,x,d]=none:=by simp[eF,he]
   rw[e];unfold ld;refine pO func429 call429 ntmps429 results429 λS=>?_;conv=>whnf
   repeat'(first|refine awz ?_|fail)
   (refine XF aM 3 (tkc [0,1,2,3,4,5,6,7,8,9,10,11,12] (.two 13 (.two 14 (.two 15 (.one 16 (.one 17 .done)) 16 (.one 15 (.one 17 .done))) 16 (onc [14,15,17] .done)) 16 (onc [13,14,15,17] .done))) [] kJ ac ac ac ac (λRz=>?_);(conv=>whnf))
   repeat'((first|refine awz ?_|refine Xw 0 _ rfl rfl ?_|refine Xw 1 _ rfl rfl ?_|refine Xw 2 _ rfl rfl ?_|refine Xw 3 _ rfl rfl ?_|refine⟨4,9,rfl,rfl,by decide,ah,(by intro y hy;obtain⟨a,_,rfl⟩:=mem_map.1 hy;rfl),?_⟩|refine cP (Bu k a b x d) ?_|refine cP (eo) ?_|exact rZ|refine tW ?_ ?_|fail)<;>conv=>whnf)
  |true=>
   rw[he]at eo;have e:eF [i,t,c,s,k,a,b,x,d]=some ⟨i,t,c,s,⟨k,a,b,x,d⟩⟩:=by simp[eF,he]
   rw[e];unfold ld;refine pO func429 call429 ntmps429 results429 λS=>?_;conv=>whnf
   repeat'(first|refine awz ?_|fail)
   (refine XF aM 3 (tkc [0,1,2,3,4,5,6,7,8,9,10,11,12] (.two 13 (.two 14 (.two 15 (.one 16 (.one 17 .done)) 16 (.one 15 (.one 17 .done))) 16 (onc [14,15,17] .done)) 16 (onc [13,14,15,17] .done))) [] kJ ac ac ac ac (λRz=>?_);(conv=>whnf))
   repeat'((first|refine awz ?_|refine Xw 0 _ rfl rfl ?_|refine Xw 1 _ rfl rfl ?_|refine Xw 2 _ rfl rfl ?_|refine Xw 3 _ rfl rfl ?_|refine⟨4,9,rfl,rfl,by decide,ah,(by intro y hy;obtain⟨a,_,rfl⟩:=mem_map.1 hy;rfl),?_⟩|refine cP (Bu k a b x d) ?_|refine cP (eo) ?_|exact rZ|refine tW ?_ ?_|fail)<;>conv=>whnf)
 ·have n1:(((l.map eI).length:Int) !=9)=true:=by simp only[length_map,bne_iff_ne,ne_eq];omega
  rw[yE hl];unfold ld;refine pO func429 call429 ntmps429 results429 λS=>?_;conv=>whnf
  repeat'(first|refine awz ?_|exact rZ|fail)
theorem Mt(l:List Int):aL av 398 [.one (.sl (l.map eI))] (ld (ez l)):=by
 by_cases hl:l.length=11
 ·obtain⟨i,t,c,s,k,a,b,x,d,y,z,rfl⟩:=Dj hl;have re:=JM [i,t,c,s,k,a,b,x,d];cases he:cj ⟨i,t,c,s,⟨k,a,b,x,d⟩⟩with
  |false=>
   have e:ez [i,t,c,s,k,a,b,x,d,y,z]=none:=by simp[ez,he]
   have e2:eF [i,t,c,s,k,a,b,x,d]=none:=by simp[eF,he]
   rw[e2]at re;rw[e];unfold ld at re⊢;refine pO func398 call398 ntmps398 results398 λS=>?_;conv=>whnf
   repeat'((first|refine awz ?_|refine⟨0,9,rfl,rfl,by decide,ah,(by intro y hy;obtain⟨a,_,rfl⟩:=mem_map.1 hy;rfl),?_⟩|refine cP (re) ?_|fail)<;>conv=>whnf)
   (refine XB aM 4 16 gk gn ac ac ac rfl ?_;conv=>whnf)
   repeat'(first|refine awz ?_|exact rZ|fail)
  |true=>
   have e2:eF [i,t,c,s,k,a,b,x,d]=some ⟨i,t,c,s,⟨k,a,b,x,d⟩⟩:=by simp[eF,he]
   rw[e2]at re;by_cases hy:y=i
   ·have n1:(y !=i)=false:=by simpa using hy
    by_cases hz:z=i
    ·have n2:(z !=i)=false:=by simpa using hz
     have e:ez [i,t,c,s,k,a,b,x,d,y,z]=some ⟨i,t,c,s,⟨k,a,b,x,d⟩⟩:=by simp[ez,he,hy,hz]
     rw[e];unfold ld at re⊢;refine pO func398 call398 ntmps398 results398 λS=>?_;conv=>whnf
     repeat'((first|refine awz ?_|refine⟨0,9,rfl,rfl,by decide,ah,(by intro y hy;obtain⟨a,_,rfl⟩:=mem_map.1 hy;rfl),?_⟩|refine cP (re) ?_|fail)<;>conv=>whnf)
     (refine XB aM 4 16 gk gn ac ac ac rfl ?_;conv=>whnf)
     repeat'((first|refine awz ?_|refine Xw 9 _ rfl rfl ?_|refine Xw 10 _ rfl rfl ?_|exact rZ|fail)<;>conv=>whnf)
    ·have n2:(z !=i)=true:=by simpa using hz
     have e:ez [i,t,c,s,k,a,b,x,d,y,z]=none:=by simp[ez,hz]
     rw[e];unfold ld at re⊢;refine pO func398 call398 ntmps398 results398 λS=>?_;conv=>whnf
     repeat'((first|refine awz ?_|refine⟨0,9,rfl,rfl,by decide,ah,(by intro y hy;obtain⟨a,_,rfl⟩:=mem_map.1 hy;rfl),?_⟩|refine cP (re) ?_|fail)<;>conv=>whnf)
     (refine XB aM 4 16 gk gn ac ac ac rfl ?_;conv=>whnf)
     repeat'((first|refine awz ?_|refine Xw 9 _ rfl rfl ?_|refine Xw 10 _ rfl rfl ?_|exact rZ|fail)<;>conv=>whnf)
   ·have n1:(y !=i)=true:=by simpa using hy
    have e:ez [i,t,c,s,k,a,b,x,d,y,z]=none:=by simp[ez,hy]
    rw[e];unfold ld at re⊢;refine pO func398 call398 ntmps398 results398 λS=>?_;conv=>whnf
    repeat'((first|refine awz ?_|refine⟨0,9,rfl,rfl,by decide,ah,(by intro y hy;obtain⟨a,_,rfl⟩:=mem_map.1 hy;rfl),?_⟩|refine cP (re) ?_|fail)<;>conv=>whnf)
    (refine XB aM 4 16 gk gn ac ac ac rfl ?_;conv=>whnf)
    repeat'(first|refine awz ?_|(refine Xw 9 _ rfl rfl ?_;conv=>whnf)|exact rZ|fail)
 ·have n1:(((l.map eI).length:Int) !=11)=true:=by simp only[length_map,bne_iff_ne,ne_eq];omega
  rw[AN hl];unfold ld;refine pO func398 call398 ntmps398 results398 λS=>?_;conv=>whnf
  repeat'(first|refine awz ?_|exact rZ|fail)
theorem Gh(i:Int)(h:0<=i/\i<=2001):aL av 345 [pI i] (.val (pI (bW i))):=by
 have e:bW i=2+i.tmod 20:=by rw[bW,Int.tmod_eq_emod_of_nonneg aa]
 have hr:0<=i.tmod 20/\i.tmod 20<20:=by rw[Int.tmod_eq_emod_of_nonneg aa];omega
 rw[e];refine pO func345 call345 ntmps345 results345 λS=>?_;conv=>whnf
 repeat'((first|refine awz ?_|refine And.intro ae ?_|refine Xz aa aa ?_|exact rZ|fail)<;>conv=>whnf)
end
section
open Go.Proofs.Tryz
open Go.ChangeShapes Go.WideShapes Go.RowKit
variable {a b x:Int}{l:List Int}{i:Nat}
def kN:List (List Nat):=cz [0,1,129,0,4,324,0,7,519,848966926504392,0,0xb2881c9144182043]
def kR:List (List Nat):=eK 11 [137754,137755,137758,137078,137105,137186,118826,119555,121742,127939,59048]
def iZ:List (List Nat):=cz [0,1,2,0,4,5,0,0,0,153121155,0,0xb28920718510308128b]
theorem jD(h:i<l.length):(l.map eI)[i]? =some (eI (l.getD i 0)):=by
 rw[List.getElem?_map,List.getElem?_eq_getElem h,List.getD_eq_getElem?_getD,List.getElem?_eq_getElem h];rfl
theorem jC(h:i<l.length):l.drop i=l.getD i 0::l.drop (i+1):=by
 rw[List.drop_eq_getElem_cons h,List.getD_eq_getElem?_getD,List.getElem?_eq_getElem h];rfl
theorem Ul{n:Nat}(h:i<l.length):((l.map eI).take (i+1+n)).drop i=(l.getD i 0::(l.drop (i+1)).take n).map eI:=by
 rw[<-List.map_take,<-List.map_drop,List.drop_take,jC h,show i+1+n-i=n+1 by omega,List.take_succ_cons]
theorem VV(h:3<=l.length):((l.map eI).take l.length).drop (l.length-3)=[l.getD (l.length-3) 0,l.getD (l.length-2) 0,l.getD (l.length-1) 0].map eI:=by
 rw[<-List.map_take,<-List.map_drop,List.take_length,jC aa,show l.length-3+1=l.length-2 by omega,jC aa,show l.length-2+1=l.length-1 by omega,jC aa,List.drop_of_length_le aa]
def Ir(o:Option DLease):AP:= .tup [.agg (o.getD ⟨0,0,0⟩).ds,.one (dB o.isSome)]
theorem K3(a b c:Int):aL av 416 [.one (.sl ([a,b,c].map eI))] (Ir (if iD ⟨a,b,c⟩then some ⟨a,b,c⟩else none)):=by
 cases h:iD ⟨a,b,c⟩with
 |false=>
  have n1:(!iD ⟨a,b,c⟩)=true:=by rw[h];rfl
  unfold Ir;refine pO func416 call416 ntmps416 results416 λS=>?_;conv=>whnf
  repeat'(first|refine awz ?_|fail)
  (refine XB aM 3 11 kN kR ac ac ac rfl ?_;conv=>whnf)
  repeat'((first|refine awz ?_|refine Xw 0 _ rfl rfl ?_|refine Xw 1 _ rfl rfl ?_|refine Xw 2 _ rfl rfl ?_|refine cP (jr ⟨a,b,c⟩) ?_|exact rZ|fail)<;>conv=>whnf)
 |true=>
  have n1:(!iD ⟨a,b,c⟩)=false:=by rw[h];rfl
  unfold Ir;refine pO func416 call416 ntmps416 results416 λS=>?_;conv=>whnf
  repeat'(first|refine awz ?_|fail)
  (refine XB aM 3 11 kN kR ac ac ac rfl ?_;conv=>whnf)
  repeat'((first|refine awz ?_|refine Xw 0 _ rfl rfl ?_|refine Xw 1 _ rfl rfl ?_|refine Xw 2 _ rfl rfl ?_|refine cP (jr ⟨a,b,c⟩) ?_|exact rZ|fail)<;>conv=>whnf)
def pr(o:Option DState):AP:= .tup [.agg (o.getD gZ).ds,.one (dB o.isSome)]
theorem fu(h:¬(7<=l.length/\(0<=l.getD 2 0/\l.getD 2 0<=10)/\3+2*l.getD 2 0<l.length/\(0<=l.getD (3+2*l.getD 2 0).toNat 0/\l.getD (3+2*l.getD 2 0).toNat 0<=8)/\3+2*l.getD 2 0+1+5*l.getD (3+2*l.getD 2 0).toNat 0+3=l.length)):rH l=false:=by
 cases hf:rH l with
 |false=>rfl
 |true=>
  simp only[rH,aJ,Bool.and_eq_true,decide_eq_true_eq]at hf;exact absurd ⟨hf.1.1.1.1,hf.1.1.1.2,hf.1.1.2,hf.1.2,hf.2⟩ h
theorem DC(h:7<=l.length/\(0<=l.getD 2 0/\l.getD 2 0<=10)/\3+2*l.getD 2 0<l.length/\(0<=l.getD (3+2*l.getD 2 0).toNat 0/\l.getD (3+2*l.getD 2 0).toNat 0<=8)/\3+2*l.getD 2 0+1+5*l.getD (3+2*l.getD 2 0).toNat 0+3=l.length):rH l=true:=by
 simp only[rH,aJ,Bool.and_eq_true,decide_eq_true_eq];exact⟨⟨⟨⟨h.1,h.2.1⟩,h.2.2.1⟩,h.2.2.2.1⟩,h.2.2.2.2⟩
theorem Nu(h:a<=x/\x<=b):(!aJ x a b)=false:=by simp only[aJ,Bool.not_eq_false',Bool.and_eq_true,decide_eq_true_eq];exact h
theorem Qf(h:¬(a<=x/\x<=b)):(!aJ x a b)=true:=by
 cases hb:aJ x a b with
 |false=>rfl
 |true=>simp only[aJ,Bool.and_eq_true,decide_eq_true_eq]at hb;exact absurd hb h
theorem dP(h:rH l=false):gi l=none:=by simp[gi,h]
theorem Bk(l:List Int)(hl:l.length<=1048576):aL av 367 [.one (.sl (l.map eI))] (pr (gi l)):=by
 by_cases c1:7<=l.length
 ·have m1:decide (((l.map eI).length:Int)<7)=false:=by simp only[length_map,decide_eq_false_iff_not];omega
  by_cases c2:l.length<=67
  ·have m2:decide (((l.map eI).length:Int)>67)=false:=by simp only[length_map,decide_eq_false_iff_not];omega
   have g2:=jD (l:=l) (i:=2) aa;by_cases c3:0<=l.getD 2 0/\l.getD 2 0<=10
   ·have m3:(!aJ (l.getD 2 0) 0 10)=false:=Nu c3;obtain⟨k,ek⟩:∃k:Nat,l.getD 2 0=(k:Int):=⟨(l.getD 2 0).toNat,aa⟩;have hk:k<=10:=aa;have ea:(3+2*l.getD 2 0).toNat=3+2*k:=aa;by_cases c4:3+2*k<l.length
    ·have m4:decide ((3+2*l.getD 2 0)>=((l.map eI).length:Int))=false:=by simp only[length_map,ge_iff_le,decide_eq_false_iff_not];omega
     have gA:=jD (l:=l) (i:=3+2*k) c4;by_cases c5:0<=l.getD (3+2*k) 0/\l.getD (3+2*k) 0<=8
     ·have m5:(!aJ (l.getD (3+2*k) 0) 0 8)=false:=Nu c5;obtain⟨j,ej⟩:∃j:Nat,l.getD (3+2*k) 0=(j:Int):=⟨(l.getD (3+2*k) 0).toNat,aa⟩;have hj:j<=8:=aa;by_cases c6:3+2*k+1+5*j+3=l.length
      ·have m6:((3+2*l.getD 2 0+1+5*l.getD (3+2*k) 0+3) !=((l.map eI).length:Int))=false:=by simp only[length_map,bne_eq_false_iff_eq];omega
       have hfit:rH l=true:=DC (by rw[ea];omega);have r1:=K4 ((l.drop 3).take (2*k)) k hk al;have r2:=IC ((l.drop (3+2*k+1)).take (5*j)) j hj al;have r3:=K3 (l.getD (l.length-3) 0) (l.getD (l.length-2) 0) (l.getD (l.length-1) 0);have hc1:((l.map eI).take (3+2*k)).drop 2=((k:Int)::(l.drop 3).take (2*k)).map eI:=by
        have:=Ul (l:=l) (i:=2) (n:=2*k) aa;rw[ek]at this;exact this
       have hc2:((l.map eI).take (l.length-3)).drop (3+2*k)=((j:Int)::(l.drop (3+2*k+1)).take (5*j)).map eI:=by
        have:=Ul (l:=l) (i:=3+2*k) (n:=5*j) c4;rw[ej,show 3+2*k+1+5*j=l.length-3 by omega]at this;exact this
       have hc3:=VV (l:=l) aa;have g0:=jD (l:=l) (i:=0) aa;have g1:=jD (l:=l) (i:=1) aa;have er:pp l=⟨l.getD 0 0,l.getD 1 0,dE ((l.drop 3).take (2*k)),eM ((l.drop (3+2*k+1)).take (5*j)),⟨l.getD (l.length-3) 0,l.getD (l.length-2) 0,l.getD (l.length-1) 0⟩⟩:=by
        unfold pp;rw[ea,ej,show(2*l.getD 2 0).toNat=2*k by omega,show(5*(j:Int)).toNat=5*j by omega,List.tail_drop]
       have so:=fv (pp l) (by rw[er];simp only[ru,List.length_take];omega);have main:∀o:Option DState,(cH (pp l)=true->o=some (pp l))->(cH (pp l)=false->o=none)->aL av 367 [.one (.sl (l.map eI))] (pr o):=by
        intro o h1 h2;rw[er]at h1 h2 so;unfold Bw DH at r1;unfold Ip KF at r2;unfold Ir at r3;generalize dE ((l.drop 3).take (2*k))=P at*
        generalize eM ((l.drop (3+2*k+1)).take (5*j))=Q at*
        generalize (⟨l.getD (l.length-3) 0,l.getD (l.length-2) 0,l.getD (l.length-1) 0⟩:DLease)=L at*
        cases hst:cH ⟨l.getD 0 0,l.getD 1 0,P,Q,L⟩with
        |true=>
         obtain⟨_,_,f3,f4,f5⟩:=dS hst;simp only[f3,f4,f5,if_true]at r1 r2 r3;have n7:(!cH ⟨l.getD 0 0,l.getD 1 0,P,Q,L⟩)=false:=by rw[hst];rfl
         obtain rfl:=h1 hst;unfold pr;refine pO func367 call367 ntmps367 results367 λS=>?_;conv=>whnf
         repeat'((first|refine awz ?_|refine Xw 2 (eI (l.getD 2 0)) rfl g2 ?_|refine cP (bh _ _ _) ?_|refine Xw (3+2*k) _ aa gA ?_|(refine⟨2,3+2*k,rfl,(by show _=_;omega),aa,al,(by intro y hy;obtain⟨a,_,rfl⟩:=mem_map.1 hy;rfl),?_⟩;rw[hc1])|(refine⟨3+2*k,l.length-3,(by show _=_;omega),(by show _=_;simp only[length_map];omega),aa,ah,(by intro y hy;obtain⟨a,_,rfl⟩:=mem_map.1 hy;rfl),?_⟩;rw[hc2])|(refine⟨l.length-3,l.length,(by show _=_;simp only[length_map];omega),(by show _=_;simp),aa,ah,(by intro y hy;obtain⟨a,_,rfl⟩:=mem_map.1 hy;rfl),?_⟩;rw[hc3])|refine cP (r1) ?_|refine cP (r2) ?_|refine cP (r3) ?_|refine Xz aa aa ?_|refine Xz am am ?_|fail)<;>conv=>whnf)
         (refine XF aM 10 (tkc [0,1,2,3,4,5,6,7,8] (.two 9 (.one 10 (.one 11 .done)) 10 (.one 9 (.one 11 .done)))) [(10,9980)] iZ ac ac ac ac (λRz=>?_);(conv=>whnf);intro bp0 up0;(conv=>whnf))
         repeat'((first|refine awz ?_|refine Xw 0 _ rfl g0 ?_|refine Xw 1 _ rfl g1 ?_|refine cP (so) ?_|exact rZ|refine tW ?_ ?_|fail)<;>conv=>whnf)
        |false=>
         have n7:(!cH ⟨l.getD 0 0,l.getD 1 0,P,Q,L⟩)=true:=by rw[hst];rfl
         obtain rfl:=h2 hst;unfold pr;cases f3:da P<;>cases f4:dA Q<;>cases f5:iD L<;>simp only[f3,f4,f5,if_true,if_false,Bool.false_eq_true]at r1 r2 r3
         all_goals
          refine pO func367 call367 ntmps367 results367 λS=>?_;conv=>whnf
          repeat'((first|refine awz ?_|refine Xw 2 (eI (l.getD 2 0)) rfl g2 ?_|refine cP (bh _ _ _) ?_|refine Xw (3+2*k) _ aa gA ?_|(refine⟨2,3+2*k,rfl,(by show _=_;omega),aa,al,(by intro y hy;obtain⟨a,_,rfl⟩:=mem_map.1 hy;rfl),?_⟩;rw[hc1])|(refine⟨3+2*k,l.length-3,(by show _=_;omega),(by show _=_;simp only[length_map];omega),aa,ah,(by intro y hy;obtain⟨a,_,rfl⟩:=mem_map.1 hy;rfl),?_⟩;rw[hc2])|(refine⟨l.length-3,l.length,(by show _=_;simp only[length_map];omega),(by show _=_;simp),aa,ah,(by intro y hy;obtain⟨a,_,rfl⟩:=mem_map.1 hy;rfl),?_⟩;rw[hc3])|refine cP (r1) ?_|refine cP (r2) ?_|refine cP (r3) ?_|refine Xz aa aa ?_|refine Xz am am ?_|fail)<;>conv=>whnf)
          (refine XF aM 10 (tkc [0,1,2,3,4,5,6,7,8] (.two 9 (.one 10 (.one 11 .done)) 10 (.one 9 (.one 11 .done)))) [(10,9980)] iZ ac ac ac ac (λRz=>?_);(conv=>whnf);intro bp0 up0;(conv=>whnf))
          repeat'((first|refine awz ?_|refine Xw 0 _ rfl g0 ?_|refine Xw 1 _ rfl g1 ?_|refine cP (so) ?_|exact rZ|refine tW ?_ ?_|fail)<;>conv=>whnf)
       exact main _ (λh=>by simp[gi,hfit,h]) (λh=>by simp[gi,h])
      ·have m6:((3+2*l.getD 2 0+1+5*l.getD (3+2*k) 0+3) !=((l.map eI).length:Int))=true:=by simp only[length_map,bne_iff_ne,ne_eq];omega
       rw[dP (fu (by rw[ea];omega))];unfold pr;refine pO func367 call367 ntmps367 results367 λS=>?_;conv=>whnf
       repeat'((first|refine awz ?_|refine Xw 2 (eI (l.getD 2 0)) rfl g2 ?_|refine cP (bh _ _ _) ?_|refine Xw (3+2*k) _ aa gA ?_|refine Xz aa aa ?_|exact rZ|fail)<;>conv=>whnf)
     ·have m5:(!aJ (l.getD (3+2*k) 0) 0 8)=true:=Qf c5;rw[dP (fu (by rw[ea];omega))];unfold pr;refine pO func367 call367 ntmps367 results367 λS=>?_;conv=>whnf
      repeat'((first|refine awz ?_|refine Xw 2 (eI (l.getD 2 0)) rfl g2 ?_|refine cP (bh _ _ _) ?_|refine Xw (3+2*k) _ aa gA ?_|refine Xz aa aa ?_|exact rZ|fail)<;>conv=>whnf)
    ·have m4:decide ((3+2*l.getD 2 0)>=((l.map eI).length:Int))=true:=by simp only[length_map,ge_iff_le,decide_eq_true_eq];omega
     rw[dP (fu aa)];unfold pr;refine pO func367 call367 ntmps367 results367 λS=>?_;conv=>whnf
     repeat'((first|refine awz ?_|refine Xw 2 (eI (l.getD 2 0)) rfl g2 ?_|refine cP (bh _ _ _) ?_|refine Xz aa aa ?_|exact rZ|fail)<;>conv=>whnf)
   ·have m3:(!aJ (l.getD 2 0) 0 10)=true:=Qf c3;rw[dP (fu aa)];unfold pr;refine pO func367 call367 ntmps367 results367 λS=>?_;conv=>whnf
    repeat'((first|refine awz ?_|refine Xw 2 (eI (l.getD 2 0)) rfl g2 ?_|refine cP (bh _ _ _) ?_|exact rZ|fail)<;>conv=>whnf)
  ·have m2:decide (((l.map eI).length:Int)>67)=true:=by simp only[length_map,decide_eq_true_eq];omega
   rw[dP (fu aa)];unfold pr;refine pO func367 call367 ntmps367 results367 λS=>?_;conv=>whnf
   repeat'(first|refine awz ?_|exact rZ|fail)
 ·have m1:decide (((l.map eI).length:Int)<7)=true:=by simp only[length_map,decide_eq_true_eq];omega
  rw[dP (fu aa)];unfold pr;refine pO func367 call367 ntmps367 results367 λS=>?_;conv=>whnf
  repeat'(first|refine awz ?_|exact rZ|fail)
end
section
open Go.Proofs.Tryz
open Go.ChangeShapes Go.WideShapes Go.RowKit
variable {s:Int×DState}{rows:List (List Int)}{r x:List Int}{i p:Nat}
def fE(s:Int×DState):List AD:=dI s.1::s.2.ds
theorem Pa(s:Int×DState)(hp:s.2.pairs.length<=9223372036854775806):aL av 417 [.agg (fE s)] (rB (fK s)):=by
 obtain⟨n,s⟩:=s;simp only at hp;unfold fE;cases h1:aJ n 1 1000000000 with
 |false=>
  have e:fK (n,s)=false:=by simp[fK,h1]
  rw[e];refine pO func417 call417 ntmps417 results417 λS=>?_;conv=>whnf
  repeat'(first|refine awz ?_|(refine cP (bh _ _ _) ?_;conv=>whnf)|exact rZ|fail)
  all_goals(simp[h1];done)
 |true=>
  cases h2:cH s with
  |false=>
   have e:fK (n,s)=false:=by simp[fK,h2]
   rw[e];refine pO func417 call417 ntmps417 results417 λS=>?_;conv=>whnf
   repeat'((first|refine awz ?_|refine cP (bh _ _ _) ?_|refine cP (fv s hp) ?_|exact rZ|fail)<;>conv=>whnf)
   all_goals(simp[h2];done)
  |true=>
   have hi:=(dS h2).1;have e:fK (n,s)=decide (s.index>0):=by
    simp only[fK,h1,h2,Bool.true_and];by_cases h0:s.index=0
    ·simp[h0]
    ·have:s.index>0:=aa;simp[h0,this]
   rw[e];refine pO func417 call417 ntmps417 results417 λS=>?_;conv=>whnf
   repeat'((first|refine awz ?_|refine cP (bh _ _ _) ?_|refine cP (fv s hp) ?_|exact rZ|fail)<;>conv=>whnf)
def o3(s:Int×DState)(p:Nat):List (List Int):=(List.range p).map λq=>fx (dD s q)
def rR(s:Int×DState)(p i:Nat):List Int:=[s.1,s.2.index,(p:Int),((bN s.2).length:Int)]++((bN s.2).drop (20*p)).take i
theorem Ec(s:Int×DState)(p:Nat):(o3 s (p+1)).map bD=(o3 s p).map bD++[bD (fx (dD s p))]:=by
 simp[o3,List.range_succ]
theorem Lb(h:20*p+i<(bN s.2).length):(rR s p (i+1)).map eI=(rR s p i).map eI++[eI ((bN s.2)[20*p+i])]:=by
 have hl:i<((bN s.2).drop (20*p)).length:=by rw[length_drop];omega
 unfold rR;rw[List.take_add_one,getElem?_eq_getElem hl,List.getElem_drop];simp
theorem M2(s:Int×DState)(p i:Nat):(rR s p i).length<=4+i:=by
 simp only[rR,List.length_append,List.length_cons,List.length_nil,List.length_take];omega
theorem M1(s:Int×DState)(p:Nat)(h:i=20\/(bN s.2).length<=20*p+i)(h2:i<=20):(rR s p i).map eI++[[dI s.2.index],[dI s.1]]=(dD s p).map eI:=by
 have e:((bN s.2).drop (20*p)).take i=((bN s.2).drop (20*p)).take 20:=by
  rcases h with h|h
  ·rw[h]
  ·rw[List.take_of_length_le (by rw[length_drop];omega),List.take_of_length_le (by rw[length_drop];omega)]
 unfold rR dD;rw[e];simp[eI]
theorem AZ(s:Int×DState)(hp:s.2.pairs.length<=9223372036854775806):aL av 368 [.agg (fE s)] (.val (.one (.sl ((cC s).map bD)))):=by
 have so:=Pa s hp;cases ho:fK s with
 |false=>
  rw[ho]at so;have e:cC s=[]:=by simp[cC,ho]
  rw[e];obtain⟨n,st⟩:=s;unfold fE at*
  refine pO func368 call368 ntmps368 results368 λS=>?_;conv=>whnf
  repeat'(first|refine awz ?_|(refine cP (so) ?_;conv=>whnf)|exact rZ|fail)
 |true=>
  rw[ho]at so;obtain⟨g1,g2,g3⟩:=jH ho;obtain⟨i1,_⟩:=dS g2;obtain⟨m1,m2⟩:=iJ g2;have sn:=Bl s.2 g2;have e:cC s=o3 s (cO (bN s.2).length):=by simp[cC,ho,o3]
  have hpo:cO (bN s.2).length<=4:=(jI ho).2.2;rw[e];unfold fE at*
  refine pO func368 call368 ntmps368 results368 λS=>?_;conv=>whnf
  repeat'((first|refine awz ?_|refine cP (so) ?_|refine cP (sn) ?_|fail)<;>conv=>whnf)
  refine XA (λp:Nat=>p<=cO (bN s.2).length) (8::[3,5,6,7,16,17,18,19,20,21,22,23,24,25,26,27,28,29,30,31,32,33,34,35,36,37,38,39,40,41,42,43,44,45,46,47,48,49,50,51,52,53,54,55,56,57,58,59,60,61,62,63,64,65]) (λp=>[(3,.one (.own 8)),(5,vI .i64 (p:Int))]) (λp=>[(1,.cells 241 ((dI s.1::s.2.ds).map .d)),(8,.row 62 1 ((o3 s p).map bD))]) (λp=>cO (bN s.2).length-p) 0 (Nat.zero_le _) ?_ sbW (λp hk=>?_)<;>(conv=>whnf)
  ·exact whd
  ·have hnl:(o3 s p).length=p:=by simp[o3]
   by_cases hlt:p<cO (bN s.2).length
   ·have hc:decide ((p:Int)*20<(((bN s.2).map eI).length:Int))=true:=by simp only[length_map,decide_eq_true_eq];unfold cO at hlt;omega
    have hp4:p<=3:=aa;have E0:([[dI s.1],[dI s.2.index],[dI (p:Int)],[dI (((bN s.2).map eI).length:Int)]]:List (List AD))=(rR s p 0).map eI:=by rw[length_map];rfl
    have rok:=rS ho hlt;have hsn:=Ec s p;repeat'(first|refine awz ?_|(refine Xz aa aa ?_;conv=>whnf)|fail)
    refine XA (λi:Nat=>i<=20/\20*p+i<=(bN s.2).length) (31::[6,7,34,35,36,37,38,39,40,41,42,43,44,45,46,47,48,49,50,51,52,53]) (λi=>[(6,.one (.own 31)),(7,vI .i64 ((p:Int)*20+(i:Int)))]) (λi=>[(1,.cells 241 ((dI s.1::s.2.ds).map .d)),(8,.row 62 1 ((o3 s p).map bD)),(31,.row 2 1 ((rR s p i).map eI))]) (λi=>20-i) 0 ⟨aa,by unfold cO at hlt;omega⟩ ?_ (Xu rfl (Xu rfl (Xu (congrArg some (congrArg (AO.row 2 1) E0)) Xv))) (λi hi=>?_)<;>(conv=>whnf)
    ·rw[show((p:Int)*20+((0:Nat):Int))=(p:Int)*20 by omega];exact whd
    ·obtain⟨hi1,hi2⟩:=hi;have hhl:=M2 s p i;by_cases hgo:20*p+i<(bN s.2).length/\i<20
     ·have c1:decide ((p:Int)*20+(i:Int)<(((bN s.2).map eI).length:Int))=true:=by simp only[length_map,decide_eq_true_eq];omega
      have c2:decide ((p:Int)*20+(i:Int)<((p:Int)+1)*20)=true:=by simp only[decide_eq_true_eq];omega
      have hss:=Lb (s:=s) (p:=p) (i:=i) hgo.1;repeat'((first|refine awz ?_|refine Xw (20*p+i) (eI ((bN s.2)[20*p+i]'hgo.1)) aa (by rw[List.getElem?_map,getElem?_eq_getElem hgo.1];rfl) ?_|refine bc ar ?_|refine Xz aa aa ?_|fail)<;>conv=>whnf)
      refine aT.mk ⟨i+1,⟨aa,aa⟩,aa,?_,Xu rfl (Xu rfl (Xu (by rw[hss];rfl) Xv))⟩;rw[show((p:Int)*20+((i+1:Nat):Int))=(p:Int)*20+(i:Int)+1 by omega];exact hds
     ·have hend:=M1 s p (i:=i) aa hi1;have fin:∀(c:Bool),c=c:=λ_=>rfl;by_cases c0:20*p+i<(bN s.2).length
      ·have c1:decide ((p:Int)*20+(i:Int)<(((bN s.2).map eI).length:Int))=true:=by simp only[length_map,decide_eq_true_eq];omega
       have c2:decide ((p:Int)*20+(i:Int)<((p:Int)+1)*20)=false:=by simp only[decide_eq_false_iff_not];omega
       repeat'(first|refine awz ?_|(refine aG.freeze 31 2 1 ((dD s p).map eI) (congrArg (AO.row 2 1) hend) ?_;(conv=>whnf);refine Xt (rP (dD s p) rok.1 rok.2) rfl ?_;conv=>whnf)|((first|refine bc ar ?_|refine Xz aa aa ?_|fail)<;>conv=>whnf))
       refine aT.mk ⟨p+1,hlt,aa,?_,Xu rfl (Xu (by rw[hsn];rfl) Xv)⟩;exact hds
      ·have c1:decide ((p:Int)*20+(i:Int)<(((bN s.2).map eI).length:Int))=false:=by simp only[length_map,decide_eq_false_iff_not];omega
       repeat'(first|refine awz ?_|(refine aG.freeze 31 2 1 ((dD s p).map eI) (congrArg (AO.row 2 1) hend) ?_;(conv=>whnf);refine Xt (rP (dD s p) rok.1 rok.2) rfl ?_;conv=>whnf)|((first|refine bc ar ?_|refine Xz aa aa ?_|fail)<;>conv=>whnf))
       refine aT.mk ⟨p+1,hlt,aa,?_,Xu rfl (Xu (by rw[hsn];rfl) Xv)⟩;exact hds
   ·have ep:p=cO (bN s.2).length:=aa;have hc:decide ((p:Int)*20<(((bN s.2).map eI).length:Int))=false:=by simp only[length_map,decide_eq_false_iff_not];unfold cO at ep;omega
    rw[<-ep];repeat'(first|refine awz ?_|(refine Xz aa aa ?_;conv=>whnf)|exact rZ|fail)
def fp:List (List Nat):=cz [0,1,129,12354,1056835,84676740,3238551813,486473736259,35391639404871,35391639404871,0xa1c51060810c8,0x2c80c10861051ca,0x24714418204320c28b,0xd2ca3080c10861051c9,35391639404871,0xf1c51060810c8,0x4080c10861051cf,0xe24714418204320c28b3513d0,0x2030421841474903d134b28c24e,0x1338930a2cd44f4121c51060810c8,0x5080c10861051d240f44d2ca309393,0x5080c10861051d240f44d2ca309393,0x164ce24c28b3513d0487144182043214,0x5d42030421841474903d134b28c24e4d6,0x55338930a2cd44f4121c51060810c8518597,0x195d66142030421841474903d134b28c24e4d5,0x5080c10861051d240f44d2ca309393,0x1b4ce24c28b3513d0487144182043214,0x7142030421841474903d134b28c24e4db,0x1a55338930a2cd44f4121c51060810c851859765d6dc,0x5080c10861051d240f44d2ca30939379c6dd65759855a]
def fq:List (List Nat):=eK 29 [0,1,4,13,40,121,364,1093,124872232,124373596,124393279,124452328,124622914,125154355,4779688,9562657,23911564,64570081,193710244,581130733,66362224112032,66097228497556,66107688850759,66139069910368,66229726304794,66512155841275,2540122436128,5081988264457,0xb8eb72271c4]
def gz(r:List Int):Option (List Int):=match gj r with
 |some x=>if 7<=x.length/\x.getD (x.length-1) 0=x.getD 0 0/\x.getD (x.length-2) 0=x.getD 1 0 then some ((x.drop 4).take (x.length-6))else none
 |none=>none
theorem xo(h:gz r=some x):x.length<=48/\0<r.length:=by
 unfold gz at h;split at h
 ·rename_i y e;split at h
  ·injection h with h
   subst h;have e2:=dR e;refine⟨by simp only[List.length_take,length_drop];omega,?_⟩;rw[e2.2.2];simp[fx]
  ·cases h
 ·cases h
theorem M4(r:List Int):aL av 366 [.one (.sl (r.map eI))] (pt (gz r)):=by
 have su:=uU r;unfold gz;cases e:gj r with
 |none=>
  rw[e]at su;unfold pt at su⊢;refine pO func366 call366 ntmps366 results366 λS=>?_;conv=>whnf
  repeat'(first|refine awz ?_|(refine cP (su) ?_;conv=>whnf)|fail)
  (refine XB aM 2 29 fp fq ac ac ac rfl ?_;conv=>whnf)
  repeat'(first|refine awz ?_|exact rZ|fail)
 |some x=>
  rw[e]at su;have hxl:=(dR e).2.1;unfold pt at su⊢;have su:aL av 359 [.one (.sl (r.map eI))] (.tup [.one (.sl (x.map eI)),.one (dB true)]):=su;simp only;by_cases h7:7<=x.length
  ·have m1:decide (((x.map eI).length:Int)<7)=false:=by simp only[length_map,decide_eq_false_iff_not];omega
   have g0:=jD (l:=x) (i:=0) aa;have g1:=jD (l:=x) (i:=1) aa;have ga:=jD (l:=x) (i:=x.length-1) aa;have gb:=jD (l:=x) (i:=x.length-2) aa;by_cases ha:x.getD (x.length-1) 0=x.getD 0 0
   ·have m2:(x.getD (x.length-1) 0 !=x.getD 0 0)=false:=by rw[ha];simp
    by_cases hb:x.getD (x.length-2) 0=x.getD 1 0
    ·have m3:(x.getD (x.length-2) 0 !=x.getD 1 0)=false:=by rw[hb];simp
     rw[if_pos ⟨h7,ha,hb⟩];have hc:((x.map eI).take (x.length-2)).drop 4=(((x.drop 4).take (x.length-6))).map eI:=by
      rw[<-List.map_take,<-List.map_drop,List.drop_take,show x.length-2-4=x.length-6 by omega]
     refine pO func366 call366 ntmps366 results366 λS=>?_;conv=>whnf
     repeat'(first|refine awz ?_|(refine cP (su) ?_;conv=>whnf)|fail)
     (refine XB aM 2 29 fp fq ac ac ac rfl ?_;conv=>whnf)
     repeat'((first|refine awz ?_|refine Xw (x.length-1) _ am ga ?_|refine Xw 0 _ rfl g0 ?_|refine Xw (x.length-2) _ am gb ?_|refine Xw 1 _ rfl g1 ?_|(refine⟨4,x.length-2,rfl,(by show _=_;simp only[length_map];omega),aa,ah,(by intro y hy;obtain⟨a,_,rfl⟩:=mem_map.1 hy;rfl),?_⟩;rw[hc])|refine Xz am am ?_|exact rZ|fail)<;>conv=>whnf)
    ·have m3:(x.getD (x.length-2) 0 !=x.getD 1 0)=true:=by simpa using hb
     rw[if_neg λh=>hb h.2.2];refine pO func366 call366 ntmps366 results366 λS=>?_;conv=>whnf
     repeat'(first|refine awz ?_|(refine cP (su) ?_;conv=>whnf)|fail)
     (refine XB aM 2 29 fp fq ac ac ac rfl ?_;conv=>whnf)
     repeat'((first|refine awz ?_|refine Xw (x.length-1) _ am ga ?_|refine Xw 0 _ rfl g0 ?_|refine Xw (x.length-2) _ am gb ?_|refine Xw 1 _ rfl g1 ?_|refine Xz am am ?_|exact rZ|fail)<;>conv=>whnf)
   ·have m2:(x.getD (x.length-1) 0 !=x.getD 0 0)=true:=by simpa using ha
    rw[if_neg λh=>ha h.2.1];refine pO func366 call366 ntmps366 results366 λS=>?_;conv=>whnf
    repeat'(first|refine awz ?_|(refine cP (su) ?_;conv=>whnf)|fail)
    (refine XB aM 2 29 fp fq ac ac ac rfl ?_;conv=>whnf)
    repeat'((first|refine awz ?_|refine Xw (x.length-1) _ am ga ?_|refine Xw 0 _ rfl g0 ?_|refine Xz am am ?_|exact rZ|fail)<;>conv=>whnf)
  ·have m1:decide (((x.map eI).length:Int)<7)=true:=by simp only[length_map,decide_eq_true_eq];omega
   rw[if_neg λh=>h7 h.1];refine pO func366 call366 ntmps366 results366 λS=>?_;conv=>whnf
   repeat'(first|refine awz ?_|(refine cP (su) ?_;conv=>whnf)|fail)
   (refine XB aM 2 29 fp fq ac ac ac rfl ?_;conv=>whnf)
   repeat'(first|refine awz ?_|exact rZ|fail)
def zn:List (List Int)->Option (List Int)
 |[]=>some []
 |r::l=>match gz r with
  |some x=>(zn l).map λy=>x++y
  |none=>none
theorem KI(h:gz r=some x):∃y,gj r=some y/\6<=y.length/\x=(y.drop 4).take (y.length-6):=by
 unfold gz at h;split at h
 ·rename_i y e;split at h
  ·rename_i hc;injection h with h
   exact⟨y,e,aa,h.symm⟩
  ·cases h
 ·cases h
theorem AF{l:List Int}(h:zn rows=some l):hL rows=some l:=by
 induction rows generalizing l with
 |nil=>exact h
 |cons r t ih=>
  simp only[zn]at h;split at h
  ·rename_i x e;obtain⟨y,h1,h2,h3⟩:=KI e;cases hp:zn t with
   |none=>rw[hp]at h;cases h
   |some z=>
    rw[hp]at h;simp only[hL,h1,if_pos h2,ih hp,<-h3];exact h
  ·cases h
theorem KJ(h:fK s=true)(hp:p<cO (bN s.2).length):(gz (fx (dD s p))).isSome=true:=by
 obtain⟨h1,h2⟩:=rS h hp;have hl:=(uV hp).1;unfold gz;rw[Fb h1 h2];have e:dD s p=[s.1,s.2.index,(p:Int),((bN s.2).length:Int)]++((bN s.2).drop (20*p)).take 20++[s.2.index,s.1]:=by simp[dD]
 have a1:(dD s p).getD ((dD s p).length-1) 0=s.1:=by
  rw[e];simp
 have a2:(dD s p).getD ((dD s p).length-2) 0=s.2.index:=by
  rw[e];simp
 have a3:(dD s p).getD 0 0=s.1:=by rw[e];simp
 have a4:(dD s p).getD 1 0=s.2.index:=by rw[e];simp
 simp only;rw[if_pos ⟨hl,by rw[a1,a3],by rw[a2,a4]⟩];rfl
def fG:List (List Nat):=cz [0,1,2,3,4,0,389,0,0x2071851030811c8]
def kr:List (List Nat):=cz [0,0,66,12417,0,0,326,29061,17663105454471,0x91c61480c2044]
def gK(rows:List (List Int))(k:Nat):List Int:=((rows.take k).map λr=>(gz r).getD []).flatten
theorem NC{k:Nat}(hk:k<rows.length)(h:gz rows[k]=some x):gK rows (k+1)=gK rows k++x:=by
 unfold gK;rw[List.take_add_one,getElem?_eq_getElem hk];simp only[map_append,List.flatten_append,Option.toList,List.map_cons,List.map_nil,List.flatten_cons,List.flatten_nil,List.append_nil,h,Option.getD_some]
theorem TY(rows:List (List Int))(k:Nat):(gK rows k).length<=48*k:=by
 induction k with
 |zero=>simp[gK]
 |succ k ih=>
  by_cases hk:k<rows.length
  ·cases e:gz rows[k]with
   |none=>
    have:gK rows (k+1)=gK rows k:=by
     unfold gK;rw[List.take_add_one,getElem?_eq_getElem hk];simp only[map_append,List.flatten_append,Option.toList,List.map_cons,List.map_nil,List.flatten_cons,List.flatten_nil,List.append_nil,e,Option.getD_none]
    rw[this];omega
   |some x=>
    rw[NC hk e,List.length_append];have:=(xo e).1;omega
  ·have:gK rows (k+1)=gK rows k:=by
    unfold gK;rw[List.take_of_length_le aa,List.take_of_length_le aa]
   rw[this];omega
theorem DM(h:∀r∈rows,(gz r).isSome=true):zn rows=some (gK rows rows.length):=by
 unfold gK;rw[List.take_length];induction rows with
 |nil=>rfl
 |cons r t ih=>
  have h1:=h r (List.mem_cons_self ..);cases e:gz r with
  |none=>rw[e]at h1;cases h1
  |some x=>
   simp only[zn,e,ih λr h'=>h r (List.mem_cons_of_mem _ h')];simp[e]
theorem rN(h:cT rows=some s):(1<=rows.length/\rows.length<=4)/\(∀r∈rows,(gz r).isSome=true):=by
 obtain⟨ho,hr⟩:=mo h;have hl:=jI ho;rw[hr]at hl;refine⟨aa,?_⟩;intro r hm;rw[<-hr]at hm;obtain⟨p,hp,rfl⟩:=List.getElem_of_mem hm;rw[yN ho hp];refine KJ ho ?_;rw[hr]at hp;omega
theorem yF(h:¬(1<=rows.length/\rows.length<=4)):cT rows=none:=by
 cases e:cT rows with
 |none=>rfl
 |some s=>exact absurd (rN e).1 h
theorem ES(h:r∈rows)(hr:gz r=none):cT rows=none:=by
 cases e:cT rows with
 |none=>rfl
 |some s=>
  have:=(rN e).2 r h;rw[hr]at this;cases this
theorem Iy(h:∀r∈rows,(gz r).isSome=true)(hn:gi (gK rows rows.length)=none):cT rows=none:=by
 have:=AF (DM h);simp only[cT,this,hn]
theorem Ix(h:∀r∈rows,(gz r).isSome=true){s:DState}(hn:gi (gK rows rows.length)=some s)(h1:1<=rows.length):cT rows=if cC ((rows.getD 0 []).getD 0 0,s)=rows then some ((rows.getD 0 []).getD 0 0,s)else none:=by
 have:=AF (DM h);have he:rows.isEmpty=false:=by cases rows with|nil=>simp at h1|cons a b=>rfl
 simp only[cT,this,hn,he,Bool.not_false,Bool.and_true,beq_iff_eq]
def wJ:Int×DState:=(0,gZ)
def DI(o:Option (Int×DState)):AP:= .tup [.agg (fE (o.getD wJ)),.one (dB o.isSome)]
theorem K5(rows:List (List Int))(hbig:rows.length<=1048576):aL av 312 [.one (.sl (rows.map bD))] (DI (cT rows)):=by
 by_cases h1:1<=rows.length
 ·have m1:decide (((rows.map bD).length:Int)<1)=false:=by simp only[length_map,decide_eq_false_iff_not];omega
  by_cases h4:rows.length<=4
  ·have m2:decide (((rows.map bD).length:Int)>4)=false:=by simp only[length_map,decide_eq_false_iff_not];omega
   unfold DI fE;refine pO func312 call312 ntmps312 results312 λS=>?_;conv=>whnf
   repeat'(first|refine awz ?_|fail)
   have hr0:rows[0]? =some (rows.getD 0 []):=by rw[List.getD_eq_getElem?_getD,getElem?_eq_getElem aa];rfl
   refine XA (λk:Nat=>k<=rows.length/\∀i (hi:i<rows.length),i<k->(gz rows[i]).isSome=true) (22::[3,4,5,6,7,23,24,25,26,27,28,29,30,31,32,33,34,35,36,37,38,39,40,41,42]) (λk=>[(4,.one (.own 22)),(5,vI .i64 (k:Int))]) (λk=>[(2,.cells 241 [.d (dI 0),.d (dI 0),.d (dI 0),.nil,.nil,.d (dI 0),.d (dI 0),.d (dI 0)]),(22,.row 2 1 ((gK rows k).map eI))]) (λk=>rows.length-k) 0 ⟨Nat.zero_le _,λi hi h=>by omega⟩ ?_ sbW (λk hk=>?_)<;>(conv=>whnf)
   ·exact whd
   ·obtain⟨hk,hall⟩:=hk;have hgl:=TY rows k;by_cases hlt:k<rows.length
    ·have hc:decide ((k:Int)<((rows.map bD).length:Int))=true:=by simp only[length_map,decide_eq_true_eq];omega
     have lp:=M4 rows[k];cases e:gz rows[k]with
     |none=>
      rw[e]at lp;rw[ES (List.getElem_mem hlt) e];unfold pt at lp;repeat'((first|refine awz ?_|refine XK hlt ?_|refine cP (lp) ?_|exact rZ|fail)<;>conv=>whnf)
     |some x=>
      rw[e]at lp;have hx:=xo e;have hgs:=NC hlt e;have lp:aL av 366 [.one (.sl (rows[k].map eI))] (.tup [.one (.sl (x.map eI)),.one (dB true)]):=lp;repeat'((first|refine awz ?_|refine XK hlt ?_|refine cP (lp) ?_|refine aY (by first|(intro y hy;obtain⟨a,_,rfl⟩:=mem_map.1 hy;rfl)|(simp;done)) ?_|refine bc ar ?_|refine Xz aa aa ?_|fail)<;>conv=>whnf)
      refine aT.mk ⟨k+1,⟨hlt,λi hi h=>?_⟩,aa,?_,Xu rfl (Xu (by rw[hgs,map_append];rfl) Xv)⟩
      ·rcases Nat.eq_or_lt_of_le (Nat.le_of_lt_succ h)with h|h
       ·subst h;rw[e];rfl
       ·exact hall i hi h
      ·exact hds
    ·have ek:k=rows.length:=aa;subst ek;have hc:decide ((rows.length:Int)<((rows.map bD).length:Int))=false:=ah;have hall:∀r∈rows,(gz r).isSome=true:=λr hr=>by
      obtain⟨i,hi,rfl⟩:=List.getElem_of_mem hr;exact hall i hi hi
     have h0:0<(rows.getD 0 []).length:=by
      have:=hall (rows.getD 0 []) (List.mem_of_getElem? hr0);cases e:gz (rows.getD 0 [])with
      |none=>rw[e]at this;cases this
      |some x=>exact(xo e).2
     have g00:=jD (l:=rows.getD 0 []) h0;have g0:(rows.map bD)[0]? =some (bD (rows.getD 0 [])):=by rw[List.getElem?_map,hr0];rfl
     have ns:=Bk (gK rows rows.length) aa;cases en:gi (gK rows rows.length)with
     |none=>
      rw[en]at ns;rw[Iy hall en];have ns:aL av 367 [.one (.sl ((gK rows rows.length).map eI))] (.tup [.agg gZ.ds,.one (dB false)]):=ns;have sh:=AZ ((rows.getD 0 []).getD 0 0,gZ) (by show(0:Nat)<=_;decide);have es:cC ((rows.getD 0 []).getD 0 0,gZ)=[]:=by
       have:fK ((rows.getD 0 []).getD 0 0,gZ)=false:=by simp[fK,gZ]
       rw[cC,this];rfl
      rw[es]at sh;generalize gK rows rows.length=gg at*
      generalize (rows.getD 0 []).getD 0 0=n0 at*
      repeat'(first|refine awz ?_|(refine aG.freeze 22 2 1 (gg.map eI) rfl ?_;(conv=>whnf);refine Xt ns rfl ?_;conv=>whnf)|fail)
      (refine XF aM 12 (tkc [0,1,2,3,4,5] (.two 6 (.one 7 (.one 8 .done)) 7 (.one 6 (.one 8 .done)))) [(8,9980)] fG ac ac ac ac (λRz=>?_);(conv=>whnf);intro bp0 up0;(conv=>whnf))
      repeat'((first|refine awz ?_|refine Xw 0 _ rfl g0 ?_|refine Xw 0 _ rfl g00 ?_|refine cP (sh) ?_|exact rZ|refine tW ?_ ?_|fail)<;>conv=>whnf)
     |some st=>
      rw[en]at ns;rw[Ix hall en h1];have ns:aL av 367 [.one (.sl ((gK rows rows.length).map eI))] (.tup [.agg st.ds,.one (dB true)]):=ns;have ok:=As en;have hpm:=nP (dS ok).2.2.1;have sh:=AZ ((rows.getD 0 []).getD 0 0,st) (by simp only;omega);have hrs:∀r∈cC ((rows.getD 0 []).getD 0 0,st),r.length<=1048576:=by
       intro r hr;unfold cC at hr;split at hr
       ·rename_i ho;obtain⟨p,hp,rfl⟩:=mem_map.1 hr;have:=(uV (List.mem_range.1 hp)).2;simp only[fx,List.length_append,List.length_cons,List.length_nil];omega
       ·cases hr
      have hrl:(cC ((rows.getD 0 []).getD 0 0,st)).length<=67:=by
       unfold cC;have:=(iJ ok).2;split
       ·simp only[length_map,List.length_range,cO];omega
       ·simp
      generalize cC ((rows.getD 0 []).getD 0 0,st)=rs at*
      generalize gK rows rows.length=gg at*
      generalize (rows.getD 0 []).getD 0 0=n0 at*
      repeat'(first|refine awz ?_|(refine aG.freeze 22 2 1 (gg.map eI) rfl ?_;(conv=>whnf);refine Xt ns rfl ?_;conv=>whnf)|fail)
      (refine XF aM 12 (tkc [0,1,2,3,4,5] (.two 6 (.one 7 (.one 8 .done)) 7 (.one 6 (.one 8 .done)))) [(8,9980)] fG ac ac ac ac (λRz=>?_);(conv=>whnf);intro bp0 up0;(conv=>whnf))
      by_cases hl:rs.length=rows.length
      ·have m3:(((rs.map bD).length:Int) !=((rows.map bD).length:Int))=false:=by simp only[length_map,hl];simp
       repeat'((first|refine awz ?_|refine Xw 0 _ rfl g0 ?_|refine Xw 0 _ rfl g00 ?_|refine cP (sh) ?_|refine tW ?_ ?_|fail)<;>conv=>whnf)
       all_goals
        refine XA (λk:Nat=>k<=rows.length/\∀i (hi:i<rows.length),i<k->rs[i]'(aa)=rows[i]) (3::12::rg 67 17) (λk=>[(12,vI .i64 (k:Int))]) (λk=>[(2,.cells 241 [.d (dI 0),.d (dI 0),.d (dI 0),.nil,.nil,.d (dI 0),.d (dI 0),.d (dI 0)]),(8,.cells 85 (st.ds.map .d)),(10,.cells 241 ((fE (n0,st)).map .d))]) (λk=>rows.length-k) 0 ⟨Nat.zero_le _,λi hi h=>by omega⟩ ?_ sbW (λk hk=>?_)<;>(conv=>whnf)
        ·exact whd
        ·obtain⟨hk,same⟩:=hk;by_cases hlt:k<rows.length
         ·have hc:decide ((k:Int)<((rows.map bD).length:Int))=true:=by simp only[length_map,decide_eq_true_eq];omega
          have hlr:k<rs.length:=aa;have sr:=D2 rs[k] rows[k] (hrs _ (List.getElem_mem hlr));by_cases hs:rs[k]=rows[k]
          ·have n1:decide (rs[k]=rows[k])=true:=decide_eq_true hs;rw[n1]at sr;repeat'(first|refine awz ?_|fail)
           (refine XB aM 19 8 kr aR ac ac ac rfl ?_;conv=>whnf)
           repeat'((first|refine awz ?_|refine XK hlt ?_|refine XK hlr ?_|refine cP (sr) ?_|refine Xz aa aa ?_|fail)<;>conv=>whnf)
           refine aT.mk ⟨k+1,⟨hlt,λi hi h=>?_⟩,aa,?_,sbW⟩
           ·rcases Nat.eq_or_lt_of_le (Nat.le_of_lt_succ h)with h|h
            ·subst h;exact hs
            ·exact same i hi h
           ·exact hds
          ·have n1:decide (rs[k]=rows[k])=false:=decide_eq_false hs;rw[n1]at sr;rw[if_neg λe=>hs (by subst e;rfl)];repeat'(first|refine awz ?_|fail)
           (refine XB aM 19 8 kr aR ac ac ac rfl ?_;conv=>whnf)
           repeat'((first|refine awz ?_|refine XK hlt ?_|refine XK hlr ?_|refine cP (sr) ?_|exact rZ|fail)<;>conv=>whnf)
         ·have e:rs=rows:=List.ext_getElem hl λi h1 h2=>same i h2 aa;have hc:decide ((k:Int)<((rows.map bD).length:Int))=false:=by simp only[length_map,decide_eq_false_iff_not];omega
          rw[if_pos e];repeat'(first|refine awz ?_|exact rZ|fail)
      ·have m3:(((rs.map bD).length:Int) !=((rows.map bD).length:Int))=true:=by simp only[length_map,bne_iff_ne,ne_eq];omega
       rw[if_neg λe=>hl (by rw[e])];repeat'((first|refine awz ?_|refine Xw 0 _ rfl g0 ?_|refine Xw 0 _ rfl g00 ?_|refine cP (sh) ?_|exact rZ|refine tW ?_ ?_|fail)<;>conv=>whnf)
  ·have m2:decide (((rows.map bD).length:Int)>4)=true:=by simp only[length_map,decide_eq_true_eq];omega
   rw[yF aa];unfold DI;refine pO func312 call312 ntmps312 results312 λS=>?_;conv=>whnf
   repeat'(first|refine awz ?_|exact rZ|fail)
 ·have m1:decide (((rows.map bD).length:Int)<1)=true:=by simp only[length_map,decide_eq_true_eq];omega
  rw[yF aa];unfold DI;refine pO func312 call312 ntmps312 results312 λS=>?_;conv=>whnf
  repeat'(first|refine awz ?_|exact rZ|fail)
end
section
section
open Go.Proofs.Tryz
open Go.RowKit
def AsD(c d:AD):Prop:=∀(Z:Nat->Prop) (w:World) (u:Value),ca Z w c u->ca Z w d u
def AsV(x y:AV):Prop:=∀(Z:Nat->Prop) (w:World) (ρ:Nat->Value) (u:Value),cn Z w ρ x u->cn Z w ρ y u
def IN:List AV->List AV->Prop
 |[],[]=>True
 |x::r,y::q=>AsV x y/\IN r q
 |_,_=>False
theorem AsV.refl(x:AV):AsV x x:=λ_ _ _ _ h=>h
theorem AsV.d{c d:AD}(h:AsD c d):AsV (.one (.d c)) (.one (.d d)):=λZ w ρ u hr=>by
 cases hr with
 |one _ _ hr=>exact .one _ _ (show ca Z w d u from h Z w u hr)
theorem IN.len:∀{xs ys:List AV},IN xs ys->xs.length=ys.length
 |[],[],_=>rfl
 |[],_::_,h=>h.elim
 |_::_,[],h=>h.elim
 |_::r,_::q,h=>by simp[IN.len h.2]
theorem IN.get:∀{xs ys:List AV},IN xs ys->∀{i:Nat} {y:AV},ys[i]? =some y->∃x,xs[i]? =some x/\AsV x y
 |[],[],_,i,y,hy=>by simp at hy
 |[],_::_,h,_,_,_=>h.elim
 |_::_,[],h,_,_,_=>h.elim
 |x::r,z::q,h,0,y,hy=>by simp at hy;subst hy;exact⟨x,rfl,h.1⟩
 |x::r,z::q,h,i+1,y,hy=>by
  obtain⟨x',h1,h2⟩:=IN.get h.2 (i:=i) (by simpa using hy);exact⟨x',by simpa using h1,h2⟩
section
variable {E:bz} {S:bR}
theorem Ye{f:FuncId}{args:List AV}{st:ASt}{K:AV->ASt->Prop}(args':List AV)(hr:IN args args')(h:aG E S f args' st K):aG E S f args st K:=by
 refine⟨h.enter,λZ ρ a w us hs hl hu=>h.run Z ρ a w us hs (by rw[hl,hr.len]) λi y u hy hv=>?_⟩;obtain⟨x,hx,ha⟩:=hr.get hy;exact ha _ _ _ _ (hu i x u hx hv)
theorem Z1{f:FuncId}{args:List AV}{st:ASt}{K:AV->ASt->Prop}(g:AV->AV)(hg:∀x,AsV x (g x))(h:aG E S f args st λx st=>K (g x) st):aG E S f args st K:=by
 refine⟨h.enter,λZ ρ a w us hs hl hu=>(h.run Z ρ a w us hs hl hu).mono ?_⟩;rintro e w' ⟨v,r,st',Z',ρ',h1,h2,h3,h4⟩;exact⟨v,g r,st',Z',ρ',h1,h2,hg r _ _ _ _ h3,h4⟩
end
def Sp:AC->AC
 | .d (.pv (.slice none 0 0))=> .nil
 |c=>c
def Up:AV->AV
 | .one c=> .one (Sp c)
 | .agg cs=> .agg (cs.map Sp)
 |v=>v
theorem NL{Z:Nat->Prop}{w:World}{ρ:Nat->Value}{c:AC}{v:Value}(h:dN Z w ρ c v):dN Z w ρ (Sp c) v:=by
 unfold Sp;split
 ·have h:ca Z w (.pv (.slice none 0 0)) v:=h;cases h;rfl
 ·exact h
theorem Sq(x:AV):AsV x (Up x):=λZ w ρ u h=>by
 cases h with
 |one c v h=>exact .one _ _ (NL h)
 |agg cs us hl h=>
  refine .agg _ us (by simp[hl]) λi c u hc hu=>?_;rw[getElem?_map]at hc;obtain⟨c0,h0,rfl⟩:=map_eq_some_iff.1 hc;exact NL (h i c0 u h0 hu)
 |tup vs us hl h=>exact .tup vs us hl h
section
variable {lo hi:Nat} {cs ds:List AD}
theorem d6.at(h:d6 lo hi cs ds){i:Nat}{c d:AD}(hc:cs[i]? =some c)(hd:ds[i]? =some d):AsD c d:=by
 obtain⟨hl,Q,q,eQ,rQ⟩:=h;exact λZ w u hr=>(rQ i c d hc hd Z w u hr).relD λb hb=>hb.2
theorem d6.asV(h:d6 lo hi cs ds):AsV (.agg (cs.map .d)) (.agg (ds.map .d)):=λZ w ρ u hr=>by
 cases hr with
 |agg _ us hl hr=>
  refine .agg _ us (by simpa[h.1]using hl) λi c u hc hu=>?_;rw[getElem?_map]at hc;obtain⟨d,hd,rfl⟩:=map_eq_some_iff.1 hc;have hi:i<cs.length:=by rw[h.1];exact(List.getElem?_eq_some_iff.1 hd).1
  exact h.at (getElem?_eq_getElem hi) hd Z w u (show dN Z w ρ (.d cs[i]) u from hr i (.d cs[i]) u (by rw[getElem?_map,getElem?_eq_getElem hi];rfl) hu)
theorem d6.mono{lo' hi':Nat}(h:d6 lo hi cs ds)(h1:lo'<=lo)(h2:hi<=hi'):d6 lo' hi' cs ds:=by
 obtain⟨hl,Q,q,eQ,rQ⟩:=h;exact⟨hl,Q,λi b h=>by have:=q i b h;omega,eQ,rQ⟩
theorem Yk{ds:List AD}(h:ds.all AD.isBl=true):d6 lo hi ds ds:=by
 refine⟨rfl,λ_ _=>False,λ_ _ h=>h.elim,λ_ _ _ h=>h.elim,λi c d hc hd Z w u hr=>?_⟩;rw[hc]at hd;injection hd with hd
 subst hd;exact Iu (List.all_eq_true.1 h c (mem_of_getElem? hc)) hr
theorem d6.sel(h:d6 lo hi cs ds){cs' ds':List AD}(ix:Nat->Nat)(hl:cs'.length=ds'.length)(h1:∀i,i<cs'.length->cs'[i]? =cs[ix i]?/\ds'[i]? =ds[ix i]?)(h2:∀i j,i<cs'.length->j<cs'.length->ix i=ix j->i=j):d6 lo hi cs' ds':=by
 obtain⟨_,Q,q,eQ,rQ⟩:=h;refine⟨hl,λi b=>i<cs'.length/\Q (ix i) b,λi b hb=>q _ b hb.2,λi j b hb hb'=>h2 i j hb.1 hb'.1 (eQ _ _ b hb.2 hb'.2),λi c d hc hd Z w u hr=>?_⟩;have hi:i<cs'.length:=(List.getElem?_eq_some_iff.1 hc).1;obtain⟨e1,e2⟩:=h1 i hi;exact(rQ (ix i) c d (by rw[<-e1];exact hc) (by rw[<-e2];exact hd) Z w u hr).mono λb hb=>⟨⟨hi,hb.1⟩,hb.2⟩
theorem d6.app{l2 h2 L H:Nat}{c2 d2:List AD}(h:d6 lo hi cs ds)(h':d6 l2 h2 c2 d2)(e:hi<=l2\/h2<=lo)(e1:L<=lo/\L<=l2)(e2:hi<=H/\h2<=H):d6 L H (cs++c2) (ds++d2):=by
 obtain⟨hl,Q,q,eQ,rQ⟩:=h;obtain⟨hl2,Q2,q2,eQ2,rQ2⟩:=h';refine⟨by simp[hl,hl2],λi b=>if i<cs.length then Q i b else Q2 (i-cs.length) b,λi b hb=>?_,λi j b hb hb'=>?_,λi c d hc hd Z w u hr=>?_⟩
 ·simp only at hb;split at hb
  ·have:=q i b hb;omega
  ·have:=q2 _ b hb;omega
 ·simp only at hb hb';split at hb<;>split at hb'
  ·exact eQ _ _ b hb hb'
  ·have:=q _ b hb;have:=q2 _ b hb';omega
  ·have:=q2 _ b hb;have:=q _ b hb';omega
  ·have:=eQ2 _ _ b hb hb';omega
 ·by_cases hi:i<cs.length
  ·rw[getElem?_append_left hi]at hc;rw[getElem?_append_left aa]at hd;simp only[if_pos hi];exact rQ i c d hc hd Z w u hr
  ·rw[getElem?_append_right aa]at hc;rw[getElem?_append_right aa,<-hl]at hd;simp only[if_neg hi];exact rQ2 _ c d hc hd Z w u hr
theorem d6.part(h:d6 lo hi cs ds)(k n:Nat):d6 lo hi ((cs.drop k).take n) ((ds.drop k).take n):=by
 refine h.sel (λi=>k+i) (by simp[h.1]) (λi hi=>?_) λi j _ _ e=>by omega
 have:i<n:=by simp at hi;omega
 exact⟨by rw[getElem?_take,if_pos this,getElem?_drop],by rw[getElem?_take,if_pos this,getElem?_drop]⟩
end
def jd:List AP1->List AD
 |[]=>[]
 | .one d::r=>d::jd r
 | .agg ds::r=>ds++jd r
inductive kH:List AP1->List Value->List Value->Prop
 |nil:kH [] [] []
 |one (d:AD) (v:Value) {ps:List AP1} {vs us:List Value} (h:kH ps vs us):kH (.one d::ps) (v::vs) (v::us)
 |agg (ds:List AD) (xs:List Value) {ps:List AP1} {vs us:List Value} (hl:xs.length=ds.length) (h:kH ps vs us):kH (.agg ds::ps) (.agg xs.toArray::vs) (xs++us)
theorem kH.len{ps:List AP1}{vs us:List Value}(h:kH ps vs us):vs.length=ps.length/\us.length=(jd ps).length:=by
 induction h with
 |nil=>exact⟨rfl,rfl⟩
 |one d v h ih=>exact⟨by simp[ih.1],by simp[jd,ih.2]⟩
 |agg ds xs hl h ih=>exact⟨by simp[ih.1],by simp[jd,ih.2,hl]⟩
theorem kH.relP{Z:Nat->Prop}{w:World}{ps:List AP1}{vs us:List Value}(h:kH ps vs us):(∀(i:Nat) a u,(jd ps)[i]? =some a->us[i]? =some u->ca Z w a u)->∀(i:Nat) p v,ps[i]? =some p->vs[i]? =some v->fw Z w p v:=by
 induction h with
 |nil=>intro _ i p v hp;simp at hp
 |one d v0 h ih=>
  intro hr i p v hp hv;cases i with
  |zero=>simp at hp hv;subst hp hv;exact hr 0 d v0 rfl rfl
  |succ i=>exact ih (λj a u ha hu=>hr (j+1) a u (by simpa[jd]using ha) (by simpa using hu)) i p v (by simpa using hp) (by simpa using hv)
 |agg ds xs hl h ih=>
  intro hr i p v hp hv;cases i with
  |zero=>
   simp at hp hv;subst hp hv;refine⟨xs,rfl,hl,λj a u ha hu=>hr j a u ?_ ?_⟩
   ·show(ds++jd _)[j]? =_;rw[getElem?_append_left (List.getElem?_eq_some_iff.1 ha).1];exact ha
   ·rw[getElem?_append_left (List.getElem?_eq_some_iff.1 hu).1];exact hu
  |succ i=>
   refine ih (λj a u ha hu=>hr (ds.length+j) a u ?_ ?_) i p v (by simpa using hp) (by simpa using hv)
   ·show(ds++jd _)[_]? =_;rw[getElem?_append_right aa,Nat.add_sub_cancel_left];exact ha
   ·rw[getElem?_append_right aa,hl,Nat.add_sub_cancel_left];exact hu
theorem ow(R:Nat->(Nat->Prop)->World->Value->Prop):∀(xs ys:List AD) (k:Nat),cW R k (xs++ys)=cW R k xs++cW R (k+xs.length) ys
 |[],ys,k=>by simp[cW]
 |x::r,ys,k=>by
  have ih:=ow R r ys (k+1);rw[show k+(x::r).length=k+1+r.length by simp;omega];cases x<;>simp[cW,ih]
def Uq(R:Nat->(Nat->Prop)->World->Value->Prop)(k:Nat):AD->AD
 | .pv v=> .pv v
 |_=> .x (R k)
def ox(R:Nat->(Nat->Prop)->World->Value->Prop):Nat->List AP1->List AV
 |_,[]=>[]
 |k,.one d::r=> .one (.d (Uq R k d))::ox R (k+1) r
 |k,.agg ds::r=> .agg ((cW R k ds).map .d)::ox R (k+ds.length) r
theorem kH.relV{Z:Nat->Prop}{w:World}{ρ:Nat->Value}(R:Nat->(Nat->Prop)->World->Value->Prop){ps:List AP1}{vs us:List Value}(h:kH ps vs us):∀k,(∀(i:Nat) c u,(cW R k (jd ps))[i]? =some c->us[i]? =some u->ca Z w c u)->∀(i:Nat) x v,(ox R k ps)[i]? =some x->vs[i]? =some v->cn Z w ρ x v:=by
 induction h with
 |nil=>intro k _ i x v hp;simp[ox]at hp
 | @one d v0 ps0 vs0 us0 h ih=>
  intro k hr i x v hp hv;have e:cW R k (jd (.one d::ps0))=Uq R k d::cW R (k+1) (jd ps0):=by cases d<;>rfl
  rw[e]at hr;cases i with
  |zero=>simp[ox]at hp hv;subst hp hv;exact .one _ _ (hr 0 _ v0 rfl rfl)
  |succ i=>exact ih (k+1) (λj a u ha hu=>hr (j+1) a u (by simpa using ha) (by simpa using hu)) i x v (by simpa[ox]using hp) (by simpa using hv)
 | @agg ds xs ps0 vs0 us0 hl h ih=>
  intro k hr i x v hp hv;have e:cW R k (jd (.agg ds::ps0))=cW R k ds++cW R (k+ds.length) (jd ps0):=ow R ds _ k;rw[e]at hr;cases i with
  |zero=>
   simp[ox]at hp hv;subst hp hv;refine .agg _ xs (by simp[eg,hl]) λj c u hc hu=>?_;rw[getElem?_map]at hc;obtain⟨a,ha,rfl⟩:=map_eq_some_iff.1 hc;exact hr j a u (by rw[getElem?_append_left (List.getElem?_eq_some_iff.1 ha).1];exact ha) (by rw[getElem?_append_left (List.getElem?_eq_some_iff.1 hu).1];exact hu)
  |succ i=>
   refine ih _ (λj a u ha hu=>hr (ds.length+j) a u ?_ ?_) i x v (by simpa[ox]using hp) (by simpa using hv)
   ·rw[getElem?_append_right (by rw[eg];omega),eg,Nat.add_sub_cancel_left];exact ha
   ·rw[getElem?_append_right aa,hl,Nat.add_sub_cancel_left];exact hu
def To(lo hi:Nat)(w:World)(ps:List AP1)(v:Value):Prop:=
 ∃vs us:List Value,v= .tuple vs.toArray/\kH ps vs us/\dF w (λb=>lo<=b/\b<hi) (jd ps) us
structure dZ (E:bz) (f:FuncId) (args:List AP1) (res:List AP1):Prop where
 enter:∀(us:Array Value) w,(callFunc f us).run E.P w= .ok (.enter f us) w
 run:∀(Z:Nat->Prop) (w:World) (us:List Value),(∀b,Z b->b<w.heap.size)->GZ E.W Z w->us.length=args.length->(∀(i:Nat) p u,args[i]? =some p->us[i]? =some u->fw Z w p u)->
  Calls E.P f us.toArray w λe w'=>∃v,e= .returned v/\Below w.heap.size w w'/\To w.heap.size w'.heap.size w' res v
theorem dZ.pcall{E:bz}{f:FuncId}{args:List AP1}{res:List AP1}(h:dZ E f args res):aL E f args (.tup res):=by
 refine⟨h.enter,λZ w us hz hg hl hr=>(h.run Z w us hz hg hl hr).mono ?_⟩;rintro e w' ⟨v,rfl,hb,vs,us',rfl,hc,hf⟩;refine⟨_,λb=>Z b\/(w.heap.size<=b/\b<w'.heap.size),rfl,hb,λb hb=> .inl hb,λb hb=>hb,vs,rfl,hc.len.1,λi p u hp hu=>?_⟩;exact hc.relP (λi a u ha hu=>(dF.relD hf λb hb=> .inr hb).2 i a u ha hu) i p u hp hu
section
variable {E:bz} {S:bR}
theorem XM{f:FuncId}{args:List AV}{tm:List AV}{ob:List (Nat×AO)}{K:AV->ASt->Prop}{ps:List AP1}{res:List AP1}{m:Nat}(hc:dZ E f ps res)(hps:aRs ob args (· =ps))(hm:aOb ob 9997 λo=>o=cS S.w0.heap.size m)
  (hk:∀R lo hi,m<=lo->lo<=hi->d6 lo hi (cW R 0 (jd res)) (jd res)->fW 9997 (cS S.w0.heap.size hi) ob λob=>K (.tup (ox R 0 res)) ⟨tm,ob⟩):aG E S f args ⟨tm,ob⟩ K:=by
 refine⟨hc.enter,λZ ρ a w us hs hl hr=>?_⟩;obtain⟨ps',h1,h2,rfl⟩:=gE hs.ws hl hr hps;obtain⟨o,ho,rfl⟩:=cm hm;have hmark:=yx (hs.ws.obj 9997 _ ho);have hρ:ρ 9997=undef:=(hs.ws.obj 9997 _ ho).1;have hmle:m<=w.heap.size:=by
  rcases hmark with h|⟨k,e,h⟩
  ·exact Nat.le_trans h hs.ws.size
  ·have:=hs.ws.zlt k h;omega
 refine(hc.run (gU Z ρ ob) w us (gU.lt hs.ws) ?_ h1 h2).mono ?_
 ·obtain⟨w1,g1,g2,g3⟩:=hs.ws.g;exact⟨w1,g1,g2,λb hb=> .inl (g3 b hb)⟩
 ·rintro e w' ⟨v,rfl,hb,vs,us',rfl,hcl,hf⟩;have hsz:=hb.size;obtain⟨lF,Q,q,eQ,rQ⟩:=hf;let R:Nat->(Nat->Prop)->World->Value->Prop:=λi Zx wx u=>(∀b,Q i b->Zx b)/\∃a,(jd res)[i]? =some a/\cf wx (Q i) a u
  let Z':Nat->Prop:=λb=>Z b\/(w.heap.size<=b/\b<w'.heap.size)
  have hg:=hs.grow (Z':=Z') (dO hb) (λb h=> .inl h) λb h=>h;have hcell:∀(i:Nat) c u,(cW R 0 (jd res))[i]? =some c->us'[i]? =some u->ca Z' w' c u:=by
   intro i c u hc hu;obtain⟨d,hd,h⟩:=lc R hc;have ht:=rQ i d u hd hu;rcases h with⟨x,rfl,rfl⟩|h
   ·cases ht with|pv _ _ h1=>exact .pv _ h1
   ·rw[zero_add]at h;subst h;refine .x _ _ ht.one λZx wx hzx hbx=>⟨λb hb=>hzx b (.inr (q i b hb)),d,hd,ht.keep λb hb=>hbx b (.inr (q i b hb))⟩
  have hfam:∀lo hi:Nat,(∀b,w.heap.size<=b->b<w'.heap.size->lo<=b/\b<hi)->d6 lo hi (cW R 0 (jd res)) (jd res):=by
   intro lo hi hlh;refine⟨eg R _ _,Q,λi b h=>hlh b (q i b h).1 (q i b h).2,eQ,λi c a hc ha Zx wx u hrel=>?_⟩;obtain⟨d,hd,h⟩:=lc R hc;rw[ha]at hd;injection hd with hd
   subst hd;rcases h with⟨x,e1,e2⟩|h
   ·rw[e2]at hrel;rw[e1];cases hrel with|pv _ h1=>exact .pv _ _ h1
   ·rw[h,zero_add]at hrel;cases hrel with
    |x _ _ h1 hR=>
     obtain⟨hz,a',ha',ht⟩:=hR Zx wx (λ_ h=>h) λ_ _=>rfl;rw[ha]at ha';injection ha' with ha'
     subst ha';exact ht.mono λb hb=>⟨hb,hz b hb⟩
  have hvl:vs.length=(ox R 0 res).length:=by
   have:∀(l:List AP1) k,(ox R k l).length=l.length:=by
    intro l;induction l with
    |nil=>intro k;rfl
    |cons p r ih=>intro k;cases p<;>simp[ox,ih]
   rw[this,hcl.len.1]
  have hval:cn Z' w' ρ (.tup (ox R 0 res)) (.tuple vs.toArray):= .tup _ vs hvl (hcl.relV R 0 hcell);have fin:∀hi:Nat,(hi<=S.w0.heap.size\/∃k,hi=k+1/\Z' k)->Sim E.W S Z' ρ ⟨tm,eD ob 9997 (cS S.w0.heap.size hi)⟩ a w':=λhi h=>
   ⟨hg.ws.reframe (me hρ h),hg.len,hg.tm,hg.df⟩
  by_cases hlt:w.heap.size<w'.heap.size
  ·refine⟨_,_,_,Z',ρ,rfl,fin w'.heap.size (.inr ⟨w'.heap.size-1,aa,.inr aa⟩),hval,dh (K:=λob=>K (.tup (ox R 0 res)) ⟨tm,ob⟩) (hk R w.heap.size w'.heap.size hmle hsz (hfam _ _ λb h1 h2=>⟨h1,h2⟩))⟩
  ·refine⟨_,_,_,Z',ρ,rfl,fin m ?_,hval,dh (K:=λob=>K (.tup (ox R 0 res)) ⟨tm,ob⟩) (hk R m m (Nat.le_refl _) (Nat.le_refl _) (hfam _ _ λb h1 h2=>by omega))⟩;rcases hmark with h|⟨k,e,h⟩
   ·exact .inl h
   ·exact .inr ⟨k,e,.inl h⟩
end
end
section
open Go.Proofs.Tryz
open Go.RowKit
def zI(ob:List (Nat×AO)):List AC->List AD->List Nat->(List AD->List AD->Prop)->Prop
 |[],ds,_,K=>match ds with
  |[]=>K [] []
  |_=>False
 | .own id::r,ds,L,K=>match ds with
  | .sl ys::q=>match inL L id with
   |true=>False
   |false=>aOb ob id λo=>match o with
    | .row _ s xs=>And (ys.length=xs.length) (And (∀y∈ys,y.length=s) (zI ob r q (id::L) λC D=>K (xs.flatten++C) (ys.flatten++D)))
    |_=>False
  |_=>False
 | .d x::r,ds,L,K=>match ds with
  |d::q=>zI ob r q L λC D=>K (x::C) (d::D)
  |_=>False
 | .nil::r,ds,L,K=>match ds with
  |d::q=>And (d= .sl []\/d= .pv (.slice none 0 0)) (zI ob r q L K)
  |_=>False
 |_::_,_,_,_=>False
def Ff:List AV->(List AC->Prop)->Prop
 |[],K=>K []
 | .one c::r,K=>Ff r λcs=>K (c::cs)
 | .agg xs::r,K=>Ff r λcs=>K (xs++cs)
 | .tup _::_,_=>False
def shp:List AV->List AP1->Bool
 |[],[]=>true
 | .one _::r,.one _::q=>shp r q
 | .agg cs::r,.agg ds::q=>Nat.beq cs.length ds.length&&shp r q
 |_,_=>false
def IP(ob:List (Nat×AO))(n:Nat)(xs:List AV)(ps:List AP1):Prop:=
 And (shp xs ps=true) (Ff xs λcs=>zI ob cs (jd ps) [] λC D=>∃lo hi:Nat,n<=lo/\Fam lo hi C D)
def IT(E:bz)(st:ASt):List ResultVar->(List AV->Prop)->Prop
 |[],K=>K []
 | .tmp t::r,K=>aTm st.tm t λv=>IT E st r λvs=>K (v::vs)
 | .cell t ty::r,K=>aTm st.tm t λx=>tI E st ty x λv=>IT E st r λvs=>K (v::vs)
def Uv(E:bz)(rs:List ResultVar)(n:Nat)(ps:List AP1):Exit->ASt->Prop
 | .ret,st=>IT E st rs λxs=>IP st.ob n xs ps
 | .normal,st=>IT E st rs λxs=>IP st.ob n xs ps
 |_,_=>False
section
variable {E:bz} {S:bR} {Z:Nat->Prop} {ρ:Nat->Value} {w:World} {ob:List (Nat×AO)}
theorem yr(h:WS E.W S Z w ρ ob):∀{cs:List AC} {ds:List AD} {us:List Value} {L:List Nat} {K:List AD->List AD->Prop},us.length=cs.length->(∀(i:Nat) c u,cs[i]? =some c->us[i]? =some u->dN Z w ρ c u)->zI ob cs ds L K->
  ∃C D uu,K C D/\uu.length=C.length/\(∀(i:Nat) c u,C[i]? =some c->uu[i]? =some u->ca Z w c u)/\∀P:Nat->Prop,(∀b,P b->Z b)->dF w P D uu->dF w (λb=>P b\/IO ρ ob L b) ds us
 |[],ds,[],L,K,_,_,hk=>by
  cases ds with
  |nil=>exact⟨[],[],[],hk,rfl,by simp,λP _ _=>dF.nil⟩
  |cons d q=>exact hk.elim
 |[],_,_::_,_,_,hl,_,_=>by simp at hl
 |_::_,_,[],_,_,hl,_,_=>by simp at hl
 |c::r,ds,u::us,L,K,hl,hr,hk=>by
  have hl':us.length=r.length:=by simpa using hl
  have hr':∀(i:Nat) c u,r[i]? =some c->us[i]? =some u->dN Z w ρ c u:=λi x y h1 h2=>hr (i+1) x y (by simpa using h1) (by simpa using h2);have h0:dN Z w ρ c u:=hr 0 c u rfl rfl;cases c with
  |own id=>
   cases ds with
   |nil=>exact hk.elim
   |cons d q=>
    cases d with
    |sl ys=>
     simp only[zI]at hk;split at hk
     ·exact hk.elim
     ·rename_i hin;obtain⟨o,ho,hk⟩:=cm hk;split at hk
      ·rename_i e s xs;obtain⟨hyl,hys,hk⟩:=hk;have hu:u=ρ id:=h0.1;subst hu;obtain⟨C,D,uu,hK,h1,h2,h3⟩:=yr h hl' hr' hk;obtain⟨ur,hs,hul,hxs,hus,hown,hd⟩:=h.obj id _ ho;have hlx:xs.flatten.length=xs.length*s:=fb hxs;have hlu:ur.flatten.length=xs.flatten.length:=by rw[fb hus,hlx,hul]
       refine⟨xs.flatten++C,ys.flatten++D,ur.flatten++uu,hK,by simp only[List.length_append,hlu,h1],λi c u hc hu=>?_,λP hP hf=>?_⟩
       ·by_cases hi:i<xs.flatten.length
        ·rw[getElem?_append_left hi]at hc;rw[getElem?_append_left aa]at hu;rw[hlx]at hi;have hdm:i=i/s*s+i % s:=(Nat.div_add_mod' i s).symm;have hrm:i % s<s:=Nat.mod_lt _ hs;have hkk:i/s<xs.length:=Nat.div_lt_of_lt_mul (by rw[Nat.mul_comm];exact hi);rw[hdm,dz hxs (getElem?_eq_getElem hkk) hrm]at hc;rw[hdm,dz hus (getElem?_eq_getElem aa) hrm]at hu;exact hd _ _ _ _ c u (getElem?_eq_getElem hkk) (getElem?_eq_getElem aa) hc hu
        ·rw[getElem?_append_right aa]at hc;rw[getElem?_append_right aa,hlu]at hu;exact h2 _ c u hc hu
       ·obtain⟨u1,u2,P1,P2,eu,dj,a1,a2,f1,f2⟩:=dF.split hf;have hl1:u1.length=ur.flatten.length:=by rw[f1.1,hlu,hlx,fb hys,hyl]
        obtain⟨rfl,rfl⟩:=List.append_inj eu hl1.symm;obtain⟨lF,Q,qq,eQ,rQ⟩:=f1;have hrel:cf w (λb=>bZ (ρ id)=some b\/P1 b) (.sl ys) (ρ id):=by
         refine .sl _ ys e s ur _ Q hs (by rw[hul,hyl]) hys hus (by rw[hyl];exact hown) (λb hb=>⟨.inl hb,λi hq=>(h.mine id _ b ho hb).1 (hP b (a1 b (qq i b hq)))⟩) (λi b hb=> .inr (qq i b hb)) eQ rQ
        refine dF.append (d1:=[.sl ys]) (P:=λb=>P b\/IO ρ ob L b) (dF.one hrel) (h3 P2 (λb hb=>hP b (a2 b hb)) f2) (λb q1 q2=>?_) (λb q=>?_) (λb q=>?_)
        ·rcases q1 with q1|q1
         ·rcases q2 with q2|⟨id2,o2,hin2,ho2,hb2⟩
          ·exact(h.mine id _ b ho q1).1 (hP b (a2 b q2))
          ·exact h.sep id2 id o2 _ b ho2 ho (qa hin2).2 hb2 q1
         ·rcases q2 with q2|⟨id2,o2,hin2,ho2,hb2⟩
          ·exact dj b q1 q2
          ·exact(h.mine id2 _ b ho2 hb2).1 (hP b (a1 b q1))
        ·rcases q with q|q
         ·exact .inr ⟨id,_,hin,ho,q⟩
         ·exact .inl (a1 b q)
        ·exact q.imp (a2 b) fun⟨id2,o2,a,b,c⟩=>⟨id2,o2,(qa a).1,b,c⟩
      ·exact hk.elim
    |pv _=>exact hk.elim
    |x _=>exact hk.elim
  |d x=>
   cases ds with
   |nil=>exact hk.elim
   |cons d q=>
    obtain⟨C,D,uu,hK,h1,h2,h3⟩:=yr h hl' hr' (show zI ob r q L λC D=>K (x::C) (d::D)from hk);refine⟨x::C,d::D,u::uu,hK,by simp[h1],λi c v hc hv=>?_,λP hP hf=>?_⟩
    ·cases i with
     |zero=>simp at hc hv;subst hc hv;exact h0
     |succ i=>exact h2 i c v (by simpa using hc) (by simpa using hv)
    ·obtain⟨u1,u2,P1,P2,eu,dj,a1,a2,f1,f2⟩:=dF.split (d1:=[d]) (d2:=D) hf;have hu1:u1=[u]/\u2=uu:=by
      have:=f1.1;match u1,this with
      |[y],_=>injection eu with e1 e2;exact⟨by rw[e1],e2.symm⟩
     obtain⟨rfl,rfl⟩:=hu1;refine dF.append (d1:=[d]) (P:=λb=>P b\/IO ρ ob L b) f1 (h3 P2 (λb hb=>hP b (a2 b hb)) f2) (λb q1 q2=>?_) (λb q=> .inl (a1 b q)) (λb q=>q.imp (a2 b) id);rcases q2 with q2|⟨id2,o2,_,ho2,hb2⟩
     ·exact dj b q1 q2
     ·exact(h.mine id2 _ b ho2 hb2).1 (hP b (a1 b q1))
  |nil=>
   cases ds with
   |nil=>exact hk.elim
   |cons d q=>
    obtain⟨e1,hk2⟩:=(show And (d= .sl []\/d= .pv (.slice none 0 0)) (zI ob r q L K)from hk);have hu:u= .slice none 0 0:=h0;subst hu;obtain⟨C,D,uu,hK,h1,h2,h3⟩:=yr h hl' hr' hk2;refine⟨C,D,uu,hK,h1,h2,λP hP hf=>?_⟩;exact dF.append (d1:=[d]) (u1:=[.slice none 0 0]) (P1:=λ_=>False) (dF.one (by rcases e1 with rfl|rfl;exact .emp _ _ _ (zero_le _);exact .pv _ _ rfl)) (h3 P hP hf) (λ_ h=>h.elim) (λ_ h=>h.elim) λb q=>q
  |dead=>exact hk.elim
  |und=>exact hk.elim
  |ref _ _ _ _=>exact hk.elim
  |ptr _=>exact hk.elim
theorem yY:∀{xs:List AV} {vs:List Value} {ps:List AP1} {K:List AC->Prop},vs.length=xs.length->(∀(i:Nat) x v,xs[i]? =some x->vs[i]? =some v->cn Z w ρ x v)->shp xs ps=true->Ff xs K->
  ∃cs us,K cs/\us.length=cs.length/\(∀(i:Nat) c u,cs[i]? =some c->us[i]? =some u->dN Z w ρ c u)/\kH ps vs us
 |[],[],ps,K,_,_,hs,hk=>by
  cases ps with
  |nil=>exact⟨[],[],hk,rfl,by simp,.nil⟩
  |cons p q=>cases hs
 |[],_::_,_,_,hl,_,_,_=>by simp at hl
 |_::_,[],_,_,hl,_,_,_=>by simp at hl
 |x::r,v::vs,ps,K,hl,hr,hs,hk=>by
  have hl':vs.length=r.length:=by simpa using hl
  have hr':∀(i:Nat) x v,r[i]? =some x->vs[i]? =some v->cn Z w ρ x v:=λi x y h1 h2=>hr (i+1) x y (by simpa using h1) (by simpa using h2);have h0:cn Z w ρ x v:=hr 0 x v rfl rfl;cases h0 with
  |one c v h0=>
   match ps,hs with
   | .one d::q,hs=>
    obtain⟨cs,us,hK,h1,h2,h3⟩:=yY hl' hr' (show shp r q=true from hs) (show Ff r λcs=>K (c::cs)from hk);refine⟨c::cs,v::us,hK,by simp[h1],λi a b ha hb=>?_,.one d v h3⟩;cases i with
    |zero=>simp at ha hb;subst ha hb;exact h0
    |succ i=>exact h2 i a b (by simpa using ha) (by simpa using hb)
  |agg az ws hl2 h0=>
   match ps,hs with
   | .agg ds::q,hs=>
    simp only[shp,Bool.and_eq_true]at hs;have e:=Nat.eq_of_beq_eq_true hs.1;obtain⟨cs,us,hK,h1,h2,h3⟩:=yY hl' hr' hs.2 (show Ff r λcs=>K (az++cs)from hk);refine⟨az++cs,ws++us,hK,by simp[h1,hl2],λi a b ha hb=>?_,.agg ds ws (by rw[hl2,e]) h3⟩;by_cases hi:i<az.length
    ·rw[getElem?_append_left hi]at ha;rw[getElem?_append_left aa]at hb;exact h0 i a b ha hb
    ·rw[getElem?_append_right aa]at ha;rw[getElem?_append_right aa,hl2]at hb;exact h2 _ a b ha hb
  |tup az ws hl2 h0=>exact hk.elim
theorem Jo{st:ASt}(h:WS E.W S Z w ρ st.ob)(hO:∀b,¬S.O b){xs:List AV}{vs:List Value}{ps:List AP1}(hl:vs.length=xs.length)(hr:∀(i:Nat) x v,xs[i]? =some x->vs[i]? =some v->cn Z w ρ x v)(hk:IP st.ob S.w0.heap.size xs ps):
  ∃us,kH ps vs us/\dF w (λb=>S.w0.heap.size<=b/\b<w.heap.size) (jd ps) us:=by
 obtain⟨hs,hk⟩:=hk;obtain⟨cs,us,hk,h1,h2,h3⟩:=yY hl hr hs hk;obtain⟨C,D,uu,⟨lo,hi,hn,hF⟩,h4,h5,h6⟩:=yr h h1 h2 hk;refine⟨us,h3,(h6 _ (λb hb=>hb.2.2) (hF.2 Z w uu h4 h5)).mono λb hb=>?_⟩;rcases hb with hb|⟨id,o,_,ho,hb⟩
 ·exact⟨aa,h.zlt b hb.2.2⟩
 ·exact⟨(h.mine id o b ho hb).2.resolve_right (hO b),h.lt ho hb⟩
theorem BX(he:E.Ok){st:ASt}{a:Act}(h:Sim E.W S Z ρ st a w):∀{rs:List ResultVar} {K:List AV->Prop},IT E st rs K->
  ∃(vs:List Value) (xs:List AV),(rs.mapM (eL a.tmps)).run E.P w= .ok vs w/\vs.length=xs.length/\vs.length=rs.length/\(∀(i:Nat) x v,xs[i]? =some x->vs[i]? =some v->cn Z w ρ x v)/\K xs
 |[],K,hk=>⟨[],[],rfl,rfl,rfl,by simp,hk⟩
 |r::rs,K,hk=>by
  obtain⟨v,x,h1,h2,hk⟩:∃v x,(eL a.tmps r).run E.P w= .ok v w/\cn Z w ρ x v/\IT E st rs λvs=>K (x::vs):=by
   cases r with
   |tmp t=>
    obtain⟨x,hx,hk⟩:=iX hk;have hlt:t<a.tmps.size:=by rw[h.len];exact(List.getElem?_eq_some_iff.1 hx).1
    exact⟨a.tmps[t],x,by simp[eL,hlt],h.tm t x _ hx (Array.getElem?_eq_getElem hlt),hk⟩
   |cell t ty=>
    obtain⟨x,hx,hk⟩:=iX hk;have hlt:t<a.tmps.size:=by rw[h.len];exact(List.getElem?_eq_some_iff.1 hx).1
    obtain⟨b,off,v,y,e,hrl,hy,hk⟩:=qb he h (h.tm t x _ hx (Array.getElem?_eq_getElem hlt)) hk;exact⟨v,y,by simp[eL,hlt,e,asAddr,hrl],hy,hk⟩
  obtain⟨vs,xs,h3,h4,h5,h6,hk⟩:=BX he h hk;refine⟨v::vs,x::xs,?_,by simp[h4],by simp[h5],λi y u hy hu=>?_,hk⟩
  ·rw[List.mapM_cons,Sem.run_bind,h1];simp only[Result.andThen_ok];rw[Sem.run_bind,h3];rfl
  ·cases i with
   |zero=>simp at hy hu;subst hy hu;exact h2
   |succ i=>exact h6 i y u (by simpa using hy) (by simpa using hu)
theorem TA{T:World->Prop}{Z:Nat->Prop}{w:World}{us:List Value}{args:List AP1}{k:Nat}(hz:∀b,Z b->b<w.heap.size)(hg:GZ T Z w)(hl:us.length=args.length)(hr:∀(i:Nat) p u,args[i]? =some p->us[i]? =some u->fw Z w p u)(hle:args.length<=k):
  Sim T ⟨w,λ_=>False,Z⟩ Z (λ_=>undef) ⟨args.map AP1.v++List.replicate (k-args.length) (.one .und),[(9997,cS w.heap.size w.heap.size)]⟩ {tmps:=us.toArray++Array.replicate (k-us.toArray.size) undef,defers:=[]} w:=by
 have hw0:WS T ⟨w,λ_=>False,Z⟩ Z w (λ_=>undef) []:=⟨rfl,rfl,rfl,Nat.le_refl _,λ_ _ _=>rfl,hz,λid o b ho _=>(by cases ho),λi j oi oj b hi _ _ _ _=>(by cases hi),λid o ho=>(by cases ho),lu.nil,hg,λb hb=>hb,λb hb=> .inl hb⟩;refine⟨hw0.reframe (id:=9997) (me rfl (.inl (Nat.le_refl _))),by simp[hl],λi x v hx hv=>?_,rfl⟩;simp only at hx hv;have hv':(us++List.replicate (k-us.length) undef)[i]? =some v:=by
  have:=hv;rw[<-Array.getElem?_toList]at this;simpa using this
 by_cases hi:i<us.length
 ·rw[getElem?_append_left (by simpa[hl]using hi),getElem?_map]at hx;obtain⟨p,hp,rfl⟩:=map_eq_some_iff.1 hx;rw[getElem?_append_left hi]at hv';exact(hr i p v hp hv').v
 ·rw[getElem?_append_right al]at hx;rw[getElem?_append_right aa]at hv';have e1:=List.eq_of_mem_replicate (mem_of_getElem? hx);have e2:=List.eq_of_mem_replicate (mem_of_getElem? hv');subst e1 e2;exact .one _ _ (show dN Z w (λ_=>undef) .und undef from rfl)
theorem AL{fn:Func}{tmps:Array Value}{P:Program}{w:World}{vs:List Value}(h:(fn.results.toList.mapM (eL tmps)).run P w= .ok vs w):(results fn tmps).run P w= .ok (if h:vs.toArray.size=1 then vs.toArray[0]else .tuple vs.toArray) w:=by
 have e:results fn tmps=(do let vs<-fn.results.mapM (eL tmps);pure (if h:vs.size=1 then vs[0]else .tuple vs)):=rfl;rw[e,Sem.run_bind,Array.mapM_eq_mapM_toList,Sem.run_map,h];rfl
theorem lO(he:E.Ok){f:FuncId}{fn:Func}{c:Code}{n:Nat}{rs:List ResultVar}{args:List AP1}{res:AP1}(hf:E.P.funcs[f]? =some fn)(hb:fn.body=some c)
  (enter:∀(us:Array Value) w,(callFunc f us).run E.P w= .ok (.enter f us) w) (hn:fn.ntmps=n) (hrs:fn.results.toList=rs)
  (h:∀S:bR,zF args n λtm=>AWP E S c (Uv E rs S.w0.heap.size [res]) ⟨tm,[(9997,cS S.w0.heap.size S.w0.heap.size)]⟩):cg E f args res:=by
 refine⟨enter,λZ w us hz hg hl hr=>?_⟩;subst hn hrs;obtain⟨hle,hk⟩:=nE (h ⟨w,λ_=>False,Z⟩);refine calls_of_wp hf hb (wp_mono (hk.run _ w ⟨Z,_,TA hz hg hl hr hle⟩) λe a' w' h'=>?_);obtain⟨st',⟨Z',ρ',hs'⟩,hk'⟩:=h';have fin:IT E st' fn.results.toList (λxs=>IP st'.ob w.heap.size xs [res])->a'.defers=[]/\∃v,(results fn a'.tmps).run E.P w'= .ok v w'/\∃v0,Ending.returned v= .returned v0/\Below w.heap.size w w'/\EB w.heap.size w'.heap.size w' res v0:=by
  intro hr;obtain⟨vs,xs,h1,h2,h3,h4,h5⟩:=BX he hs' hr;obtain⟨us',h6,h7⟩:=Jo (S:=⟨w,λ_=>False,Z⟩) hs'.ws (λb h=>h) h2 h4 h5;have h8:=h6.len.1;match vs,h8,h6,h1 with
  |[v],_,h6,h1=>
   refine⟨hs'.df,v,by rw[AL h1];rfl,v,rfl,⟨hs'.ws.os,hs'.ws.tape,hs'.ws.output,hs'.ws.size,λb hb=>hs'.ws.old b hb (λh=>h)⟩,?_⟩;cases h6 with
   |one d _ h9=>cases h9;exact h7
   |agg ds ws hl9 h9=>cases h9;simp only[jd,List.append_nil]at h7;exact⟨ws,rfl,h7⟩
 cases e with
 |normal=>exact fin hk'
 |ret=>exact fin hk'
 |_=>exact hk'.elim
theorem bP(he:E.Ok){f:FuncId}{fn:Func}{c:Code}{n:Nat}{rs:List ResultVar}{args:List AP1}{res:List AP1}(hf:E.P.funcs[f]? =some fn)(hb:fn.body=some c)
  (enter:∀(us:Array Value) w,(callFunc f us).run E.P w= .ok (.enter f us) w) (hn:fn.ntmps=n) (hrs:fn.results.toList=rs) (h1:Nat.beq rs.length 1=false)
  (h:∀S:bR,zF args n λtm=>AWP E S c (Uv E rs S.w0.heap.size res) ⟨tm,[(9997,cS S.w0.heap.size S.w0.heap.size)]⟩):dZ E f args res:=by
 refine⟨enter,λZ w us hz hg hl hr=>?_⟩;subst hn hrs;obtain⟨hle,hk⟩:=nE (h ⟨w,λ_=>False,Z⟩);refine calls_of_wp hf hb (wp_mono (hk.run _ w ⟨Z,_,TA hz hg hl hr hle⟩) λe a' w' h'=>?_);obtain⟨st',⟨Z',ρ',hs'⟩,hk'⟩:=h';have fin:IT E st' fn.results.toList (λxs=>IP st'.ob w.heap.size xs res)->a'.defers=[]/\∃v,(results fn a'.tmps).run E.P w'= .ok v w'/\∃v0,Ending.returned v= .returned v0/\Below w.heap.size w w'/\To w.heap.size w'.heap.size w' res v0:=by
  intro hr;obtain⟨vs,xs,h2,h3,h4,h5,h6⟩:=BX he hs' hr;obtain⟨us',h7,h8⟩:=Jo (S:=⟨w,λ_=>False,Z⟩) hs'.ws (λb h=>h) h3 h5 h6;have hn1:¬vs.toArray.size=1:=by
   have:=Nat.ne_of_beq_eq_false h1;simpa[h4]using this
  exact⟨hs'.df,_,AL h2,_,rfl,⟨hs'.ws.os,hs'.ws.tape,hs'.ws.output,hs'.ws.size,λb hb=>hs'.ws.old b hb (λh=>h)⟩,vs,us',by rw[dif_neg hn1],h7,h8⟩
 cases e with
 |normal=>exact fin hk'
 |ret=>exact fin hk'
 |_=>exact hk'.elim
end
end
section
open Go.Proofs.Tryz
open Go.RowKit
def dU(R:Nat->(Nat->Prop)->World->Value->Prop):Nat->List (List AD)->List (List AD)
 |_,[]=>[]
 |k,x::r=>cW R k x::dU R (k+x.length) r
section
variable (R:Nat->(Nat->Prop)->World->Value->Prop)
theorem jq:∀(xs:List (List AD)) (k:Nat),(dU R k xs).length=xs.length
 |[],_=>rfl
 |x::r,k=>by simp[dU,jq r]
theorem rJ:∀(xs:List (List AD)) (k:Nat),(dU R k xs).flatten=cW R k xs.flatten
 |[],_=>rfl
 |x::r,k=>by simp[dU,rJ r,ow]
theorem ky{s:Nat}:∀{xs:List (List AD)} {k:Nat},(∀x∈xs,x.length=s)->∀x∈dU R k xs,x.length=s
 |[],_,_,x,hx=>by simp[dU]at hx
 |y::r,k,h,x,hx=>by
  rcases List.mem_cons.1 (show x∈cW R k y::dU R (k+y.length) r from hx)with rfl|hx
  ·rw[eg];exact h y ah
  ·exact ky (λz hz=>h z (by simp[hz])) x hx
theorem uJ{s:Nat}:∀{xs:List (List AD)} {k i:Nat},(∀x∈xs,x.length=s)->(dU R k xs)[i]? =(xs[i]?).map (cW R (k+i*s))
 |[],_,_,_=>by simp[dU]
 |y::r,k,0,h=>by simp[dU]
 |y::r,k,i+1,h=>by
  have ih:=uJ (xs:=r) (k:=k+y.length) (i:=i) λz hz=>h z (by simp[hz]);have e:k+y.length+i*s=k+(i+1)*s:=by rw[h y ah,Nat.succ_mul];omega
  rw[e]at ih;simpa[dU]using ih
end
theorem RL(P:Nat->Prop)(lo:Nat):∀n:Nat,∃hi,lo<=hi/\hi<=lo+n/\(∀b,P b->lo<=b->b<lo+n->b<hi)/\(hi=lo\/∃k,hi=k+1/\P k/\lo<=k)
 |0=>⟨lo,Nat.le_refl _,Nat.le_refl _,λb _ h1 h2=>by omega,.inl rfl⟩
 |n+1=>by
  by_cases h:P (lo+n)
  ·exact⟨lo+n+1,aa,aa,λb _ _ h=>h,.inr ⟨lo+n,rfl,h,aa⟩⟩
  ·obtain⟨hi,h1,h2,h3,h4⟩:=RL P lo n;refine⟨hi,h1,aa,λb hb h5 h6=>?_,h4⟩;rcases Nat.lt_or_ge b (lo+n)with h7|h7
   ·exact h3 b hb h5 h7
   ·have:b=lo+n:=aa;subst this;exact(h hb).elim
theorem DE(i:Nat)(a b:AO):∀l:List (Nat×AO),eD (eD l i a) i b=eD l i b
 |[]=>by simp[eD]
 |(k,x)::r=>by
  by_cases h:k=i
  ·simp[eD,h]
  ·simp[eD,h,DE i a b r]
def BM(Z:Nat->Prop)(n n' g:Nat):Nat->Prop:=λb=>Z b\/(n<=b/\b<n'/\b≠g)
section
variable {E:bz} {S:bR}
theorem Sim.freshOwn{Z:Nat->Prop}{ρ:Nat->Value}{tm:List AV}{ob:List (Nat×AO)}{a:Act}{w w':World}(hs:Sim E.W S Z ρ ⟨tm,ob⟩ a w)(hb:Below w.heap.size w w'){m id:Nat}(hm:bo ob 9997=some (cS S.w0.heap.size m))(hid:id≠9997){v:Value}{g:Nat}(hg:bZ v=some g)(hg1:w.heap.size<=g)
  {QL:Nat->Nat->Prop} (hQ:∀i b,QL i b->w.heap.size<=b/\b<w'.heap.size/\b≠g) (eQ:∀i j b,QL i b->QL j b->i=j) {D:List AD} {uL:List Value} (hlen:uL.length=D.length) (rQ:∀(i:Nat) a u,D[i]? =some a->uL[i]? =some u->cf w' (QL i) a u):
  ∃R lo hi,m<=lo/\lo<=hi/\d6 lo hi (cW R 0 D) D/\(∀(i:Nat) c u,(cW R 0 D)[i]? =some c->uL[i]? =some u->ca (BM Z w.heap.size w'.heap.size g) w' c u)/\
   ∀(e:TypeId) (s:Nat) (xs:List (List AD)) (us:List (List Value)),0<s->us.length=xs.length->(∀x∈xs,x.length=s)->(∀u∈us,u.length=s)->w'.ownsRow 0 e s v xs.length us.flatten->(∀(i j:Nat) x u a b,xs[i]? =some x->us[i]? =some u->x[j]? =some a->u[j]? =some b->ca (BM Z w.heap.size w'.heap.size g) w' a b)->
    Sim E.W S (BM Z w.heap.size w'.heap.size g) (λi=>if i=id then v else ρ i) ⟨(fh id ⟨tm,ob⟩).tm,eD (eD (fh id ⟨tm,ob⟩).ob id (.row e s xs)) 9997 (cS S.w0.heap.size hi)⟩ a w':=by
 have hsz:=hb.size;have hgr:=dO hb;have hmark:=yx (hs.ws.obj 9997 _ hm);have hρ:ρ 9997=undef:=(hs.ws.obj 9997 _ hm).1;have hmle:m<=w.heap.size:=by
  rcases hmark with h|⟨k,e,h⟩
  ·exact Nat.le_trans h hs.ws.size
  ·have:=hs.ws.zlt k h;omega
 let R:Nat->(Nat->Prop)->World->Value->Prop:=λi Zx wx u=>(∀b,QL i b->Zx b)/\∃a,D[i]? =some a/\cf wx (QL i) a u
 have hcell:∀(i:Nat) c u,(cW R 0 D)[i]? =some c->uL[i]? =some u->ca (BM Z w.heap.size w'.heap.size g) w' c u:=by
  intro i c u hc hu;obtain⟨d,hd,h⟩:=lc R hc;have ht:=rQ i d u hd hu;rcases h with⟨x,rfl,rfl⟩|h
  ·cases ht with|pv _ _ h1=>exact .pv _ h1
  ·rw[zero_add]at h;subst h;refine .x _ _ ht.one λZx wx hzx hbx=>⟨λb hb=>hzx b (.inr (hQ i b hb)),d,hd,ht.keep λb hb=>hbx b (.inr (hQ i b hb))⟩
 have hfam:∀lo hi:Nat,(∀i b,QL i b->lo<=b/\b<hi)->d6 lo hi (cW R 0 D) D:=by
  intro lo hi hlh;refine⟨eg R _ _,QL,hlh,eQ,λi c a hc ha Zx wx u hrel=>?_⟩;obtain⟨d,hd,h⟩:=lc R hc;rw[ha]at hd;injection hd with hd
  subst hd;rcases h with⟨x,e1,e2⟩|h
  ·rw[e2]at hrel;rw[e1];cases hrel with|pv _ h1=>exact .pv _ _ h1
  ·rw[h,zero_add]at hrel;cases hrel with
   |x _ _ h1 hR=>
    obtain⟨hz,a',ha',ht⟩:=hR Zx wx (λ_ h=>h) λ_ _=>rfl;rw[ha]at ha';injection ha' with ha'
    subst ha';exact ht.mono λb hb=>⟨hb,hz b hb⟩
 have hsim:∀hi:Nat,(hi<=S.w0.heap.size\/∃k,hi=k+1/\BM Z w.heap.size w'.heap.size g k)->∀(e:TypeId) (s:Nat) (xs:List (List AD)) (us:List (List Value)),0<s->us.length=xs.length->(∀x∈xs,x.length=s)->(∀u∈us,u.length=s)->w'.ownsRow 0 e s v xs.length us.flatten->(∀(i j:Nat) x u a b,xs[i]? =some x->us[i]? =some u->x[j]? =some a->u[j]? =some b->ca (BM Z w.heap.size w'.heap.size g) w' a b)->
    Sim E.W S (BM Z w.heap.size w'.heap.size g) (λi=>if i=id then v else ρ i) ⟨(fh id ⟨tm,ob⟩).tm,eD (eD (fh id ⟨tm,ob⟩).ob id (.row e s xs)) 9997 (cS S.w0.heap.size hi)⟩ a w':=by
  intro hi hh e s xs us h0 hul hxs hus hown hrd;let xs0:List (List AD):=xs.map λx=>x.map λ_=>AD.x λ_ _ _=>True
  have rel0:cX Z w' (λi=>if i=id then v else ρ i) id (.row e s xs0):=by
   refine⟨us,h0,by simp[xs0,hul],λx hx=>?_,hus,by simpa[xs0]using hown,λi j x u a b e1 e2 e3 e4=>?_⟩
   ·obtain⟨y,hy,rfl⟩:=mem_map.1 hx;simpa using hxs y hy
   ·rw[getElem?_map]at e1;obtain⟨y,hy,rfl⟩:=map_eq_some_iff.1 e1;rw[getElem?_map]at e3;obtain⟨c,hc,rfl⟩:=map_eq_some_iff.1 e3;exact .x _ _ (hrd i j y u c b hy e2 hc e4).one λ_ _ _ _=>trivial
  have h1:=hs.renew id v (.row e s xs0) (row:=none) hgr ah (λb hb=> .inr (by rw[hg]at hb;injection hb with hb;omega)) rel0;have old:∀j o,j≠id->bo (eD (fh id ⟨tm,ob⟩).ob id (.row e s xs0)) j=some o->∃o0,bo ob j=some o0/\o=ni id o0:=by
   intro j o hj ho;rw[ci,if_neg (λe=>hj e.symm)]at ho;simp only[fh,mc]at ho;obtain⟨o0,h0,h1⟩:=map_eq_some_iff.1 ho;exact⟨o0,h0,h1.symm⟩
  have h2:Sim E.W S (BM Z w.heap.size w'.heap.size g) (λi=>if i=id then v else ρ i) ⟨(fh id ⟨tm,ob⟩).tm,eD (fh id ⟨tm,ob⟩).ob id (.row e s xs0)⟩ a w':=by
   refine⟨h1.ws.widen (λb hb=> .inl hb) λb hb=>?_,h1.len,λi x y hx hy=>(h1.tm i x y hx hy).mono (λb hb=> .inl hb) λ_ _=>rfl,h1.df⟩;rcases hb with hb|⟨e1,e2,e3⟩
   ·exact .inl hb
   ·refine .inr ⟨e2,Nat.le_trans hs.ws.size e1,λi o ho hbi=>?_,λi P Q' ho hp=>?_⟩
    ·by_cases hi:i=id
     ·subst hi;simp only[if_true,hg]at hbi;injection hbi with hbi;exact e3 hbi.symm
     ·simp only[if_neg hi]at hbi;obtain⟨o0,h3,_⟩:=old i o hi ho;have:=hs.ws.lt h3 hbi;omega
    ·have hi:i≠id:=by
      rintro rfl;rw[ci,if_pos rfl]at ho;cases ho
     obtain⟨o0,h3,e4⟩:=old i _ hi ho;have h5:bo ob i=some (.many P Q'):=by rw[h3,rp e4.symm]
     have:=((hs.ws.many.ok i P Q' h5).1 b hp).1;omega
  have h3:=h2.upd id (.row e s xs0) (.row e s xs) (g:=g) (by rw[ci,if_pos rfl]) (by simpa using hg) (World.grownBy.refl w' _) ⟨us,h0,hul,hxs,hus,by simpa using hown,hrd⟩;rw[DE]at h3;have hρ':(λi=>if i=id then v else ρ i) 9997=undef:=by
   show(if 9997=id then v else ρ 9997)=undef;rw[if_neg (λe=>hid e.symm)];exact hρ
  exact⟨h3.ws.reframe (me hρ' hh),h3.len,h3.tm,h3.df⟩
 obtain⟨hi,t1,t2,t3,t4⟩:=RL (λb=>∃i,QL i b) w.heap.size (w'.heap.size-w.heap.size);have t3':∀i b,QL i b->b<hi:=λi b hb=>t3 b ⟨i,hb⟩ (hQ i b hb).1 (by have:=(hQ i b hb).2.1;omega);rcases t4 with t4|⟨k,t4,⟨i0,t5⟩,t6⟩
 ·refine⟨R,m,m,Nat.le_refl _,Nat.le_refl _,hfam m m λi b hb=>?_,hcell,hsim m ?_⟩
  ·have:=t3' i b hb;have:=hQ i b hb;omega
  ·rcases hmark with h|⟨k,e,h⟩
   ·exact .inl h
   ·exact .inr ⟨k,e,.inl h⟩
 ·exact⟨R,w.heap.size,hi,hmle,t1,hfam _ _ λi b hb=>⟨(hQ i b hb).1,t3' i b hb⟩,hcell,hsim hi (.inr ⟨k,t4,.inr (hQ i0 k t5)⟩)⟩
theorem GH{w:World}{P:Nat->Prop}{xs:List (List AD)}{v:Value}{s:Nat}(hne:xs≠ [])(hxs:∀x∈xs,x.length=s)(h:cf w P (.sl xs) v):
  ∃(e:TypeId) (us:List (List Value)) (g:Nat) (Q:Nat->Nat->Prop),0<s/\us.length=xs.length/\(∀u∈us,u.length=s)/\w.ownsRow 0 e s v xs.length us.flatten/\bZ v=some g/\P g/\(∀i,¬Q i g)/\(∀i b,Q i b->P b)/\(∀i j b,Q i b->Q j b->i=j)/\∀(i:Nat) a u,xs.flatten[i]? =some a->us.flatten[i]? =some u->cf w (Q i) a u:=by
 cases h with
 |emp=>exact absurd rfl hne
 |sl _ xs e s' us v Q hs hl hx hu hown hbk hQ hd h=>
  have:s'=s:=by
   cases xs with
   |nil=>exact absurd rfl hne
   |cons x r=>rw[<-hx x ah,hxs x ah]
  subst this;rcases hown.2 with⟨_,hn⟩|⟨g,cap,cur,hv,_⟩
  ·exact absurd (List.eq_nil_of_length_eq_zero hn) hne
  ·have hg:bZ v=some g:=by rw[hv];rfl
   exact⟨e,us,g,Q,hs,hl,hu,hown,hg,(hbk g hg).1,(hbk g hg).2,hQ,hd,h⟩
theorem DX{Z:Nat->Prop}{w:World}{R:Nat->(Nat->Prop)->World->Value->Prop}{xs:List (List AD)}{us:List (List Value)}{s k:Nat}(hs:0<s)(hl:us.length=xs.length)(hxs:∀x∈xs,x.length=s)(hus:∀u∈us,u.length=s)
  (h:∀(i:Nat) c u,(cW R k xs.flatten)[i]? =some c->us.flatten[i]? =some u->ca Z w c u):∀(i j:Nat) x u a b,(dU R k xs)[i]? =some x->us[i]? =some u->x[j]? =some a->u[j]? =some b->ca Z w a b:=by
 intro i j x u a b e1 e2 e3 e4;have hr:=ky R (k:=k) hxs;have hj:j<s:=by rw[<-hr x (mem_of_getElem? e1)];exact(List.getElem?_eq_some_iff.1 e3).1
 exact h (i*s+j) a b (by rw[<-rJ,dz hr e1 hj];exact e3) (by rw[dz hus e2 hj];exact e4)
theorem Y1{f:FuncId}{args:List AV}{tm:List AV}{ob:List (Nat×AO)}{K:AV->ASt->Prop}{ps:List AP1}{m:Nat}(id s:Nat)(d1 d3:List AD)(xs:List (List AD))(hc:cg E f ps (.agg (d1++ .sl xs::d3)))(hps:aRs ob args (· =ps))(hm:aOb ob 9997 λo=>o=cS S.w0.heap.size m)
  (hid:id≠9997) (hne:xs≠ []) (hxs:∀x∈xs,x.length=s)
  (hk:∀R lo hi e,m<=lo->lo<=hi->d6 lo hi (cW R 0 (d1++(xs.flatten++d3))) (d1++(xs.flatten++d3))->v8 ⟨tm,ob⟩ id (.row e s (dU R d1.length xs)) λst=>fW 9997 (cS S.w0.heap.size hi) st.ob λob=>K (.agg ((cW R 0 d1).map .d++ .own id::(cW R (d1.length+xs.flatten.length) d3).map .d)) ⟨st.tm,ob⟩):aG E S f args ⟨tm,ob⟩ K:=by
 refine⟨hc.enter,λZ ρ a w us hs hl hr=>?_⟩;obtain⟨ps',h1,h2,rfl⟩:=gE hs.ws hl hr hps;obtain⟨o,ho,rfl⟩:=cm hm;refine(hc.run (gU Z ρ ob) w us (gU.lt hs.ws) ?_ h1 h2).mono ?_
 ·obtain⟨w1,g1,g2,g3⟩:=hs.ws.g;exact⟨w1,g1,g2,λb hb=> .inl (g3 b hb)⟩
 ·rintro en w' ⟨v,rfl,hb,us',rfl,lF,Q,q,eQ,rQ⟩;have hlen:us'.length=d1.length+(d3.length+1):=by rw[lF];simp
  have hjl:d1.length<us'.length:=aa;have ht:=rQ d1.length (.sl xs) us'[d1.length] ah (getElem?_eq_getElem hjl);generalize hv:us'[d1.length]=v at ht;have hv1:v.oneCell'=true:=ht.one;obtain⟨e,ur,g,Qx,h0,hul,hus,hown,hg,hPg,hng,hQx,eQx,rQx⟩:=GH hne hxs ht;have hlx:ur.flatten.length=xs.flatten.length:=by rw[fb hus,fb hxs,hul]
  let n1:=d1.length
  let nx:=xs.flatten.length
  let QL:Nat->Nat->Prop:=λi b=>if i<n1 then Q i b else if i<n1+nx then Qx (i-n1) b else Q (i-nx+1) b
  have cell1:∀i,i<n1->(d1++ .sl xs::d3)[i]? =d1[i]? :=λi hi=>getElem?_append_left hi;have cell3:∀i,(d1++ .sl xs::d3)[n1+1+i]? =d3[i]? :=λi=>by
   rw[getElem?_append_right (by show d1.length<=n1+1+i;omega),show n1+1+i-d1.length=i+1 by show n1+1+i-n1=_;omega,List.getElem?_cons_succ]
  obtain⟨R,lo,hi,m1,m2,hF,hcell,hsim⟩:=hs.freshOwn (id:=id) hb ho hid hg (q _ _ hPg).1 (QL:=QL) (D:=d1++(xs.flatten++d3)) (uL:=us'.take n1++(ur.flatten++us'.drop (n1+1))) (λi b hb=>by
    simp only[QL]at hb;split at hb
    ·rename_i hi;exact⟨(q i b hb).1,(q i b hb).2,λe=>by subst e;have:=eQ _ _ _ hb hPg;omega⟩
    ·split at hb
     ·have:=hQx _ b hb;exact⟨(q _ b this).1,(q _ b this).2,λe=>by subst e;exact hng _ hb⟩
     ·rename_i hi _ hi2;refine⟨(q _ b hb).1,(q _ b hb).2,λe=>?_⟩;subst e;have:=eQ _ _ _ hb hPg;simp only[nx,n1]at*
      omega) (λi j b hb hb'=>by
    simp only[QL]at hb hb';split at hb
    ·split at hb'
     ·exact eQ _ _ b hb hb'
     ·split at hb'
      ·have:=eQ _ _ b hb (hQx _ b hb');omega
      ·have:=eQ _ _ b hb hb';omega
    ·split at hb
     ·split at hb'
      ·have:=eQ _ _ b hb' (hQx _ b hb);omega
      ·split at hb'
       ·have:=eQx _ _ b hb hb';omega
       ·have:=eQ _ _ b hb' (hQx _ b hb);omega
     ·split at hb'
      ·have:=eQ _ _ b hb hb';omega
      ·split at hb'
       ·have:=eQ _ _ b hb (hQx _ b hb');omega
       ·have:=eQ _ _ b hb hb';omega) (by simp only[List.length_append,List.length_take,List.length_drop,hlx,hlen,n1];omega) λi a u ha hu=>by
    have hl1:(us'.take n1).length=n1:=by rw[List.length_take];simp only[n1];omega
    by_cases hi:i<n1
    ·simp only[QL,if_pos hi];rw[getElem?_append_left hi]at ha;rw[getElem?_append_left aa,getElem?_take,if_pos hi]at hu;exact rQ i a u (by rw[cell1 i hi];exact ha) hu
    ·rw[getElem?_append_right (by show n1<=i;omega),show i-d1.length=i-n1 from rfl]at ha;rw[getElem?_append_right aa,hl1]at hu;by_cases hi2:i<n1+nx
     ·simp only[QL,if_neg hi,if_pos hi2];rw[getElem?_append_left (by show i-n1<nx;omega)]at ha;rw[getElem?_append_left (by rw[hlx];show i-n1<nx;omega)]at hu;exact rQx _ a u ha hu
     ·simp only[QL,if_neg hi,if_neg hi2];rw[getElem?_append_right (by show nx<=i-n1;omega),show i-n1-xs.flatten.length=i-n1-nx from rfl]at ha;rw[getElem?_append_right (by rw[hlx];show nx<=i-n1;omega),hlx,getElem?_drop,show n1+1+(i-n1-xs.flatten.length)=i-nx+1 by show n1+1+(i-n1-nx)=_;omega]at hu;refine rQ _ a u ?_ hu;rw[show i-nx+1=n1+1+(i-n1-nx)by omega,cell3];exact ha
  have e1:cW R 0 (d1++(xs.flatten++d3))=cW R 0 d1++(cW R n1 xs.flatten++cW R (n1+nx) d3):=by rw[ow,ow,zero_add]
  rw[e1]at hcell;have ho1:(cW R 0 d1).length=n1:=eg R _ _;have ho2:(cW R n1 xs.flatten).length=nx:=eg R _ _;have hl1:(us'.take n1).length=n1:=by rw[List.length_take];simp only[n1];omega
  have hrow:=hsim e s (dU R n1 xs) ur h0 (by rw[jq,hul]) (ky R hxs) hus (by rw[jq];exact hown) (DX h0 hul hxs hus λi c u hc hu=>by
   have hic:i<nx:=by rw[<-ho2];exact(List.getElem?_eq_some_iff.1 hc).1
   refine hcell (n1+i) c u ?_ ?_
   ·rw[getElem?_append_right aa,ho1,show n1+i-n1=i by omega,getElem?_append_left aa];exact hc
   ·rw[getElem?_append_right aa,hl1,show n1+i-n1=i by omega,getElem?_append_left (by rw[hlx];exact hic)];exact hu)
  have hval:cn (BM Z w.heap.size w'.heap.size g) w' (λi=>if i=id then v else ρ i) (.agg ((cW R 0 d1).map .d++ .own id::(cW R (d1.length+xs.flatten.length) d3).map .d)) (.agg us'.toArray):=by
   refine .agg _ us' (by simp[eg,hlen]) λi c u hc hu=>?_;by_cases hi:i<n1
   ·rw[getElem?_append_left (by simpa[eg]using hi),getElem?_map]at hc;obtain⟨d,hd,rfl⟩:=map_eq_some_iff.1 hc;refine hcell i d u ?_ ?_
    ·rw[getElem?_append_left aa];exact hd
    ·rw[getElem?_append_left aa,getElem?_take,if_pos hi];exact hu
   ·rw[getElem?_append_right (by simp only[length_map,ho1];omega),length_map,ho1]at hc;by_cases hi2:i=n1
    ·subst hi2;rw[Nat.sub_self]at hc;simp at hc;subst hc;have:u=v:=by
      have h5:=getElem?_eq_getElem hjl;rw[show us'[n1]? =us'[d1.length]? from rfl,h5,hv]at hu;injection hu with hu
      exact hu.symm
     subst this;exact⟨by simp,hv1⟩
    ·obtain⟨k,rfl⟩:∃k,i=n1+1+k:=⟨i-(n1+1),aa⟩;rw[show n1+1+k-n1=k+1 by omega,List.getElem?_cons_succ,getElem?_map]at hc;obtain⟨d,hd,rfl⟩:=map_eq_some_iff.1 hc;refine hcell (n1+nx+k) d u ?_ ?_
     ·rw[getElem?_append_right aa,ho1,show n1+nx+k-n1=nx+k by omega,getElem?_append_right aa,ho2,show nx+k-nx=k by omega];exact hd
     ·rw[getElem?_append_right aa,hl1,show n1+nx+k-n1=nx+k by omega,getElem?_append_right (by rw[hlx];show nx<=nx+k;omega),hlx,getElem?_drop,show n1+1+(nx+k-xs.flatten.length)=n1+1+k by show n1+1+(nx+k-nx)=_;omega];exact hu
  exact⟨_,_,_,_,_,rfl,hrow,hval,dh (K:=λob=>K _ ⟨_,ob⟩) (gD (hk R lo hi e m1 m2 hF))⟩
theorem ZE{f:FuncId}{args:List AV}{tm:List AV}{ob:List (Nat×AO)}{K:AV->ASt->Prop}{ps:List AP1}{m:Nat}(id s:Nat)(xs ys:List (List AD))(hc:cg E f ps (.agg [.sl xs,.sl ys]))(hps:aRs ob args (· =ps))(hm:aOb ob 9997 λo=>o=cS S.w0.heap.size m)
  (hid:id≠9997) (hne:xs≠ []) (hxs:∀x∈xs,x.length=s)
  (hk:∀R lo hi e,m<=lo->lo<=hi->d6 lo hi (cW R 0 (xs.flatten++ys.flatten)) (xs.flatten++ys.flatten)->v8 ⟨tm,ob⟩ id (.row e s (dU R 0 xs)) λst=>fW 9997 (cS S.w0.heap.size hi) st.ob λob=>K (.agg [.own id,.d (.sl (dU R xs.flatten.length ys))]) ⟨st.tm,ob⟩):aG E S f args ⟨tm,ob⟩ K:=by
 refine⟨hc.enter,λZ ρ a w us hs hl hr=>?_⟩;obtain⟨ps',h1,h2,rfl⟩:=gE hs.ws hl hr hps;obtain⟨o,ho,rfl⟩:=cm hm;refine(hc.run (gU Z ρ ob) w us (gU.lt hs.ws) ?_ h1 h2).mono ?_
 ·obtain⟨w1,g1,g2,g3⟩:=hs.ws.g;exact⟨w1,g1,g2,λb hb=> .inl (g3 b hb)⟩
 ·rintro en w' ⟨v,rfl,hb,us',rfl,lF,Q,q,eQ,rQ⟩;match us',lF with
  |[v,y],lF=>
   have ht:=rQ 0 (.sl xs) v rfl rfl;have hy:=rQ 1 (.sl ys) y rfl rfl;have hv1:v.oneCell'=true:=ht.one;obtain⟨e,ur,g,Qx,h0,hul,hus,hown,hg,hPg,hng,hQx,eQx,rQx⟩:=GH hne hxs ht;have hlx:ur.flatten.length=xs.flatten.length:=by rw[fb hus,fb hxs,hul]
   obtain⟨uy,Qy,hly,hQy,eQy,rQy,hyD⟩:∃(uy:List (List Value)) (Qy:Nat->Nat->Prop),uy.flatten.length=ys.flatten.length/\(∀i b,Qy i b->Q 1 b)/\(∀i j b,Qy i b->Qy j b->i=j)/\(∀(i:Nat) a u,ys.flatten[i]? =some a->uy.flatten[i]? =some u->cf w' (Qy i) a u)/\
     ∀(Z':Nat->Prop) R k,(∀b,Q 1 b->Z' b)->(∀(i:Nat) c u,(cW R k ys.flatten)[i]? =some c->uy.flatten[i]? =some u->ca Z' w' c u)->ca Z' w' (.sl (dU R k ys)) y:=by
    cases hy with
    |emp _ A cap hm=>exact⟨[],λ_ _=>False,rfl,λ_ _ h=>h.elim,λ_ _ _ h=>h.elim,λi a u ha=>by simp at ha,λZ' R k _ _=> .sl [] A cap 1 [] (zero_le _) hm rfl ah ah (.inl rfl) ah⟩
    |sl _ _ e2 s2 uy v2 Qy hs2 hl2 hx2 hu2 hown2 hbk2 hQ2 hd2 h2=>
     refine⟨uy,Qy,by rw[fb hu2,fb hx2,hl2],hQ2,hd2,h2,λZ' R k hz hc=>?_⟩;rcases hown2.2 with⟨hv,hn⟩|⟨g2,cap,cur,hv,_,hg2,h3,h4,h5,h6⟩
     ·have:ys=[]:=List.eq_nil_of_length_eq_zero hn;subst this hv;exact .sl [] none 0 0 [] (Nat.le_refl _) (zero_le _) rfl ah ah (.inl rfl) ah
     ·subst hv;have hol:=jq R ys k;have:=ca.sl (Z:=Z') (w:=w') (dU R k ys) (some ⟨g2,0,none⟩) cap s2 uy (by rw[hol];exact h3) h4 (by rw[hol,hl2]) (ky R hx2) hu2 (.inr ⟨g2,0,rfl,hz g2 (hbk2 g2 rfl).1,λi u hu=>by rw[zero_add];exact mP hown2 rfl hu⟩) (DX hs2 hl2 hx2 hu2 hc);rw[hol]at this;exact this
   let nx:=xs.flatten.length
   let QL:Nat->Nat->Prop:=λi b=>if i<nx then Qx i b else Qy (i-nx) b
   obtain⟨R,lo,hi,m1,m2,hF,hcell,hsim⟩:=hs.freshOwn (id:=id) hb ho hid hg (q _ _ hPg).1 (QL:=QL) (D:=xs.flatten++ys.flatten) (uL:=ur.flatten++uy.flatten) (λi b hb=>by
     simp only[QL]at hb;split at hb
     ·have:=hQx _ b hb;exact⟨(q _ b this).1,(q _ b this).2,λe=>by subst e;exact hng _ hb⟩
     ·have:=hQy _ b hb;exact⟨(q _ b this).1,(q _ b this).2,λe=>by subst e;have:=eQ _ _ _ this hPg;omega⟩) (λi j b hb hb'=>by
     simp only[QL]at hb hb';split at hb
     ·split at hb'
      ·exact eQx _ _ b hb hb'
      ·have:=eQ _ _ b (hQx _ b hb) (hQy _ b hb');omega
     ·split at hb'
      ·have:=eQ _ _ b (hQx _ b hb') (hQy _ b hb);omega
      ·have:=eQy _ _ b hb hb';omega) (by simp[hlx,hly]) λi a u ha hu=>by
     by_cases hi:i<nx
     ·simp only[QL,if_pos hi];rw[getElem?_append_left hi]at ha;rw[getElem?_append_left (by rw[hlx];exact hi)]at hu;exact rQx i a u ha hu
     ·simp only[QL,if_neg hi];rw[getElem?_append_right (by show nx<=i;omega)]at ha;rw[getElem?_append_right (by rw[hlx];show nx<=i;omega),hlx]at hu;exact rQy _ a u ha hu
   have ho1:(cW R 0 xs.flatten).length=nx:=eg R _ _;have e1:cW R 0 (xs.flatten++ys.flatten)=cW R 0 xs.flatten++cW R nx ys.flatten:=by rw[ow,zero_add]
   rw[e1]at hcell;have hrow:=hsim e s (dU R 0 xs) ur h0 (by rw[jq,hul]) (ky R hxs) hus (by rw[jq];exact hown) (DX h0 hul hxs hus λi c u hc hu=>by
    have hic:i<nx:=by rw[<-ho1];exact(List.getElem?_eq_some_iff.1 hc).1
    refine hcell i c u ?_ ?_
    ·rw[getElem?_append_left aa];exact hc
    ·rw[getElem?_append_left (by rw[hlx];exact hic)];exact hu)
   have hyR:=hyD (BM Z w.heap.size w'.heap.size g) R nx (λb hb=> .inr ⟨(q 1 b hb).1,(q 1 b hb).2,λe=>by subst e;have:=eQ _ _ _ hb hPg;omega⟩) λi c u hc hu=>by
    refine hcell (nx+i) c u ?_ ?_
    ·rw[getElem?_append_right aa,ho1,show nx+i-nx=i by omega];exact hc
    ·rw[getElem?_append_right (by rw[hlx];show nx<=nx+i;omega),hlx,show nx+i-xs.flatten.length=i by show nx+i-nx=i;omega];exact hu
   have hval:cn (BM Z w.heap.size w'.heap.size g) w' (λi=>if i=id then v else ρ i) (.agg [.own id,.d (.sl (dU R xs.flatten.length ys))]) (.agg [v,y].toArray):=by
    refine .agg _ [v,y] rfl λi c u hc hu=>?_;match i,hc,hu with
    |0,hc,hu=>simp at hc hu;subst hc hu;exact⟨by simp,hv1⟩
    |1,hc,hu=>
     injection hc with hc
     injection hu with hu
     subst hc hu;exact hyR
    |i+2,hc,_=>simp at hc
   exact⟨_,_,_,_,_,rfl,hrow,hval,dh (K:=λob=>K _ ⟨_,ob⟩) (gD (hk R lo hi e m1 m2 hF))⟩
  |[],lF=>simp at lF
  |[_],lF=>simp at lF
  |_::_::_::_,lF=>simp at lF
end
end
section
open Go.Proofs.Tryz
open Go.ChangeShapes Go.WideShapes Go.RowKit
theorem My(l:List Int)(hl:l.length<=1048576):gc av 184 [.one (.d (.sl (l.map eI)))] [] [(3,.row 2 1 (l.map eI))] [] (.val (.one (.own 3))):=by
 refine dq aM func184 rfl call184 ntmps184 (aaX results184) rfl λS pv=>?_;conv=>whnf
 repeat'((first|refine awz ?_|refine aY (by first|(intro y hy;obtain⟨a,_,rfl⟩:=mem_map.1 hy;rfl)|(simp;done)) ?_|refine bc ak ?_|exact rZ|fail)<;>conv=>whnf)
theorem C6(l:List Int)(h:ck l=true)(h48:l.length<48):aL av 432 [.one (.sl (l.map eI))] (.val (.one (.sl ((l++[kF l]).map eI)))):=by
 have ro:=kT l;rw[h]at ro;have hc:(((l.map eI).length:Int)==48)=false:=al;refine pO func432 call432 ntmps432 results432 λS=>?_;conv=>whnf
 repeat'((first|refine awz ?_|refine cP (ro) ?_|refine XE (My l aa) [(3,903)] rfl rfl ?_|refine cP (uw l h) ?_|refine bc ak ?_|fail)<;>conv=>whnf)
 all_goals(simp;rfl)
theorem JR(k:List (List Int))(h1:k.length<=1048576)(h2:∀y∈k,y.length<=1048576):cg av 268 [.agg (⟨k,[]⟩:DDisk).ds] (.agg [.sl (k.map bD),.pv (.slice none 0 0)]):=by
 refine lO aM func268 rfl call268 ntmps268 (aaX results268) λS=>?_;conv=>whnf
 repeat'(first|refine awz ?_|(refine X9 (Ac k ⟨h1,h2⟩) rfl rfl λR1 l1 e1 a1 b1 F1=>?_;conv=>whnf)|fail)
 refine X7 1 ?_;conv=>whnf
 repeat'(first|refine awz ?_|fail)
 refine⟨.inr rfl,l1,e1,a1,F1.fam⟩
theorem JP(k:List (List Int))(a:Int)(r:List Int)(h:db ⟨k,[]⟩=true)(ha:aJ a 0 ((k.length:Int)-1)=true)(hr:ck r=true):aL av 433 [.agg (⟨k,[]⟩:DDisk).ds,pI a,.one (.sl (r.map eI))] (.tup [.agg (m9 ⟨k,[]⟩ a r).ds,.one (dB true)]):=by
 have hs:=gJ h;obtain⟨f1,f2,f3,f4,f5⟩:=cL h;simp only at f1 f2 f4;have h48:=dG hr;have dk:=ia ⟨k,[]⟩;rw[h]at dk;have se:=mJ ⟨k,[]⟩ a f2;rw[ha]at se;have ro:=kT r;rw[hr]at ro;have cd:=(JR k aa (λy hy=>by have:=dG (f4 y hy);omega)).pcall;refine pO func433 call433 ntmps433 results433 λS=>?_;conv=>whnf
 repeat'((first|refine awz ?_|refine cP (dk) ?_|refine cP (se) ?_|refine cP (ro) ?_|(refine Z1 Up Sq ?_;refine Xt cd rfl ?_)|fail)<;>conv=>whnf)
 refine Yc 8 1 900 301 2 ae ?_;conv=>whnf
 repeat'(first|refine awz ?_|fail)
 (refine XF aM 6 (tkc [0,2,3] (.two 1 (onc [4,5,6,7] (.take 8 (.one 9 .done))) 4 (.two 1 (onc [5,6,7] (.take 8 (.one 9 .done))) 5 (.two 1 (.one 6 (.one 7 (.take 8 (.one 9 .done)))) 6 (.one 1 (.one 7 (.take 8 (.one 9 .done)))))))) [] nc ac ac ac ac (λRz=>?_);(conv=>whnf))
 repeat'((first|refine awz ?_|refine cP (jm r aa) ?_|refine bc ak ?_|exact rZ|refine tW ?_ ?_|fail)<;>conv=>whnf)
 all_goals(simp[m9,DDisk.ds,DWrite.ds];done)
end
section
open Go.Proofs.Tryz
open Go.ChangeShapes Go.WideShapes Go.RowKit
theorem OR(s:Int×DState)(hp:s.2.pairs.length<=9223372036854775806):aL av 448 [.agg (fE s)] (rB (fK s)):=by
 obtain⟨n,s⟩:=s;simp only at hp;unfold fE;have bt:=bf n 1 1000000000;have so:=iC s hp;have e:fK (n,s)=(aJ n 1 1000000000&&cH s&&s.index !=0):=rfl;rw[e];refine pO func448 call448 ntmps448 results448 λS=>?_;conv=>whnf
 repeat'((first|refine awz ?_|refine cP (bt) ?_|refine cP (so) ?_|refine tW ?_ ?_|intro h)<;>conv=>whnf)
 all_goals
  refine bM ?_;simp_all
theorem Da(n:Nat)(h:n<=1000):aL av 408 [pI (n:Int)] (.val (pI ((cO n:Nat):Int))):=by
 have e:((cO n:Nat):Int)=((n:Int)+20-1).tdiv 20:=by rw[Int.tdiv_eq_ediv_of_nonneg aa,cO];omega
 rw[e];have hr:0<=((n:Int)+20-1).tdiv 20/\((n:Int)+20-1).tdiv 20<=1000:=by rw[Int.tdiv_eq_ediv_of_nonneg aa];omega
 refine pO func408 call408 ntmps408 results408 λS=>?_;conv=>whnf
 repeat'((first|refine awz ?_|refine And.intro ae ?_|refine Xz aa aa ?_|exact rZ|fail)<;>conv=>whnf)
def OX(l:List Int)(p:Nat):List Int:=(l.drop (20*p)).take 20
theorem T0{l:List Int}{p h:Nat}(hh:h=if(20*(p+1):Nat)<l.length then 20*(p+1)else l.length):((l.map eI).take h).drop (20*p)=(OX l p).map eI:=by
 unfold OX;rw[<-List.map_take,<-List.map_drop,List.drop_take];split at hh
 ·rw[hh,show 20*(p+1)-20*p=20 by omega]
 ·rw[List.take_of_length_le (by rw[List.length_drop];omega),List.take_of_length_le (by rw[List.length_drop];omega)]
theorem QN(l:List Int)(p:Nat):(OX l p).length<=20:=by simp[OX];omega
theorem JO(s:Int×DState)(hp:s.2.pairs.length<=9223372036854775806):aL av 436 [.agg (fE s)] (.val (.one (.sl ((cC s).map bD)))):=by
 have so:=OR s hp;cases ho:fK s with
 |false=>
  rw[ho]at so;have e:cC s=[]:=by simp[cC,ho]
  rw[e];obtain⟨n,st⟩:=s;unfold fE at*
  refine pO func436 call436 ntmps436 results436 λS=>?_;conv=>whnf
  repeat'(first|refine awz ?_|(refine cP (so) ?_;conv=>whnf)|exact rZ|fail)
 |true=>
  rw[ho]at so;obtain⟨g1,g2,g3⟩:=jH ho;obtain⟨i1,_⟩:=dS g2;obtain⟨m1,m2⟩:=iJ g2;have sn:=Bg s.2 g2;have e:cC s=o3 s (cO (bN s.2).length):=by simp[cC,ho,o3]
  have hpo:cO (bN s.2).length<=4:=(jI ho).2.2;have po:=Da (bN s.2).length aa;rw[e];unfold fE at*
  refine pO func436 call436 ntmps436 results436 λS=>?_;conv=>whnf
  repeat'((first|refine awz ?_|refine cP (so) ?_|refine cP (sn) ?_|fail)<;>conv=>whnf)
  rw[length_map];refine XA (λp:Nat=>p<=cO (bN s.2).length) (16::[5,6,7,17,18,19,20,21,22,23,24,25,26,27,28,29,30,31,32,33,34,35,36,37,38,39,40,41,42,43,44,45,46,47,48,49,50,51,52,53]) (λp=>[(5,.one (.own 16)),(6,vI .i64 (p:Int))]) (λp=>[(1,.cells 241 ((dI s.1::s.2.ds).map .d)),(16,.row 62 1 ((o3 s p).map bD))]) (λp=>cO (bN s.2).length-p) 0 (zero_le _) ?_ sbW (λp hk=>?_)<;>(conv=>whnf)
  ·exact whd
  ·have hnl:(o3 s p).length=p:=by simp[o3]
   by_cases hlt:p<cO (bN s.2).length
   ·have hc:decide ((p:Int)<((cO (bN s.2).length:Nat):Int))=true:=by simp only[decide_eq_true_eq];omega
    have hp4:p<=3:=aa;have hml:=QN (bN s.2) p;have rok:=rS ho hlt;have hsn:=Ec s p;have hp20:20*p<(bN s.2).length:=by unfold cO at hlt;omega
    have er:([[dI s.1],[dI s.2.index],[dI (p:Int)],[dI ((bN s.2).length:Int)]]++(OX (bN s.2) p).map eI)++[[dI s.2.index],[dI s.1]]=(dD s p).map eI:=by simp[dD,OX,eI]
    have ws:=C6 (dD s p) rok.1 rok.2;obtain⟨h,hh⟩:∃h:Nat,h=if(20*(p+1):Nat)<(bN s.2).length then 20*(p+1)else(bN s.2).length:=⟨_,rfl⟩
    have hhi:(if(((p:Int)+1)*20)<((bN s.2).length:Int)then(((p:Int)+1)*20)else((bN s.2).length:Int))=(h:Int):=by
     rw[hh];split<;>split<;>omega
    have hcut:=T0 (p:=p) hh;have hb:20*p<=h/\h<=(bN s.2).length:=by rw[hh];split<;>omega
    repeat'(first|((first|refine awz ?_|refine cP (po) ?_|refine Xz aa aa ?_|(refine⟨20*p,h,(by show _=_;omega),hhi,hb.1,(by simp only[length_map];exact hb.2),(by intro y hy;obtain⟨a,_,rfl⟩:=mem_map.1 hy;rfl),?_⟩;rw[hcut])|refine aY (by first|(intro y hy;obtain⟨a,_,rfl⟩:=mem_map.1 hy;rfl)|(simp;done)) ?_|refine bc ak ?_|fail)<;>conv=>whnf)|(refine aG.freeze 30 2 1 ((dD s p).map eI) (congrArg (AO.row 2 1) er) ?_;(conv=>whnf);refine Xt ws rfl ?_;conv=>whnf)|fail)
    all_goals
     refine aT.mk ⟨p+1,hlt,aa,?_,Xu rfl (Xu (congrArg some (congrArg (AO.row 62 1) hsn.symm)) Xv)⟩;exact hds
   ·have e2:p=cO (bN s.2).length:=aa;subst e2;have hc:decide (((cO (bN s.2).length:Nat):Int)<((cO (bN s.2).length:Nat):Int))=false:=ah;repeat'(first|refine awz ?_|(refine cP (po) ?_;conv=>whnf)|exact rZ|fail)
end
end
section
open Go.Proofs.Tryz
open Go.ChangeShapes Go.WideShapes Go.RowKit
variable {m:List Int}{k:Nat}
def iL:List (List Nat):=cz [0,1,129,12354,0,5,389,28998,2122055,0x40810c91c5188]
def ew:List (List Nat):=eK 9 [19602,19603,19606,19615,80,161,404,1133,3320]
def mW:List (List Nat):=cz [0,1,129,12354,0,5,389,28998,2122055,0x40810c91c5188,0x2881851c90c1084,0xb10204324714620a,0x30a20614724304210b]
def iM:List (List Nat):=cz [0,1,129,12354,12354,1318979,101453957,7600607430,556248867143,12354,2629699,185340042,13053202635,0x24714204318834b28c,0x10204338c28b3481851c9,0x30423c91c518834b28c384]
def iO:List (List Nat):=eK 14 [0,1,4,4782901,1574707,1574788,1575031,1575760,1577947,19669,39352,98401,275548,797188]
def mX:List (List Nat):=cz [0,1,129,12354,0,5,389,28998,0,9,649,45642,0,203985613,0x10204320614738d2c928c,0xf30a24b34e1c51880c1084,0x4040810c81851ce34b24a30f]
def mZ:List (List Nat):=eK 14 [4782888,4782889,4782892,4782901,4776488,4776569,4776812,4777541,1069442,1076003,1095686,1154735,531440,800441]
def mV:List (List Nat):=cz [0,1,129,12354,0,5,389,28998,2122055,0x40810c91c5188,0x2881851c90c1084]
theorem XL{E:bz}{S:bR}{f:FuncId}{args:List AV}{st:ASt}{K:AV->ASt->Prop}(h:∀K':AV->ASt->Prop,(∀r st,K r st->K' r st)->aG E S f args st K'):aG E S f args st K:=h K λ_ _ h=>h
theorem nM(l:List Int)(a:Nat)(h:a<l.length)(hl:l.length<=1048576):gc av 450 [.one (.ref 1000 0 0 0)] [(1000,.cells 425 [.d (.sl (l.map eI)),.d (dI ((a:Nat):Int))])] [(1000,.cells 425 [.d (.sl (l.map eI)),.d (dI ((a+1:Nat):Int))])] [1000] (.tup [.one (.d (dI (l.getD a 0))),.one (.d (dB true))]):=by
 have hc:decide ((a:Int)>=((l.map eI).length:Int))=false:=al;have hg:(l.map eI)[a]? =some (eI (l.getD a 0)):=by
  rw[List.getElem?_map,List.getElem?_eq_getElem h,List.getD_eq_getElem?_getD,List.getElem?_eq_getElem h];rfl
 refine dq aM func450 rfl call450 ntmps450 (aaX results450) rfl λS pv=>?_;conv=>whnf
 repeat'(first|refine awz ?_|fail)
 (refine XB aM 1 9 iL ew ac ac ac rfl ?_;conv=>whnf)
 repeat'(first|refine awz ?_|(refine Xz aa aa ?_;conv=>whnf)|fail)
 (refine XB aM 4 9 mW ew ac ac ac rfl ?_;conv=>whnf)
 repeat'((first|refine awz ?_|refine Xw a _ aa hg ?_|refine Xz aa aa ?_|exact rZ|fail)<;>conv=>whnf)
 all_goals exact⟨rfl,whd⟩
theorem JW(l:List Int)(a:Nat)(h:l.length<=a):gc av 450 [.one (.ref 1000 0 0 0)] [(1000,.cells 425 [.d (.sl (l.map eI)),.d (dI ((a:Nat):Int))])] [(1000,.cells 425 [.d (.sl (l.map eI)),.d (dI ((a:Nat):Int))])] [1000] (.tup [.one (.d (dI 0)),.one (.d (dB false))]):=by
 have hc:decide ((a:Int)>=((l.map eI).length:Int))=true:=al;refine dq aM func450 rfl call450 ntmps450 (aaX results450) rfl λS pv=>?_;conv=>whnf
 repeat'(first|refine awz ?_|fail)
 (refine XB aM 1 9 iL ew ac ac ac rfl ?_;conv=>whnf)
 repeat'(first|refine awz ?_|exact rZ|fail)
 all_goals exact⟨rfl,whd⟩
theorem Um{l:List Int}{a n:Nat}:((l.map eI).take (a+n)).drop a=((l.drop a).take n).map eI:=by
 rw[<-List.map_take,<-List.map_drop,List.drop_take,Nat.add_sub_cancel_left]
theorem vD(l:List Int)(a n:Nat)(h:a+n<=l.length)(hl:l.length<=1048576):gc av 444 [.one (.ref 1000 0 0 0),.one (.d (dI (n:Int)))] [(1000,.cells 425 [.d (.sl (l.map eI)),.d (dI ((a:Nat):Int))])] [(1000,.cells 425 [.d (.sl (l.map eI)),.d (dI ((a+n:Nat):Int))])] [1000] (.tup [.one (.d (.sl (((l.drop a).take n).map eI))),.one (.d (dB true))]):=by
 have h0:decide ((n:Int)<0)=false:=ah;have hc:decide ((n:Int)>((l.map eI).length:Int)-(a:Int))=false:=al;have cr:=jm ((l.drop a).take n) (by rw[List.length_take,List.length_drop];omega);have e:((a:Int)+(n:Int))=((a+n:Nat):Int):=aa;refine dq aM func444 rfl call444 ntmps444 (aaX results444) rfl λS pv=>?_;conv=>whnf
 repeat'(first|refine awz ?_|fail)
 (refine XB aM 1 14 iM iO ac ac ac rfl ?_;conv=>whnf)
 repeat'(first|refine awz ?_|(refine Xz am am ?_;conv=>whnf)|fail)
 (refine XB aM 3 14 mX mZ ac ac ac rfl ?_;conv=>whnf)
 repeat'((first|refine awz ?_|refine cP (cr) ?_|(refine⟨a,a+n,rfl,(by show _=_;omega),Nat.le_add_right _ _,am,(by intro y hy;obtain⟨a,_,rfl⟩:=List.mem_map.1 hy;rfl),?_⟩;rw[Um])|refine Xz aa aa ?_|exact rZ|fail)<;>conv=>whnf)
 all_goals(first|exact⟨rfl,whd⟩|(rw[e];exact⟨rfl,whd⟩))
theorem yn(l:List Int)(a n:Nat)(h:l.length<a+n)(ha:a<=l.length)(hl:l.length<=1048576):gc av 444 [.one (.ref 1000 0 0 0),.one (.d (dI (n:Int)))] [(1000,.cells 425 [.d (.sl (l.map eI)),.d (dI ((a:Nat):Int))])] [(1000,.cells 425 [.d (.sl (l.map eI)),.d (dI ((a:Nat):Int))])] [1000] (.tup [.one .nil,.one (.d (dB false))]):=by
 have h0:decide ((n:Int)<0)=false:=ah;have hc:decide ((n:Int)>((l.map eI).length:Int)-(a:Int))=true:=al;refine dq aM func444 rfl call444 ntmps444 (aaX results444) rfl λS pv=>?_;conv=>whnf
 repeat'(first|refine awz ?_|fail)
 (refine XB aM 1 14 iM iO ac ac ac rfl ?_;conv=>whnf)
 repeat'(first|refine awz ?_|(refine Xz am am ?_;conv=>whnf)|exact rZ|fail)
 all_goals exact⟨rfl,whd⟩
theorem ND(l:List Int)(a:Nat)(b:Bool)(h:((a:Int)==((l.map eI).length:Int))=b):gc av 447 [.one (.ref 1000 0 0 0)] [(1000,.cells 425 [.d (.sl (l.map eI)),.d (dI ((a:Nat):Int))])] [(1000,.cells 425 [.d (.sl (l.map eI)),.d (dI ((a:Nat):Int))])] [1000] (.val (.one (.d (dB b)))):=by
 refine dq aM func447 rfl call447 ntmps447 (aaX results447) rfl λS pv=>?_;conv=>whnf
 repeat'(first|refine awz ?_|fail)
 (refine XB aM 1 9 mV ew ac ac ac rfl ?_;conv=>whnf)
 repeat'(first|refine awz ?_|fail)
 all_goals(rw[h];exact⟨rfl,whd⟩)
theorem mj{i:Nat}(h:k+i<m.length):((m.drop k).map eI)[i]? =some (eI (m.getD (k+i) 0)):=by
 rw[List.getElem?_map,List.getElem?_drop,List.getElem?_eq_getElem h,List.getD_eq_getElem?_getD,List.getElem?_eq_getElem h];rfl
def o9:List (List Nat):=cz [0,0,2,3,0,5,6,452,8,577,0x28920718510308128a]
theorem Md:(((m.drop (2*k)).map eI).take ((m.drop (2*k)).map eI).length).drop 2=(m.drop (2*(k+1))).map eI:=by
 rw[List.take_length,<-List.map_drop,List.drop_drop];congr 2
theorem H0(l:List Int)(a:Nat)(h:l.length<=a):gc av 445 [.one (.ref 1000 0 0 0)] [(1000,.cells 425 [.d (.sl (l.map eI)),.d (dI ((a:Nat):Int))])] [(1000,.cells 425 [.d (.sl (l.map eI)),.d (dI ((a:Nat):Int))])] [1000] (.tup [.one .nil,.one (.d (dB false))]):=by
 refine dq aM func445 rfl call445 ntmps445 (aaX results445) rfl λS pv=>?_;conv=>whnf
 repeat'(first|refine awz ?_|(refine XL λK' hK=>?_;refine XE (JW l a h) [(1000,1000)] rfl rfl ?_;(conv=>whnf);refine And.intro rfl ?_;(conv=>whnf);refine hK _ _ ?_;conv=>whnf)|exact rZ|fail)
 all_goals exact⟨rfl,whd⟩
theorem H1(l:List Int)(a:Nat)(h:a<l.length)(hl:l.length<=1048576)(hb:aJ (l.getD a 0) 0 10=false):gc av 445 [.one (.ref 1000 0 0 0)] [(1000,.cells 425 [.d (.sl (l.map eI)),.d (dI ((a:Nat):Int))])] [(1000,.cells 425 [.d (.sl (l.map eI)),.d (dI ((a+1:Nat):Int))])] [1000] (.tup [.one .nil,.one (.d (dB false))]):=by
 have bt:=bf (l.getD a 0) 0 10;rw[hb]at bt;refine dq aM func445 rfl call445 ntmps445 (aaX results445) rfl λS pv=>?_;conv=>whnf
 repeat'(first|refine awz ?_|(refine XL λK' hK=>?_;refine XE (nM l a h hl) [(1000,1000)] rfl rfl ?_;(conv=>whnf);refine And.intro rfl ?_;(conv=>whnf);refine hK _ _ ?_;conv=>whnf)|(refine cP (bt) ?_;conv=>whnf)|exact rZ|fail)
 all_goals exact⟨rfl,whd⟩
theorem H2(l:List Int)(a n:Nat)(h:a<l.length)(hl:l.length<=1048576)(hn:l.getD a 0=(n:Int))(hn2:n<=10)(ht:l.length<a+1+2*n):gc av 445 [.one (.ref 1000 0 0 0)] [(1000,.cells 425 [.d (.sl (l.map eI)),.d (dI ((a:Nat):Int))])] [(1000,.cells 425 [.d (.sl (l.map eI)),.d (dI ((a+1:Nat):Int))]),(28,.row 320 2 [])] [1000] (.tup [.one (.own 28),.one (.d (dB false))]):=by
 have bt:=bf (l.getD a 0) 0 10;have hb:aJ (l.getD a 0) 0 10=true:=by rw[hn];simp[aJ];omega
 rw[hb]at bt;have nx:=nM l a h hl;rw[hn]at bt nx;have e:2*(n:Int)=((2*n:Nat):Int):=aa;refine dq aM func445 rfl call445 ntmps445 (aaX results445) rfl λS pv=>?_;conv=>whnf
 repeat'(first|refine awz ?_|(refine XL λK' hK=>?_;refine XE nx [(1000,1000)] rfl rfl ?_;(conv=>whnf);refine And.intro rfl ?_;(conv=>whnf);refine hK _ _ ?_;conv=>whnf)|(refine cP (bt) ?_;conv=>whnf)|(rw[e];refine XL λK' hK=>?_;refine XE (yn l (a+1) (2*n) ht h hl) [(1000,1000)] rfl rfl ?_;(conv=>whnf);refine And.intro rfl ?_;(conv=>whnf);refine hK _ _ ?_;conv=>whnf)|(refine Xz aa aa ?_;conv=>whnf)|fail)
 refine X7 1 ?_;conv=>whnf
 repeat'(first|refine awz ?_|exact rZ|fail)
 all_goals exact⟨rfl,whd⟩
theorem H3(l:List Int)(a n:Nat)(h:a<l.length)(hl:l.length<=1048576)(hn:l.getD a 0=(n:Int))(hn2:n<=10)(ht:a+1+2*n<=l.length):gc av 445 [.one (.ref 1000 0 0 0)] [(1000,.cells 425 [.d (.sl (l.map eI)),.d (dI ((a:Nat):Int))])] [(1000,.cells 425 [.d (.sl (l.map eI)),.d (dI ((a+1+2*n:Nat):Int))]),(28,.row 320 2 ((dE ((l.drop (a+1)).take (2*n))).map DPair.ds))] [1000] (.tup [.one (.own 28),.one (.d (dB true))]):=by
 have bt:=bf (l.getD a 0) 0 10;have hb:aJ (l.getD a 0) 0 10=true:=by rw[hn];simp[aJ];omega
 rw[hb]at bt;have nx:=nM l a h hl;rw[hn]at bt nx;have e:2*(n:Int)=((2*n:Nat):Int):=aa;have tk:=vD l (a+1) (2*n) ht hl;have hml:((l.drop (a+1)).take (2*n)).length=2*n:=by rw[List.length_take,List.length_drop];omega
 generalize (l.drop (a+1)).take (2*n)=m at tk hml;have hpl:(dE m).length=n:=by rw[ru,hml];omega
 refine dq aM func445 rfl call445 ntmps445 (aaX results445) rfl λS pv=>?_;conv=>whnf
 repeat'(first|refine awz ?_|(refine XL λK' hK=>?_;refine XE nx [(1000,1000)] rfl rfl ?_;(conv=>whnf);refine And.intro rfl ?_;(conv=>whnf);refine hK _ _ ?_;conv=>whnf)|(refine cP (bt) ?_;conv=>whnf)|(rw[e];refine XL λK' hK=>?_;refine XE tk [(1000,1000)] rfl rfl ?_;(conv=>whnf);refine And.intro rfl ?_;(conv=>whnf);refine hK _ _ ?_;conv=>whnf)|(refine Xz aa aa ?_;conv=>whnf)|fail)
 refine XA (λk:Nat=>k<=n) (28::[6,8,29,30,31,32,33,34,35,36,37,38,39,40,41,42,43]) (λk=>[(6,.one (.d (.sl ((m.drop (2*k)).map eI)))),(8,.one (.own 28))]) (λk=>[(9999,.frame (ii [1000]) pv),(1000,.cells 425 [.d (.sl (l.map eI)),.d (dI ((a+1+2*n:Nat):Int))]),(28,.row 320 2 (((dE m).take k).map DPair.ds))]) (λk=>n-k) 0 (Nat.zero_le _) ?_ sbW (λk hk=>?_)<;>(conv=>whnf)
 ·exact whd
 ·by_cases hlt:k<n
  ·have hc:decide ((((m.drop (2*k)).map eI).length:Int)>0)=true:=by simp[hml];omega
   have hs:=A8 (m:=m) (k:=k) aa;repeat'(first|refine awz ?_|fail)
   (refine XF aM 8 (tkc [0,1,2,3,4,5,6] (onc [7,8,9] (.take 10 .done))) [] o9 ac ac ac ac (λRz=>?_);(conv=>whnf))
   repeat'((first|refine awz ?_|refine Xw 0 _ rfl (mj aa) ?_|refine Xw 1 _ rfl (mj aa) ?_|(refine⟨2,((m.drop (2*k)).map eI).length,rfl,rfl,(by simp[hml];omega),Nat.le_refl _,(by intro y hy;obtain⟨a,_,rfl⟩:=List.mem_map.1 hy;rfl),?_⟩;rw[Md])|refine bc ak ?_|fail)<;>conv=>whnf)
   all_goals
    refine aT.mk ⟨k+1,hlt,aa,?_,Xu rfl (Xu rfl (Xu (by rw[hs];simp[dE,bo];rfl) Xv))⟩;exact hds
  ·have e2:k=n:=aa;subst e2;have hc:decide ((((m.drop (2*k)).map eI).length:Int)>0)=false:=by simp[hml]
   rw[List.take_of_length_le aa];repeat'(first|refine awz ?_|exact rZ|fail)
   all_goals exact⟨rfl,whd⟩
def pE:List (List Nat):=cz [0,0,2,3,0,5,6,0,8,9,0,11,12,0,14,15,271884740,17,1153,0x1349140f38d30b2892071851030814d3]
theorem OA:(((m.drop (5*k)).map eI).take ((m.drop (5*k)).map eI).length).drop 5=(m.drop (5*(k+1))).map eI:=by
 rw[List.take_length,<-List.map_drop,List.drop_drop];congr 2
theorem J0(l:List Int)(a:Nat)(h:l.length<=a):gc av 446 [.one (.ref 1000 0 0 0)] [(1000,.cells 425 [.d (.sl (l.map eI)),.d (dI ((a:Nat):Int))])] [(1000,.cells 425 [.d (.sl (l.map eI)),.d (dI ((a:Nat):Int))])] [1000] (.tup [.one .nil,.one (.d (dB false))]):=by
 refine dq aM func446 rfl call446 ntmps446 (aaX results446) rfl λS pv=>?_;conv=>whnf
 repeat'(first|refine awz ?_|(refine XL λK' hK=>?_;refine XE (JW l a h) [(1000,1000)] rfl rfl ?_;(conv=>whnf);refine And.intro rfl ?_;(conv=>whnf);refine hK _ _ ?_;conv=>whnf)|exact rZ|fail)
 all_goals exact⟨rfl,whd⟩
theorem J1(l:List Int)(a:Nat)(h:a<l.length)(hl:l.length<=1048576)(hb:aJ (l.getD a 0) 0 8=false):gc av 446 [.one (.ref 1000 0 0 0)] [(1000,.cells 425 [.d (.sl (l.map eI)),.d (dI ((a:Nat):Int))])] [(1000,.cells 425 [.d (.sl (l.map eI)),.d (dI ((a+1:Nat):Int))])] [1000] (.tup [.one .nil,.one (.d (dB false))]):=by
 have bt:=bf (l.getD a 0) 0 8;rw[hb]at bt;refine dq aM func446 rfl call446 ntmps446 (aaX results446) rfl λS pv=>?_;conv=>whnf
 repeat'(first|refine awz ?_|(refine XL λK' hK=>?_;refine XE (nM l a h hl) [(1000,1000)] rfl rfl ?_;(conv=>whnf);refine And.intro rfl ?_;(conv=>whnf);refine hK _ _ ?_;conv=>whnf)|(refine cP (bt) ?_;conv=>whnf)|exact rZ|fail)
 all_goals exact⟨rfl,whd⟩
theorem J2(l:List Int)(a n:Nat)(h:a<l.length)(hl:l.length<=1048576)(hn:l.getD a 0=(n:Int))(hn2:n<=8)(ht:l.length<a+1+5*n):gc av 446 [.one (.ref 1000 0 0 0)] [(1000,.cells 425 [.d (.sl (l.map eI)),.d (dI ((a:Nat):Int))])] [(1000,.cells 425 [.d (.sl (l.map eI)),.d (dI ((a+1:Nat):Int))]),(28,.row 324 5 [])] [1000] (.tup [.one (.own 28),.one (.d (dB false))]):=by
 have bt:=bf (l.getD a 0) 0 8;have hb:aJ (l.getD a 0) 0 8=true:=by rw[hn];simp[aJ];omega
 rw[hb]at bt;have nx:=nM l a h hl;rw[hn]at bt nx;have e:5*(n:Int)=((5*n:Nat):Int):=aa;refine dq aM func446 rfl call446 ntmps446 (aaX results446) rfl λS pv=>?_;conv=>whnf
 repeat'(first|refine awz ?_|(refine XL λK' hK=>?_;refine XE nx [(1000,1000)] rfl rfl ?_;(conv=>whnf);refine And.intro rfl ?_;(conv=>whnf);refine hK _ _ ?_;conv=>whnf)|(refine cP (bt) ?_;conv=>whnf)|(rw[e];refine XL λK' hK=>?_;refine XE (yn l (a+1) (5*n) ht h hl) [(1000,1000)] rfl rfl ?_;(conv=>whnf);refine And.intro rfl ?_;(conv=>whnf);refine hK _ _ ?_;conv=>whnf)|(refine Xz aa aa ?_;conv=>whnf)|fail)
 refine X7 1 ?_;conv=>whnf
 repeat'(first|refine awz ?_|exact rZ|fail)
 all_goals exact⟨rfl,whd⟩
theorem J3(l:List Int)(a n:Nat)(h:a<l.length)(hl:l.length<=1048576)(hn:l.getD a 0=(n:Int))(hn2:n<=8)(ht:a+1+5*n<=l.length):gc av 446 [.one (.ref 1000 0 0 0)] [(1000,.cells 425 [.d (.sl (l.map eI)),.d (dI ((a:Nat):Int))])] [(1000,.cells 425 [.d (.sl (l.map eI)),.d (dI ((a+1+5*n:Nat):Int))]),(28,.row 324 5 ((eM ((l.drop (a+1)).take (5*n))).map DJob.ds))] [1000] (.tup [.one (.own 28),.one (.d (dB true))]):=by
 have bt:=bf (l.getD a 0) 0 8;have hb:aJ (l.getD a 0) 0 8=true:=by rw[hn];simp[aJ];omega
 rw[hb]at bt;have nx:=nM l a h hl;rw[hn]at bt nx;have e:5*(n:Int)=((5*n:Nat):Int):=aa;have tk:=vD l (a+1) (5*n) ht hl;have hml:((l.drop (a+1)).take (5*n)).length=5*n:=by rw[List.length_take,List.length_drop];omega
 generalize (l.drop (a+1)).take (5*n)=m at tk hml;have hpl:(eM m).length=n:=by rw[Gp,hml];omega
 refine dq aM func446 rfl call446 ntmps446 (aaX results446) rfl λS pv=>?_;conv=>whnf
 repeat'(first|refine awz ?_|(refine XL λK' hK=>?_;refine XE nx [(1000,1000)] rfl rfl ?_;(conv=>whnf);refine And.intro rfl ?_;(conv=>whnf);refine hK _ _ ?_;conv=>whnf)|(refine cP (bt) ?_;conv=>whnf)|(rw[e];refine XL λK' hK=>?_;refine XE tk [(1000,1000)] rfl rfl ?_;(conv=>whnf);refine And.intro rfl ?_;(conv=>whnf);refine hK _ _ ?_;conv=>whnf)|(refine Xz aa aa ?_;conv=>whnf)|fail)
 refine XA (λk:Nat=>k<=n) (28::[6,8,29,30,31,32,33,34,35,36,37,38,39,40,41,42,43,44,45,46,47,48,49,50,51,52]) (λk=>[(6,.one (.d (.sl ((m.drop (5*k)).map eI)))),(8,.one (.own 28))]) (λk=>[(9999,.frame (ii [1000]) pv),(1000,.cells 425 [.d (.sl (l.map eI)),.d (dI ((a+1+5*n:Nat):Int))]),(28,.row 324 5 (((eM m).take k).map DJob.ds))]) (λk=>n-k) 0 (Nat.zero_le _) ?_ sbW (λk hk=>?_)<;>(conv=>whnf)
 ·exact whd
 ·by_cases hlt:k<n
  ·have hc:decide ((((m.drop (5*k)).map eI).length:Int)>0)=true:=by simp[hml];omega
   have hs:=Es (m:=m) (k:=k) aa;repeat'(first|refine awz ?_|fail)
   (refine XF aM 8 (tkc [0,1,2,3,4,5,6,7,8,9,10,11,12,13,14,15] (onc [16,17,18] (.take 19 .done))) [] pE ac ac ac ac (λRz=>?_);(conv=>whnf))
   repeat'((first|refine awz ?_|refine Xw 0 _ rfl (mj aa) ?_|refine Xw 1 _ rfl (mj aa) ?_|refine Xw 2 _ rfl (mj aa) ?_|refine Xw 3 _ rfl (mj aa) ?_|refine Xw 4 _ rfl (mj aa) ?_|(refine⟨5,((m.drop (5*k)).map eI).length,rfl,rfl,(by simp[hml];omega),Nat.le_refl _,(by intro y hy;obtain⟨a,_,rfl⟩:=List.mem_map.1 hy;rfl),?_⟩;rw[OA])|refine bc ak ?_|fail)<;>conv=>whnf)
   all_goals
    refine aT.mk ⟨k+1,hlt,aa,?_,Xu rfl (Xu rfl (Xu (by rw[hs];simp[eM,bo];rfl) Xv))⟩;exact hds
  ·have e2:k=n:=aa;subst e2;have hc:decide ((((m.drop (5*k)).map eI).length:Int)>0)=false:=by simp[hml]
   rw[List.take_of_length_le aa];repeat'(first|refine awz ?_|exact rZ|fail)
   all_goals exact⟨rfl,whd⟩
end
end Go.Proofs.YtpdmakdpnejnfaaGreat
