/- RA3 -/
import Derived.Test.YthgkdhnlehneeaaGreatDoorRA2
import Derived.Test.YthgkdhnlehneeaaGreatDoorAvLD
import Derived.Test.YthgkdhnlehneeaaGreatDoorWB4
import Derived.Test.YthgkdhnlehneeaaGreatDoorWB7
import Derived.Test.YthgkdhnlehneeaaGreatDoorWA4
set_option maxHeartbeats 8000000
set_option linter.unusedVariables false
set_option linter.unusedSimpArgs false
set_option maxRecDepth 100000
open List (length_append length_cons length_map length_nil length_take)
namespace Go.Proofs.YthgkdhnlehneeaaGreatDoor
section
open Go.Proofs.Tryz
open Go.ChangeShapes Go.WideShapes Go.RowKit
variable {l:List Int}
def ie:List (List Nat):=bC [0,1,129,0,4,324,0,7,519,0,10,714,0,0x30421841491c830a2cd,0,0xf38d2ca3081c9144182043]
def ii:List (List Nat):=dW 15 [11160234,11160235,11160238,11159558,11159585,11159666,11141306,11142035,11144222,10648502,10668185,10727234,10097378,10363099,4782968]
def de:List (List Nat):=bC [0,1,129,12354,1056835,84676740,6510088389,1056835,135008388,9731313864,0x1c50c108418a209,0x40810cb248286147,0x30714628824b0c1084,0xd1020432c920a1851cc,0x38c1c518a2092c304210d,0xf3440810cb24828614730e,0xd1020432c920a1851cc,0x44c1c518a2092c304210d,0x123440810cb248286147311,0x1038c1c518a2092c304210d3d3452,0x3440810cb2482861473144914cf390]
def dg:List (List Nat):=dW 19 [0,1,4,13,56902,56983,57226,2146,4333,10894,29524,88573,265720,1120011907,1121606230,1126389199,42249559,85296280,214436443]
theorem Km(h:l.length≠9):iy l=none:=by
 unfold iy;split
 ·exact absurd rfl h
 ·rfl
theorem MG(h:l.length≠11):jo l=none:=by
 unfold jo;split
 ·exact absurd rfl h
 ·rfl
theorem ME(h:l.length≠13):jW l=none:=by
 unfold jW;split
 ·exact absurd rfl h
 ·rfl
theorem CX(l:List Int):aN av 424 [.one (.sl (l.map eI))] (BB (iy l)):=by
 by_cases hl:l.length=9
 ·obtain⟨i,t,c,s,k,a,b,x,d,rfl⟩:=TP hl;have ro:=MY [k,a,b,x,d];cases ho:m9 ⟨k,a,b,x,d⟩with
  |false=>
   have e:iy [i,t,c,s,k,a,b,x,d]=none:=by simp[iy,bL,ho]
   have e2:qx [k,a,b,x,d]=none:=by simp[qx,ho]
   rw[e2]at ro;rw[e];unfold BB;refine pO func424 call424 ntmps424 results424 λS=>?_;conv=>whnf
   repeat'((first|refine awz ?_|refine⟨4,9,rfl,rfl,by decide,ah,(by intro y hy;obtain⟨a,_,rfl⟩:=List.mem_map.1 hy;rfl),?_⟩|refine cP (ro) ?_|fail)<;>conv=>whnf)
   (refine aaJ aM 4 15 ie ii ae ae ae rfl ?_;conv=>whnf)
   repeat'((first|refine awz ?_|refine aaG 0 _ rfl rfl ?_|refine aaG 1 _ rfl rfl ?_|refine aaG 2 _ rfl rfl ?_|refine aaG 3 _ rfl rfl ?_|exact rZ|fail)<;>conv=>whnf)
  |true=>
   have e2:qx [k,a,b,x,d]=some ⟨k,a,b,x,d⟩:=by simp[qx,ho]
   rw[e2]at ro;cases he:bL ⟨i,t,c,s,⟨k,a,b,x,d⟩⟩with
   |false=>
    have n1:(!bL ⟨i,t,c,s,⟨k,a,b,x,d⟩⟩)=true:=by rw[he];rfl
    have e:iy [i,t,c,s,k,a,b,x,d]=none:=by simp[iy,he]
    rw[e];unfold BB;refine pO func424 call424 ntmps424 results424 λS=>?_;conv=>whnf
    repeat'((first|refine awz ?_|refine⟨4,9,rfl,rfl,by decide,ah,(by intro y hy;obtain⟨a,_,rfl⟩:=List.mem_map.1 hy;rfl),?_⟩|refine cP (ro) ?_|fail)<;>conv=>whnf)
    (refine aaJ aM 4 15 ie ii ae ae ae rfl ?_;conv=>whnf)
    repeat'((first|refine awz ?_|refine aaG 0 _ rfl rfl ?_|refine aaG 1 _ rfl rfl ?_|refine aaG 2 _ rfl rfl ?_|refine aaG 3 _ rfl rfl ?_|refine cP (bP ⟨i,t,c,s,⟨k,a,b,x,d⟩⟩) ?_|exact rZ|fail)<;>conv=>whnf)
   |true=>
    have n1:(!bL ⟨i,t,c,s,⟨k,a,b,x,d⟩⟩)=false:=by rw[he];rfl
    have e:iy [i,t,c,s,k,a,b,x,d]=some ⟨i,t,c,s,⟨k,a,b,x,d⟩⟩:=by simp[iy,he]
    rw[e];unfold BB;refine pO func424 call424 ntmps424 results424 λS=>?_;conv=>whnf
    repeat'((first|refine awz ?_|refine⟨4,9,rfl,rfl,by decide,ah,(by intro y hy;obtain⟨a,_,rfl⟩:=List.mem_map.1 hy;rfl),?_⟩|refine cP (ro) ?_|fail)<;>conv=>whnf)
    (refine aaJ aM 4 15 ie ii ae ae ae rfl ?_;conv=>whnf)
    repeat'((first|refine awz ?_|refine aaG 0 _ rfl rfl ?_|refine aaG 1 _ rfl rfl ?_|refine aaG 2 _ rfl rfl ?_|refine aaG 3 _ rfl rfl ?_|refine cP (bP ⟨i,t,c,s,⟨k,a,b,x,d⟩⟩) ?_|exact rZ|fail)<;>conv=>whnf)
 ·have n1:(((l.map eI).length:Int) !=9)=true:=by simp only[List.length_map,bne_iff_ne,ne_eq];omega
  rw[Km hl];unfold BB;refine pO func424 call424 ntmps424 results424 λS=>?_;conv=>whnf
  repeat'(first|refine awz ?_|exact rZ|fail)
theorem O6(l:List Int):aN av 471 [.one (.sl (l.map eI))] (BB (jo l)):=by
 by_cases hl:l.length=11
 ·obtain⟨i,t,c,s,k,a,b,x,d,y,z,rfl⟩:=Od hl;have re:=CX [i,t,c,s,k,a,b,x,d];by_cases hy:y=i
  ·have n1:(y !=i)=false:=by simpa using hy
   by_cases hz:z=i
   ·have n2:(z !=i)=false:=by simpa using hz
    have e:jo [i,t,c,s,k,a,b,x,d,y,z]=iy [i,t,c,s,k,a,b,x,d]:=by simp[jo,iy,hy,hz]
    rw[e];unfold BB at re⊢;refine pO func471 call471 ntmps471 results471 λS=>?_;conv=>whnf
    repeat'(first|refine awz ?_|fail)
    (refine aaJ aM 1 19 de dg ae ae ae rfl ?_;conv=>whnf)
    repeat'((first|refine awz ?_|refine aaG 0 _ rfl rfl ?_|refine aaG 9 _ rfl rfl ?_|refine aaG 10 _ rfl rfl ?_|refine⟨0,9,rfl,rfl,by decide,ah,(by intro y hy;obtain⟨a,_,rfl⟩:=List.mem_map.1 hy;rfl),?_⟩|refine cP (re) ?_|exact rZ|fail)<;>conv=>whnf)
   ·have n2:(z !=i)=true:=by simpa using hz
    have e:jo [i,t,c,s,k,a,b,x,d,y,z]=none:=by simp[jo,hz]
    rw[e];unfold BB;refine pO func471 call471 ntmps471 results471 λS=>?_;conv=>whnf
    repeat'(first|refine awz ?_|fail)
    (refine aaJ aM 1 19 de dg ae ae ae rfl ?_;conv=>whnf)
    repeat'((first|refine awz ?_|refine aaG 0 _ rfl rfl ?_|refine aaG 9 _ rfl rfl ?_|refine aaG 10 _ rfl rfl ?_|exact rZ|fail)<;>conv=>whnf)
  ·have n1:(y !=i)=true:=by simpa using hy
   have e:jo [i,t,c,s,k,a,b,x,d,y,z]=none:=by simp[jo,hy]
   rw[e];unfold BB;refine pO func471 call471 ntmps471 results471 λS=>?_;conv=>whnf
   repeat'(first|refine awz ?_|fail)
   (refine aaJ aM 1 19 de dg ae ae ae rfl ?_;conv=>whnf)
   repeat'((first|refine awz ?_|refine aaG 0 _ rfl rfl ?_|refine aaG 9 _ rfl rfl ?_|exact rZ|fail)<;>conv=>whnf)
 ·have n1:(((l.map eI).length:Int) !=11)=true:=by simp only[List.length_map,bne_iff_ne,ne_eq];omega
  rw[MG hl];unfold BB;refine pO func471 call471 ntmps471 results471 λS=>?_;conv=>whnf
  repeat'(first|refine awz ?_|fail)
  (refine aaJ aM 1 19 de dg ae ae ae rfl ?_;conv=>whnf)
  repeat'(first|refine awz ?_|exact rZ|fail)
theorem xf(i:Int)(h:1<=i/\i<=2000):aN av 386 [pI i] (.val (pI (iq i))):=by
 have n1:(!aJ i 1 2000)=false:=by simp[aJ];omega
 have e:iq i=2+i.tmod 20:=by rw[iq,Int.tmod_eq_emod_of_nonneg ac]
 have hr:0<=i.tmod 20/\i.tmod 20<20:=by rw[Int.tmod_eq_emod_of_nonneg ac];omega
 rw[e];refine pO func386 call386 ntmps386 results386 λS=>?_;conv=>whnf
 repeat'((first|refine awz ?_|refine cP (gQ i) ?_|refine And.intro ai ?_|refine aaH ac ac ?_|exact rZ|fail)<;>conv=>whnf)
theorem Sg(i:Int)(h:¬(1<=i/\i<=2000)):aN av 386 [pI i] (.val (pI (-1))):=by
 have n1:(!aJ i 1 2000)=true:=by simp[aJ];omega
 refine pO func386 call386 ntmps386 results386 λS=>?_;conv=>whnf
 repeat'(first|refine awz ?_|(refine cP (gQ i) ?_;conv=>whnf)|exact rZ|fail)
end
open Go.Proofs.Tryz
open Go.ChangeShapes Go.WideShapes Go.RowKit
def xv:List (List Nat):=bC [0,1,0,3,258,0,6,7,33285,0x9207185103081249]
def mj:List (List Nat):=bC [0,1,2,0,4,5,0,7,8,0,10,11,3182979,0,0x38d30b28920718510308134e]
theorem wt(l:List Int)(kind many:Int)(h:(l.length:Int)≠many):aN av 416 [.one (.sl (l.map eI)),pI kind,pI many] (rB false):=by
  have hc:((((l.map eI).length:Int))==many)=false:=by simpa using h
  refine pO func416 call416 ntmps416 results416 λS=>?_;conv=>whnf
  repeat'(first|refine awz ?_|exact rZ|fail)
theorem wq(a:Int)(r:List Int)(kind many:Int)(h:(((a::r).length:Nat):Int)=many):aN av 416 [.one (.sl ((a::r).map eI)),pI kind,pI many] (rB (a==kind)):=by
  have hc:(((((a::r).map eI).length:Int))==many)=true:=by simpa using h
  refine pO func416 call416 ntmps416 results416 λS=>?_;conv=>whnf
  repeat'(first|refine awz ?_|(refine aaG 0 (eI a) rfl rfl ?_;conv=>whnf)|exact rZ|fail)
def tu(l:List Int):Prop:=l.length<=48
theorem BM(kind x lo hi:Int):cA av 367 [pI kind,pI x,pI lo,pI hi] tu (λl=> .val (.one (.sl (l.map eI)))):=by
  refine aV aM func367 rfl call367 ntmps367 (ace results367) λS=>?_;conv=>whnf
  repeat'((first|refine awz ?_|refine cP (aQ _ _ _) ?_|refine tW ?_ ?_|intro h)<;>conv=>whnf)
  all_goals first
    |exact⟨[],by simp[tu],rfl⟩
    |exact⟨[kind,x],by simp[tu],rfl⟩
theorem MM(x:Int):cA av 267 [pI x] tu (λl=> .val (.one (.sl (l.map eI)))):=by
  refine aV aM func267 rfl call267 ntmps267 (ace results267) λS=>?_;conv=>whnf
  repeat'(first|refine awz ?_|(refine aI.q (BM _ _ _ _) rfl λy hy=>?_;conv=>whnf)|fail)
  all_goals exact⟨_,hy,rfl⟩
theorem OY(x:Int):cA av 376 [pI x] tu (λl=> .val (.one (.sl (l.map eI)))):=by
  refine aV aM func376 rfl call376 ntmps376 (ace results376) λS=>?_;conv=>whnf
  repeat'(first|refine awz ?_|(refine aI.q (BM _ _ _ _) rfl λy hy=>?_;conv=>whnf)|fail)
  all_goals exact⟨_,hy,rfl⟩
theorem Pb(x:Int):cA av 270 [pI x] tu (λl=> .val (.one (.sl (l.map eI)))):=by
  refine aV aM func270 rfl call270 ntmps270 (ace results270) λS=>?_;conv=>whnf
  repeat'(first|refine awz ?_|(refine aI.q (BM _ _ _ _) rfl λy hy=>?_;conv=>whnf)|fail)
  all_goals exact⟨_,hy,rfl⟩
theorem sx(l:List Int)(kind lo hi:Int):cA av 420 [.one (.sl (l.map eI)),pI kind,pI lo,pI hi] (λ_:Int×Bool=>True) (λy=> .tup [.one (dI y.1),.one (dB y.2)]):=by
  by_cases h:l.length=2
  · obtain⟨a,r,rfl,h1⟩:=bm h;obtain⟨b,r,rfl,h2⟩:=bm h1;have e:r=[]:=List.eq_nil_of_length_eq_zero h2;subst e;have hi:=wq a [b] kind 2 rfl;refine aV aM func420 rfl call420 ntmps420 (ace results420) λS=>?_;conv=>whnf
    repeat'((first|refine awz ?_|refine cP (hi) ?_|refine cP (aQ _ _ _) ?_|refine aaG 1 (eI b) rfl rfl ?_|refine tW ?_ ?_|intro h)<;>conv=>whnf)
    all_goals exact⟨(_,_),trivial,rfl⟩
  · have hi:=wt l kind 2 ac;refine aV aM func420 rfl call420 ntmps420 (ace results420) λS=>?_;conv=>whnf
    repeat'(first|refine awz ?_|(refine cP (hi) ?_;conv=>whnf)|fail)
    all_goals exact⟨(_,_),trivial,rfl⟩
theorem MW(l:List Int):cA av 347 [.one (.sl (l.map eI))] (λ_:Int×Bool=>True) (λy=> .tup [.one (dI y.1),.one (dB y.2)]):=by
  refine aV aM func347 rfl call347 ntmps347 (ace results347) λS=>?_;conv=>whnf
  repeat'(first|refine awz ?_|(refine aI.q (sx l _ _ _) rfl λy hy=>?_;conv=>whnf)|fail)
  all_goals exact⟨(_,_),trivial,rfl⟩
theorem O4(l:List Int):cA av 357 [.one (.sl (l.map eI))] (λ_:Int×Bool=>True) (λy=> .tup [.one (dI y.1),.one (dB y.2)]):=by
  refine aV aM func357 rfl call357 ntmps357 (ace results357) λS=>?_;conv=>whnf
  repeat'(first|refine awz ?_|(refine aI.q (sx l _ _ _) rfl λy hy=>?_;conv=>whnf)|fail)
  all_goals exact⟨(_,_),trivial,rfl⟩
theorem O7(l:List Int):cA av 350 [.one (.sl (l.map eI))] (λ_:Int×Bool=>True) (λy=> .tup [.one (dI y.1),.one (dB y.2)]):=by
  refine aV aM func350 rfl call350 ntmps350 (ace results350) λS=>?_;conv=>whnf
  repeat'(first|refine awz ?_|(refine aI.q (sx l _ _ _) rfl λy hy=>?_;conv=>whnf)|fail)
  all_goals exact⟨(_,_),trivial,rfl⟩
structure DG where
  client:Int
  seq:Int
  op:DOp
def DG.ds(a:DG):List AD:=[dI a.client,dI a.seq]++a.op.ds
structure DH where
  client:Int
  seq:Int
  key:Int
  least:Int
def DH.ds(a:DH):List AD:=[dI a.client,dI a.seq,dI a.key,dI a.least]
structure Jg where
  client:Int
  seq:Int
  index:Int
  has:Int
  value:Int
def Jg.ds(a:Jg):List AD:=[dI a.client,dI a.seq,dI a.index,dI a.has,dI a.value]
structure BS where
  base:Int
  last:Int
  ents:List aO
def BS.ds(a:BS):List AD:=[dI a.base,dI a.last,.sl (a.ents.map aO.ds)]
def B4(a:DG):Bool:=aJ a.client 2 5&&aJ a.seq 1 2000&&m9 a.op
def uy(a:fE):Bool:=aJ a.client 2 5&&aJ a.seq 1 2000&&aJ a.last a.seq 2000&&(if a.last>a.seq then a.index==0 else aJ a.index 1 2000)
def Qz(a:DH):Bool:=aJ a.client 2 5&&aJ a.seq 1 2000&&aJ a.key 0 9&&aJ a.least 0 2000
def Gy(a:Jg):Bool:=aJ a.client 2 5&&aJ a.seq 1 2000&&aJ a.index 0 2000&&aJ a.has 0 1&&aJ a.value 0 999&&(a.has==1||a.value==0)
theorem Ap(a:DG):aN av 418 [.agg a.ds] (rB (B4 a)):=by
  refine pO func418 call418 ntmps418 results418 λS=>?_;conv=>whnf
  repeat'((first|refine awz ?_|refine cP (fg _) ?_|refine cP (gI _) ?_|refine cP (iQ a.op) ?_|refine tW ?_ ?_|intro h)<;>conv=>whnf)
  all_goals simp_all[B4]
theorem n8(a:fE):aN av 438 [.agg a.ds] (rB (uy a)):=by
  refine pO func438 call438 ntmps438 results438 λS=>?_;conv=>whnf
  repeat'((first|refine awz ?_|refine cP (fg _) ?_|refine cP (gI _) ?_|refine cP (gQ _) ?_|refine cP (aQ _ _ _) ?_|refine tW ?_ ?_|intro h)<;>conv=>whnf)
  all_goals first
    |(simp_all[uy];done)
    |(simp_all[uy];intro h2;exfalso;omega)
theorem qA(a:DH):aN av 426 [.agg a.ds] (rB (Qz a)):=by
  refine pO func426 call426 ntmps426 results426 λS=>?_;conv=>whnf
  repeat'((first|refine awz ?_|refine cP (fg _) ?_|refine cP (gI _) ?_|refine cP (qG _) ?_|refine cP (aQ _ _ _) ?_|refine tW ?_ ?_|intro h)<;>conv=>whnf)
  all_goals simp_all[Qz]
theorem lZ(a:Jg):aN av 428 [.agg a.ds] (rB (Gy a)):=by
  refine pO func428 call428 ntmps428 results428 λS=>?_;conv=>whnf
  repeat'((first|refine awz ?_|refine cP (fg _) ?_|refine cP (gI _) ?_|refine cP (l6 _) ?_|refine cP (aQ _ _ _) ?_|refine tW ?_ ?_|intro h)<;>conv=>whnf)
  all_goals simp_all[Gy]
theorem RV(a:fE):cA av 366 [.agg a.ds] tu (λl=> .val (.one (.sl (l.map eI)))):=by
  refine aV aM func366 rfl call366 ntmps366 (ace results366) λS=>?_;conv=>whnf
  repeat'((first|refine awz ?_|refine cP (n8 a) ?_|refine tW ?_ ?_|intro h)<;>conv=>whnf)
  all_goals first
    |exact⟨[],by simp[tu],rfl⟩
    |exact⟨[_,_,_,_,_],by simp[tu],rfl⟩
theorem OZ(a:DH):cA av 380 [.agg a.ds] tu (λl=> .val (.one (.sl (l.map eI)))):=by
  refine aV aM func380 rfl call380 ntmps380 (ace results380) λS=>?_;conv=>whnf
  repeat'((first|refine awz ?_|refine cP (qA a) ?_|refine tW ?_ ?_|intro h)<;>conv=>whnf)
  all_goals first
    |exact⟨[],by simp[tu],rfl⟩
    |exact⟨[_,_,_,_,_],by simp[tu],rfl⟩
theorem M4(a:Jg):cA av 356 [.agg a.ds] tu (λl=> .val (.one (.sl (l.map eI)))):=by
  refine aV aM func356 rfl call356 ntmps356 (ace results356) λS=>?_;conv=>whnf
  repeat'((first|refine awz ?_|refine cP (lZ a) ?_|refine tW ?_ ?_|intro h)<;>conv=>whnf)
  all_goals first
    |exact⟨[],by simp[tu],rfl⟩
    |exact⟨[_,_,_,_,_,_],by simp[tu],rfl⟩
theorem IE(a:DG):cA av 378 [.agg a.ds] tu (λl=> .val (.one (.sl (l.map eI)))):=by
  have c1:=Ap a;cases ho:B4 a with
  |false=>
    rw[ho]at c1;refine aV aM func378 rfl call378 ntmps378 (ace results378) λS=>?_;conv=>whnf
    repeat'(first|refine awz ?_|(refine cP (c1) ?_;conv=>whnf)|fail)
    all_goals exact⟨[],by simp[tu],rfl⟩
  |true=>
    rw[ho]at c1;have ho2:m9 a.op=true:=by simp only[B4,Bool.and_eq_true]at ho;exact ho.2
    have c2:=FX a.op ho2;refine aV aM func378 rfl call378 ntmps378 (ace results378) λS=>?_;conv=>whnf
    repeat'(first|refine awz ?_|(refine cP (c1) ?_;conv=>whnf)|fail)
    (refine aaL aM 3 (tkc [0,1,2,3,5,6] (.two 4 (.one 7 (.one 8 (.take 9 .done))) 7 (.one 4 (.one 8 (.take 9 .done))))) [(1,9980)] xv ae ae ae ae (λRz=>?_);(conv=>whnf);intro bp0 up0;(conv=>whnf))
    repeat'((first|refine awz ?_|refine cP (c2) ?_|refine aW (by first|(intro y hy;obtain⟨a,_,rfl⟩:=List.mem_map.1 hy;rfl)|(simp;done)) ?_|refine a7 (by simp[opL]) ?_|refine tW ?_ ?_|fail)<;>conv=>whnf)
    all_goals exact⟨[1,a.client,a.seq]++opL a.op,by simp[tu,opL],rfl⟩
theorem O5(l:List Int):cA av 354 [.one (.sl (l.map eI))] (λ_:DH×Bool=>True) (λy=> .tup [.agg y.1.ds,.one (dB y.2)]):=by
  by_cases h:l.length=5
  · obtain⟨a,b,c,d,e,rfl⟩:=Ff h;have hi:=wq a [b,c,d,e] 6 5 rfl;refine aV aM func354 rfl call354 ntmps354 (ace results354) λS=>?_;conv=>whnf
    repeat'((first|refine awz ?_|refine cP (hi) ?_|refine tW ?_ ?_|intro h)<;>conv=>whnf)
    all_goals first
      |exact⟨(⟨_,_,_,_⟩,_),trivial,rfl⟩
      | ((refine aaL aM 3 (tkc [0, 1, 2, 3, 4, 5, 6, 7, 8, 9, 10, 11] (.two 12 (.one 13 (.one 14 .done)) 13 (.one 12 (.one 14 .done)))) [] mj ae ae ae ae (fun Rz => ?_); (conv => whnf))
         repeat'((first|refine awz ?_|refine cP (qA ⟨_,_,_,_⟩) ?_|refine aaG 1 _ rfl rfl ?_|refine aaG 2 _ rfl rfl ?_|refine aaG 3 _ rfl rfl ?_|refine aaG 4 _ rfl rfl ?_|refine tW ?_ ?_|intro h)<;>conv=>whnf)
         all_goals exact⟨(⟨_,_,_,_⟩,_),trivial,rfl⟩)
  · have hi:=wt l 6 5 ac;refine aV aM func354 rfl call354 ntmps354 (ace results354) λS=>?_;conv=>whnf
    repeat'(first|refine awz ?_|(refine cP (hi) ?_;conv=>whnf)|fail)
    all_goals exact⟨(⟨_,_,_,_⟩,_),trivial,rfl⟩
theorem IL(l:List Int):cA av 429 [.one (.sl (l.map eI))] (λ_:fE×Bool=>True) (λy=> .tup [.agg y.1.ds,.one (dB y.2)]):=by
  by_cases h:l.length=5
  · obtain⟨a,b,c,d,e,rfl⟩:=Ff h;have hi:=wq a [b,c,d,e] 2 5 rfl;refine aV aM func429 rfl call429 ntmps429 (ace results429) λS=>?_;conv=>whnf
    repeat'((first|refine awz ?_|refine cP (hi) ?_|refine tW ?_ ?_|intro h)<;>conv=>whnf)
    all_goals first
      |exact⟨(⟨_,_,_,_⟩,_),trivial,rfl⟩
      | ((refine aaL aM 3 (tkc [0, 1, 2, 3, 4, 5, 6, 7, 8, 9, 10, 11] (.two 12 (.one 13 (.one 14 .done)) 13 (.one 12 (.one 14 .done)))) [] mj ae ae ae ae (fun Rz => ?_); (conv => whnf))
         repeat'((first|refine awz ?_|refine cP (n8 ⟨_,_,_,_⟩) ?_|refine aaG 1 _ rfl rfl ?_|refine aaG 2 _ rfl rfl ?_|refine aaG 3 _ rfl rfl ?_|refine aaG 4 _ rfl rfl ?_|refine tW ?_ ?_|intro h)<;>conv=>whnf)
         all_goals exact⟨(⟨_,_,_,_⟩,_),trivial,rfl⟩)
  · have hi:=wt l 2 5 ac;refine aV aM func429 rfl call429 ntmps429 (ace results429) λS=>?_;conv=>whnf
    repeat'(first|refine awz ?_|(refine cP (hi) ?_;conv=>whnf)|fail)
    all_goals exact⟨(⟨_,_,_,_⟩,_),trivial,rfl⟩
def tv:List (List Nat):=bC [0,1,129,0,4,324,0,7,519,848966926504392,0,0xb2881c9144182043]
def tM:List (List Nat):=dW 11 [137754,137755,137758,137078,137105,137186,118826,119555,121742,127939,59048]
def gn:List (List Nat):=bC [0,0,0,3,259,544964,101724482,0,0,9,33417,2921096,0x470850c418c20a24b,0,0x38d2c92883061031421c1]
def gp:List (List Nat):=dW 14 [3720084,3718136,3717908,3717917,3717944,3718022,3718265,3243320,3195206,3201767,3219263,3278312,3454366,1594322]
theorem CO(h:bH)(ho:dm h=true):aN av 171 [.agg h.ds] (.val (.one (.sl ((fX h).map eI)))):=by
 have hs:=(cI ho).2.2.2.2.1;have hl:h.seen.length<=9223372036854775806:=by have:=eO hs;omega
 have n1:(!dm h)=false:=by rw[ho];rfl
 have e:fX h=[h.num,h.base,h.time,(bI h.seen 2).seq,(bI h.seen 2).index,(bI h.seen 3).seq,(bI h.seen 3).index,(bI h.seen 4).seq,(bI h.seen 4).index,(bI h.seen 5).seq,(bI h.seen 5).index,h.num,h.num]:=by simp[fX,ho]
 rw[e];refine pO func171 call171 ntmps171 results171 λS=>?_;conv=>whnf
 repeat'(first|refine awz ?_|(refine cP (g8 h hl) ?_;conv=>whnf)|fail)
 refine aaZ 5 ?_;conv=>whnf
 repeat'((first|refine awz ?_|refine cP (jp h.seen _ hs) ?_|refine aaH ai ai ?_|refine a7 (by simp only[length_map,length_nil,length_append,length_cons,length_take,opL,yG]<;>omega) ?_|exact rZ|fail)<;>conv=>whnf)
def yh(o:Option bH):AP:= .tup [.agg (o.getD fw).ds,.one (dB o.isSome)]
def jF(u v w p q s g f:Int):Nat->List aT
 |0=>[]
 |1=>g7 2 u v
 |2=>g7 2 u v++g7 3 w p
 |3=>g7 2 u v++g7 3 w p++g7 4 q s
 |_=>g7 2 u v++g7 3 w p++g7 4 q s++g7 5 g f
theorem rN(c s i:Int):(g7 c s i).length<=1:=by
 unfold g7;split<;>simp
theorem Fo(u v w p q s g f:Int)(k:Nat):(jF u v w p q s g f k).length<=4:=by
 have h1:=rN 2 u v;have h2:=rN 3 w p;have h3:=rN 4 q s;have h4:=rN 5 g f;unfold jF;split<;>(try simp only[length_append,length_nil])<;>omega
theorem O2(l:List Int):aN av 448 [.one (.sl (l.map eI))] (yh (jW l)):=by
 by_cases hl:l.length=13
 ·obtain⟨n,b,t,u,v,w,p,q,s,g,f,x,y,rfl⟩:=JZ hl;by_cases hx:x=n
  ·have n1:(x !=n)=false:=by simpa using hx
   by_cases hy:y=n
   ·have n2:(y !=n)=false:=by simpa using hy
    have hml:=Fo u v w p q s g f 4;have ho:=g8 ⟨n,b,t,jF u v w p q s g f 4⟩ ay;have main:∀o:Option bH,(dm ⟨n,b,t,jF u v w p q s g f 4⟩=true->o=some ⟨n,b,t,jF u v w p q s g f 4⟩)->(dm ⟨n,b,t,jF u v w p q s g f 4⟩=false->o=none)->aN av 448 [.one (.sl ([n,b,t,u,v,w,p,q,s,g,f,x,y].map eI))] (yh o):=by
     intro o h1 h2;refine pO func448 call448 ntmps448 results448 λS=>?_;conv=>whnf
     repeat'(first|refine awz ?_|fail)
     (refine aaJ aM 1 19 de dg ae ae ae rfl ?_;conv=>whnf)
     repeat'((first|refine awz ?_|refine aaG 0 _ rfl rfl ?_|refine aaG 11 _ rfl rfl ?_|refine aaG 12 _ rfl rfl ?_|fail)<;>conv=>whnf)
     (refine aaJ aM 3 11 tv tM ae ae ae rfl ?_;conv=>whnf)
     repeat'((first|refine awz ?_|refine aaG 0 _ rfl rfl ?_|refine aaG 1 _ rfl rfl ?_|refine aaG 2 _ rfl rfl ?_|fail)<;>conv=>whnf)
     refine aa1 4 3 940 279 3 ai ?_;conv=>whnf
     repeat'(first|refine awz ?_|fail)
     refine aaK (λk:Nat=>k<=4) (5::6::rg 39 31) (λk=>[(5,vI .i64 (2+(k:Int)))]) (λk=>[(2,.cells 35 [.d (dI 0),.d (dI 0),.d (dI 0),.nil]),(4,.cells 35 [.d (dI n),.d (dI b),.d (dI t),.own 940]),(940,.row 279 3 ((jF u v w p q s g f k).map aT.ds))]) (λk=>4-k) 0 ac ?_ sbW (λk hk=>?_)<;>(conv=>whnf)
     ·exact whd
     ·have hkl:=Fo u v w p q s g f k;have hk5:k=0\/k=1\/k=2\/k=3\/k=4:=ac;rcases hk5 with rfl|rfl|rfl|rfl|rfl
      ·repeat'(first|refine awz ?_|fail)
       (refine aaJ aM 7 14 gn gp ae ae ae rfl ?_;conv=>whnf)
       repeat'((first|refine awz ?_|refine aaG 3 _ ai rfl ?_|refine aaG 4 _ ai rfl ?_|refine aaH ai ai ?_|refine a7 (by simp only[length_map,length_nil,length_append,length_cons,length_take,opL,yG]<;>omega) ?_|refine tW ?_ ?_|intro h)<;>conv=>whnf)
       all_goals
        refine a8.mk ⟨0+1,ac,ac,?_,aaC rfl (aaC rfl (aaC (by simp[jF,g7,aT.ds,bw, *]) aaE))⟩;exact hds
      ·repeat'(first|refine awz ?_|fail)
       (refine aaJ aM 7 14 gn gp ae ae ae rfl ?_;conv=>whnf)
       repeat'((first|refine awz ?_|refine aaG 5 _ ai rfl ?_|refine aaG 6 _ ai rfl ?_|refine aaH ai ai ?_|refine a7 (by simp only[length_map,length_nil,length_append,length_cons,length_take,opL,yG]<;>omega) ?_|refine tW ?_ ?_|intro h)<;>conv=>whnf)
       all_goals
        refine a8.mk ⟨1+1,ac,ac,?_,aaC rfl (aaC rfl (aaC (by simp[jF,g7,aT.ds,bw, *]) aaE))⟩;exact hds
      ·repeat'(first|refine awz ?_|fail)
       (refine aaJ aM 7 14 gn gp ae ae ae rfl ?_;conv=>whnf)
       repeat'((first|refine awz ?_|refine aaG 7 _ ai rfl ?_|refine aaG 8 _ ai rfl ?_|refine aaH ai ai ?_|refine a7 (by simp only[length_map,length_nil,length_append,length_cons,length_take,opL,yG]<;>omega) ?_|refine tW ?_ ?_|intro h)<;>conv=>whnf)
       all_goals
        refine a8.mk ⟨2+1,ac,ac,?_,aaC rfl (aaC rfl (aaC (by simp[jF,g7,aT.ds,bw, *]) aaE))⟩;exact hds
      ·repeat'(first|refine awz ?_|fail)
       (refine aaJ aM 7 14 gn gp ae ae ae rfl ?_;conv=>whnf)
       repeat'((first|refine awz ?_|refine aaG 9 _ ai rfl ?_|refine aaG 10 _ ai rfl ?_|refine aaH ai ai ?_|refine a7 (by simp only[length_map,length_nil,length_append,length_cons,length_take,opL,yG]<;>omega) ?_|refine tW ?_ ?_|intro h)<;>conv=>whnf)
       all_goals
        refine a8.mk ⟨3+1,ac,ac,?_,aaC rfl (aaC rfl (aaC (by simp[jF,g7,aT.ds,bw, *]) aaE))⟩;exact hds
      ·cases hd:dm ⟨n,b,t,jF u v w p q s g f 4⟩with
       |false=>
        have n3:(!dm ⟨n,b,t,jF u v w p q s g f 4⟩)=true:=by rw[hd];rfl
        obtain rfl:=h2 hd;unfold yh;repeat'(first|refine awz ?_|(refine aI.scalar ho rfl rfl ?_;conv=>whnf)|exact rZ|fail)
       |true=>
        have n3:(!dm ⟨n,b,t,jF u v w p q s g f 4⟩)=false:=by rw[hd];rfl
        obtain rfl:=h1 hd;unfold yh;repeat'(first|refine awz ?_|(refine aI.scalar ho rfl rfl ?_;conv=>whnf)|exact rZ|fail)
    have e:jW [n,b,t,u,v,w,p,q,s,g,f,x,y]=if dm ⟨n,b,t,jF u v w p q s g f 4⟩&&x==n&&y==n then some ⟨n,b,t,jF u v w p q s g f 4⟩else none:=rfl
    rw[e];exact main _ (λh=>by simp[h,hx,hy]) (λh=>by simp[h])
   ·have n2:(y !=n)=true:=by simpa using hy
    have e:jW [n,b,t,u,v,w,p,q,s,g,f,x,y]=none:=by simp[jW,hy]
    rw[e];unfold yh;refine pO func448 call448 ntmps448 results448 λS=>?_;conv=>whnf
    repeat'(first|refine awz ?_|fail)
    (refine aaJ aM 1 19 de dg ae ae ae rfl ?_;conv=>whnf)
    repeat'((first|refine awz ?_|refine aaG 0 _ rfl rfl ?_|refine aaG 11 _ rfl rfl ?_|refine aaG 12 _ rfl rfl ?_|exact rZ|fail)<;>conv=>whnf)
  ·have n1:(x !=n)=true:=by simpa using hx
   have e:jW [n,b,t,u,v,w,p,q,s,g,f,x,y]=none:=by simp[jW,hx]
   rw[e];unfold yh;refine pO func448 call448 ntmps448 results448 λS=>?_;conv=>whnf
   repeat'(first|refine awz ?_|fail)
   (refine aaJ aM 1 19 de dg ae ae ae rfl ?_;conv=>whnf)
   repeat'((first|refine awz ?_|refine aaG 0 _ rfl rfl ?_|refine aaG 11 _ rfl rfl ?_|exact rZ|fail)<;>conv=>whnf)
 ·have n1:(((l.map eI).length:Int) !=13)=true:=by simp only[length_map,bne_iff_ne,ne_eq];omega
  rw[ME hl];unfold yh;refine pO func448 call448 ntmps448 results448 λS=>?_;conv=>whnf
  repeat'(first|refine awz ?_|fail)
  (refine aaJ aM 1 19 de dg ae ae ae rfl ?_;conv=>whnf)
  repeat'(first|refine awz ?_|exact rZ|fail)
def uH:List (List Nat):=bC [0,1,0,3,0,5,6,28930,0x2071851030811c8]
def fc:List (List Nat):=bC [0,1,129,12354,1056835,84676740,1056835,118231172,8657572039,0x61020431491c8,72625159069798726,0xb18524720a0c1084,0x3040810ca20724518b,0xd2c61491c828304210c,0x3040810ca20724518b,0x3040810ca20724518b,0x102c61491c828304210c,0xf2c61491c828304210c450,0x38c1020432881c91462cd49044f,0xc1020432881c91462d33d141234e,0x50e3524113d32c61491c828304210c,0x153040810ca20724518b4cf45048d394,0x59438d49044f4cb18524720a0c1084315,0x1754c1020432881c91462d33d141234e516,0x61650e3524113d32c61491c828304210c557,0x153040810ca20724518b4cf45048d394657598]
def fd:List (List Nat):=dW 18 [0,1,4,13,18994,19075,688,1417,3604,9841,29524,88573,382903240,383434681,119308504,14083186,28432093,66695845]
theorem AM(l:List aO)(hl:l.length<=1048576):dd av 437 [.one (.d (.sl (l.map aO.ds)))] [] [(3,.row 275 9 (l.map aO.ds))] [] (.val (.one (.own 3))):=by
 refine cH aM func437 rfl call437 ntmps437 (ace results437) rfl λS pv=>?_;conv=>whnf
 repeat'((first|refine awz ?_|refine aW (by first|(intro y hy;obtain⟨a,_,rfl⟩:=List.mem_map.1 hy;rfl)|(simp;done)) ?_|refine a7 aq ?_|exact rZ|fail)<;>conv=>whnf)
theorem nA(b:bn)(hl:b.entries.length<=1048576):dd av 436 [.agg (b.ds.map .d)] [] [(903,.row 275 9 (b.entries.map aO.ds))] [] (.val (.agg [.d (dI b.base),.d (dI b.time),.own 903])):=by
 refine cH aM func436 rfl call436 ntmps436 (ace results436) rfl λS pv=>?_;conv=>whnf
 repeat'(first|refine awz ?_|fail)
 (refine aaL aM 1 (tkc [0,1,2,3,4,5] (onc [6,7,8] .done)) [(1,9980)] uH ae ae ae ae (λRz=>?_);(conv=>whnf);intro bp0 up0;(conv=>whnf))
 repeat'(first|refine awz ?_|(refine aaI (AM b.entries hl) [(3,903)] rfl rfl ?_;conv=>whnf)|exact rZ|fail)
theorem Uw{b:bn}(hn:b.entries≠ []):jH b (bg b)=iR b:=by
 have hpos:0<b.entries.length:=List.length_pos_iff.2 hn;have e:(bg b-b.base-1).toNat=b.entries.length-1:=by unfold bg;omega
 unfold jH iR;rw[e,List.getD_eq_getElem?_getD,<-List.getLast?_eq_getElem?,List.getLast?_eq_some_getLast hn];rfl
theorem kf(b:bn)(h:bN b=true):aN av 332 [.agg b.ds,pI (bg b)] (.val (pI (iR b))):=by
 by_cases hn:b.entries=[]
 ·have e:iR b=b.time:=by simp[iR,hn]
  have e2:(bg b==b.base)=true:=by simp[bg,hn]
  rw[e];refine pO func332 call332 ntmps332 results332 λS=>?_;conv=>whnf
  repeat'(first|refine awz ?_|exact rZ|fail)
 ·have hpos:0<b.entries.length:=List.length_pos_iff.2 hn;have:=oW b (bg b) h (by unfold bg;omega) (Int.le_refl _);rwa[Uw hn]at this
def Mh(b:bn)(ok:Bool):AP:= .tup [.agg b.ds,.one (dB ok)]
theorem pr(b:bn)(e:aO)(h:bN b=true)(hf:nK b e=true):aN av 450 [.agg b.ds,.agg e.ds] (Mh (o4 b e) true):=by
 obtain⟨h1,h2,h3,h4,h5,h6⟩:=bY h;simp only[nK,Bool.and_eq_true,decide_eq_true_eq,beq_iff_eq]at hf;obtain⟨⟨⟨f1,f2⟩,f3⟩,f4⟩:=hf;have hlb:0<=bg b/\bg b<=2020:=by unfold bg;omega
 have n1:(!bN b)=false:=by rw[h];rfl
 have n2:(!bL e)=false:=by rw[f1];rfl
 have n3:(e.index !=bg b+1)=false:=by simpa using f2
 have n4:decide (e.time<iR b)=false:=by simp only[decide_eq_false_iff_not];omega
 have n5:(((b.entries.map aO.ds).length:Int)==20)=false:=by simp only[List.length_map,beq_eq_false_iff_ne,ne_eq];omega
 unfold Mh;refine pO func450 call450 ntmps450 results450 λS=>?_;conv=>whnf
 repeat'((first|refine awz ?_|refine cP (fz b) ?_|refine aaI (nA b ac) [(903,913)] rfl rfl ?_|fail)<;>conv=>whnf)
 (refine aaJ aM 4 18 fc fd ae ae ae rfl ?_;conv=>whnf)
 repeat'((first|refine awz ?_|refine cP (bP e) ?_|refine cP (dV b h) ?_|refine cP (kf b h) ?_|refine aaH ac ac ?_|refine a7 aq ?_|fail)<;>conv=>whnf)
 all_goals(simp[o4,bn.ds,aO.ds];done)
theorem Kq(b:bn)(e:aO)(h:bN b=true)(hf:nK b e=false):∃b',aN av 450 [.agg b.ds,.agg e.ds] (Mh b' false):=by
 obtain⟨h1,h2,h3,h4,h5,h6⟩:=bY h;have hlb:0<=bg b/\bg b<=2020:=by unfold bg;omega
 have n1:(!bN b)=false:=by rw[h];rfl
 refine⟨b,?_⟩;unfold Mh;by_cases f1:bL e=true
 ·have n2:(!bL e)=false:=by rw[f1];rfl
  by_cases f2:e.index=bg b+1
  ·have n3:(e.index !=bg b+1)=false:=by simpa using f2
   by_cases f3:iR b<=e.time
   ·have n4:decide (e.time<iR b)=false:=by simp only[decide_eq_false_iff_not];omega
    have n5:(((b.entries.map aO.ds).length:Int)==20)=true:=by
     simp[nK,f1,f2,f3]at hf;simp only[List.length_map,beq_iff_eq];omega
    refine pO func450 call450 ntmps450 results450 λS=>?_;conv=>whnf
    repeat'((first|refine awz ?_|refine cP (fz b) ?_|refine aaI (nA b ac) [(903,913)] rfl rfl ?_|fail)<;>conv=>whnf)
    (refine aaJ aM 4 18 fc fd ae ae ae rfl ?_;conv=>whnf)
    repeat'((first|refine awz ?_|refine cP (bP e) ?_|refine cP (dV b h) ?_|refine cP (kf b h) ?_|refine aaH ac ac ?_|exact rZ|fail)<;>conv=>whnf)
   ·have n4:decide (e.time<iR b)=true:=by simp only[decide_eq_true_eq];omega
    refine pO func450 call450 ntmps450 results450 λS=>?_;conv=>whnf
    repeat'((first|refine awz ?_|refine cP (fz b) ?_|refine aaI (nA b ac) [(903,913)] rfl rfl ?_|fail)<;>conv=>whnf)
    (refine aaJ aM 4 18 fc fd ae ae ae rfl ?_;conv=>whnf)
    repeat'((first|refine awz ?_|refine cP (bP e) ?_|refine cP (dV b h) ?_|refine cP (kf b h) ?_|refine aaH ac ac ?_|exact rZ|fail)<;>conv=>whnf)
  ·have n3:(e.index !=bg b+1)=true:=by simpa using f2
   refine pO func450 call450 ntmps450 results450 λS=>?_;conv=>whnf
   repeat'((first|refine awz ?_|refine cP (fz b) ?_|refine aaI (nA b ac) [(903,913)] rfl rfl ?_|fail)<;>conv=>whnf)
   (refine aaJ aM 4 18 fc fd ae ae ae rfl ?_;conv=>whnf)
   repeat'((first|refine awz ?_|refine cP (bP e) ?_|refine cP (dV b h) ?_|refine aaH ac ac ?_|exact rZ|fail)<;>conv=>whnf)
 ·have n2:(!bL e)=true:=by simpa using f1
  refine pO func450 call450 ntmps450 results450 λS=>?_;conv=>whnf
  repeat'((first|refine awz ?_|refine cP (fz b) ?_|refine aaI (nA b ac) [(903,913)] rfl rfl ?_|fail)<;>conv=>whnf)
  (refine aaJ aM 4 18 fc fd ae ae ae rfl ?_;conv=>whnf)
  repeat'(first|refine awz ?_|(refine cP (bP e) ?_;conv=>whnf)|exact rZ|fail)
section
variable {s:List aT}
def tw:List (List Nat):=bC [0,0,2,4290,1056961]
def tN:List (List Nat):=dW 3 [24,2,5]
theorem Kx(t:di)(a:Int)(h:fW t=true)(ha:aJ a 0 ((t.a.kept.length:Int)-1)=false):aN av 447 [.agg t.ds,pI a] (.val (.one (.sl []))):=by
 obtain⟨f1,f2,f3⟩:=eW h;have h40:=(dq f1).2.1;have n1:(!fW t)=false:=by rw[h];rfl
 have n2:(!aJ a 0 ((t.a.kept.length:Int)-1))=true:=by rw[ha];rfl
 refine pO func447 call447 ntmps447 results447 λS=>?_;conv=>whnf
 repeat'((first|refine awz ?_|refine cP (dX t) ?_|refine cP (eT t.a a h40) ?_|exact rZ|fail)<;>conv=>whnf)
theorem Ot{t:di}{b:bn}(h:¬(1<=bg b+1/\bg b+1<=2000)):vN t b s=none:=by
 cases e:vN t b s with
 |none=>rfl
 |some x=>
  obtain⟨h1,h2,_⟩:=rT e;have:=(fI h1).1;omega
def jP(t:di)(b:bn):List (List Int):=if 1<=bg b+1/\bg b+1<=2000 then iP t (iq (bg b+1))else []
theorem CL(t:di)(a:Int):(iP t a).length<=2:=by
 unfold iP;split<;>(try split)<;>simp
theorem J3(t:di)(b:bn):(jP t b).length<=2:=by
 unfold jP;split
 ·exact CL t _
 ·simp
theorem Ma(t:di)(b:bn)(s:List aT):vN t b s=(jP t b).findSome? (ka t b s):=by
 unfold jP;split
 ·rfl
 ·rename_i h;rw[Ot h];rfl
theorem If{e:aO}:(jk s e).2=(dt s e).isSome:=by
 unfold jk;split<;>rename_i h<;>simp[h]
theorem Pi(t:di)(b:bn)(s:List aT)(ht:eC t=true)(hb:bN b=true)(hs:seenOk s=true):aN av 449 [.agg t.ds,.agg b.ds,.one (.sl (s.map aT.ds))] (BB (vN t b s)):=by
 have h2:fW t=true/\t.a.kept.length=22:=by simpa[eC]using ht
 obtain⟨b1,b2,b3,b4,b5,b6⟩:=bY hb;have hlb:0<=bg b/\bg b<=2020:=by unfold bg;omega
 have hx:∃a,aN av 386 [pI (bg b+1)] (.val (pI a))/\aN av 447 [.agg t.ds,pI a] (.val (.one (.sl ((jP t b).map dO)))):=by
  by_cases hi:1<=bg b+1/\bg b+1<=2000
  ·have hr:=sC (bg b+1);refine⟨_,xf _ hi,?_⟩;have:=FY t (iq (bg b+1)) h2.1 (by rw[h2.2];simp[aJ];omega);have e:jP t b=iP t (iq (bg b+1)):=if_pos hi;rw[e];exact this
  ·refine⟨_,Sg _ hi,?_⟩;have:=Kx t (-1) h2.1 (by simp[aJ]);have e:jP t b=[]:=if_neg hi;rw[e];exact this
 obtain⟨a,c1,c2⟩:=hx;have hok:∀r∈jP t b,bQ r=true/\r.length<48:=by
  intro r hr;unfold jP at hr;split at hr
  ·exact OJ r hr
  ·cases hr
 rw[Ma];have hrl:=J3 t b;generalize jP t b=rows at c2 hok hrl;refine pO func449 call449 ntmps449 results449 λS=>?_;conv=>whnf
 repeat'((first|refine awz ?_|refine cP (dV b hb) ?_|refine aaH ac ac ?_|fail)<;>conv=>whnf)
 (refine aaJ aM 2 3 tw tN ae ae ae rfl ?_;conv=>whnf)
 repeat'((first|refine awz ?_|refine cP (c1) ?_|refine cP (c2) ?_|fail)<;>conv=>whnf)
 refine aaK (λk:Nat=>k<=rows.length/\(rows.drop k).findSome? (ka t b s)=rows.findSome? (ka t b s)) (7::rg 10 7++(rg 24 39)) (λk=>[(10,vI .i64 (k:Int))]) (λk=>[(3,.cells 32 (t.ds.map .d)),(4,.cells 38 (b.ds.map .d)),(6,.cells 275 (WA.ds.map .d))]) (λk=>rows.length-k) 0 ⟨Nat.zero_le _,rfl⟩ ?_ sbW (λk hk=>?_)<;>(conv=>whnf)
 ·exact whd
 ·obtain⟨hk,hall⟩:=hk;by_cases hlt:k<rows.length
  ·have hc:decide ((k:Int)<((rows.map dO).length:Int))=true:=by simp only[decide_eq_true_eq,List.length_map];omega
   have rs:=O6 rows[k];rw[List.drop_eq_getElem_cons hlt,List.findSome?_cons]at hall;cases er:jo rows[k]with
   |none=>
    rw[er]at rs;have en:ka t b s rows[k]=none:=by simp[ka,er]
    rw[en]at hall;repeat'((first|refine awz ?_|refine aaM hlt ?_|refine cP (rs) ?_|refine aaH ac ac ?_|fail)<;>conv=>whnf)
    refine a8.mk ⟨k+1,⟨hlt,hall⟩,ac,?_,sbW⟩;exact hds
   |some e=>
    rw[er]at rs;have eok:=FM er;by_cases hi:e.index=bg b+1
    ·have n1:(e.index !=bg b+1)=false:=by simpa using hi
     have sm:=qz s e hs;cases hf:nK b e with
     |false=>
      have en:ka t b s rows[k]=none:=by simp[ka,er,hf]
      rw[en]at hall;obtain⟨b',ap⟩:=Kq b e hb hf;repeat'((first|refine awz ?_|refine aaM hlt ?_|refine cP (rs) ?_|refine cP (ap) ?_|refine cP (sm) ?_|refine aaH ac ac ?_|fail)<;>conv=>whnf)
      refine a8.mk ⟨k+1,⟨hlt,hall⟩,ac,?_,sbW⟩;exact hds
     |true=>
      have ap:=pr b e hb hf;cases hm:(dt s e).isSome with
      |false=>
       have en:ka t b s rows[k]=none:=by simp only[ka,er,hm,Bool.and_false];rfl
       rw[en]at hall;have n2:(jk s e).2=false:=by rw[If,hm]
       repeat'((first|refine awz ?_|refine aaM hlt ?_|refine cP (rs) ?_|refine cP (ap) ?_|refine cP (sm) ?_|refine aaH ac ac ?_|fail)<;>conv=>whnf)
       refine a8.mk ⟨k+1,⟨hlt,hall⟩,ac,?_,sbW⟩;exact hds
      |true=>
       have en:ka t b s rows[k]=some e:=by simp[ka,er,hf,hm,hi]
       rw[en]at hall;have n2:(jk s e).2=true:=by rw[If,hm]
       rw[<-hall];unfold BB;repeat'((first|refine awz ?_|refine aaM hlt ?_|refine cP (rs) ?_|refine cP (ap) ?_|refine cP (sm) ?_|exact rZ|fail)<;>conv=>whnf)
    ·have n1:(e.index !=bg b+1)=true:=by simpa using hi
     have en:ka t b s rows[k]=none:=by simp[ka,er,hi]
     rw[en]at hall;repeat'((first|refine awz ?_|refine aaM hlt ?_|refine cP (rs) ?_|refine aaH ac ac ?_|fail)<;>conv=>whnf)
     refine a8.mk ⟨k+1,⟨hlt,hall⟩,ac,?_,sbW⟩;exact hds
  ·have hc:decide ((k:Int)<((rows.map dO).length:Int))=false:=by simp only[decide_eq_false_iff_not,List.length_map];omega
   rw[List.drop_of_length_le ac]at hall;rw[<-hall];repeat'(first|refine awz ?_|exact rZ|fail)
end
theorem NT{t:di}{b:bn}{s:List aT}(h:vN t b s=none):∀n,pb t n b s=(b,s)
 |0=>rfl
 |n+1=>by simp[pb,h]
def Zi:List aO->AC
 |[]=> .nil
 |e::r=> .d (.sl ((e::r).map aO.ds))
theorem RW(t:di)(h:bH)(ht:eC t=true)(hh:dm h=true):aN av 384 [.agg t.ds,.agg h.ds] (.val (.agg (iH t h).1.ds)):=by
 have hs:=(cI hh).2.2.2.2.1;have hl:=eO hs;have n1:(!eC t)=false:=by rw[ht];rfl
 have n2:(!dm h)=false:=by rw[hh];rfl
 refine pO func384 call384 ntmps384 results384 λS=>?_;conv=>whnf
 repeat'((first|refine awz ?_|refine cP (iD t) ?_|refine cP (g8 h ac) ?_|refine cP (fO h.seen ac) ?_|fail)<;>conv=>whnf)
 refine aaK (λg:Nat×bn×List aT=>ov h g.2.1 g.2.2/\20<g.2.1.entries.length+g.1/\pb t g.1 g.2.1 g.2.2=iH t h) (6::7::8::rg 26 22) (λg=>[(6,.one (.d (.sl (g.2.2.map aT.ds))))]) (λg=>[(2,.cells 32 (t.ds.map .d)),(4,.cells 38 [.d (dI 0),.d (dI 0),.nil]),(5,.cells 38 [.d (dI g.2.1.base),.d (dI g.2.1.time),Zi g.2.1.entries])]) (λg=>g.1) (21,B5 h,h.seen) ⟨ov.start hh,by simp[B5],rfl⟩ ?_ sbW (λg hg=>?_)<;>(conv=>whnf)
 ·exact whd
 ·obtain⟨n,b,s⟩:=g;obtain⟨g1,g2,g3⟩:=hg;simp only at g1 g2 g3;have ln:=Pi t b s ht g1.ok g1.seen;cases e:vN t b s with
  |none=>
   rw[e]at ln;rw[NT e]at g3;rw[<-g3];obtain⟨bb,bt,es⟩:=b;cases es<;>repeat'(first|refine awz ?_|(refine cP (ln) ?_;conv=>whnf)|exact rZ|fail)
  |some x=>
   rw[e]at ln;obtain⟨x1,x2,x3,x4⟩:=rT e;have ap:=pr b x g1.ok x3;have sm:=qz s x g1.seen;rw[Cs x4]at sm;have hlen:b.entries.length<20:=by
    simp only[nK,Bool.and_eq_true,decide_eq_true_eq]at x3;exact x3.2
   obtain⟨m,rfl⟩:∃m,n=m+1:=⟨n-1,ac⟩;have g3':pb t m (o4 b x) (putMark s x.mark)=iH t h:=by
    rw[<-g3];simp[pb,e]
   have gg:=g1.add x3 x4;obtain⟨bb,bt,es⟩:=b;cases es
   ·repeat'((first|refine awz ?_|refine cP (ln) ?_|refine cP (ap) ?_|refine cP (sm) ?_|fail)<;>conv=>whnf)
    refine a8.mk ⟨(m,o4 ⟨bb,bt,[]⟩ x,putMark s x.mark),⟨gg,by simp[o4]at g2⊢;omega,g3'⟩,Nat.lt_succ_self _,?_,sbW⟩;exact hds
   ·rename_i y r;repeat'((first|refine awz ?_|refine cP (ln) ?_|refine cP (ap) ?_|refine cP (sm) ?_|fail)<;>conv=>whnf)
    refine a8.mk ⟨(m,o4 ⟨bb,bt,y::r⟩ x,putMark s x.mark),⟨gg,by simp[o4]at g2⊢;omega,g3'⟩,Nat.lt_succ_self _,?_,sbW⟩;exact hds
def EA(t:di):Nat->Option bH
 |0=>none
 |1=>(iP t 0).foldl (dE 0) none
 |_=>rz t
def VX:Option bH->List AC
 |none=>[.d (dI 0),.d (dI 0),.d (dI 0),.nil]
 |some h=>h.ds.map .d
theorem NR(t:di){j:Nat}(hj:j<2):EA t (j+1)=(iP t (j:Int)).foldl (dE (j:Int)) (EA t j):=by
 match j,hj with
 |0,_=>rfl
 |1,_=>rfl
theorem GI{rows:List (List Int)}{a:Int}{b:Option bH}{k:Nat}(hk:k<rows.length):(rows.take (k+1)).foldl (dE a) b=dE a ((rows.take k).foldl (dE a) b) rows[k]:=by
 have e:rows.take (k+1)=rows.take k++[rows[k]]:=by rw[List.take_add_one,List.getElem?_eq_getElem hk];rfl
 rw[e,List.foldl_append];rfl
theorem R7(t:di)(ht:eC t=true):aN av 383 [.agg t.ds] (yh (rz t)):=by
 have h2:fW t=true/\t.a.kept.length=22:=by simpa[eC]using ht
 have n1:(!eC t)=false:=by rw[ht];rfl
 refine pO func383 call383 ntmps383 results383 λS=>?_;conv=>whnf
 repeat'(first|refine awz ?_|(refine cP (iD t) ?_;conv=>whnf)|fail)
 refine aaK (λj:Nat=>j<=2) (rg 5 6++(rg 16 41)) (λj=>[(5,.one (.d (dB (EA t j).isSome))),(6,vI .i64 (j:Int))]) (λj=>[(1,.cells 32 (t.ds.map .d)),(2,.cells 35 [.d (dI 0),.d (dI 0),.d (dI 0),.nil]),(4,.cells 35 (VX (EA t j)))]) (λj=>2-j) 0 ac ?_ sbW (λj hj=>?_)<;>(conv=>whnf)
 ·exact whd
 ·by_cases hj2:j<2
  ·have hc:decide ((j:Int)<2)=true:=by simp only[decide_eq_true_eq];omega
   have ra:=FY t (j:Int) h2.1 (by rw[h2.2];simp[aJ];omega);have hsucc:=NR t hj2;have hrl:=CL t (j:Int);generalize iP t (j:Int)=rows at ra hsucc hrl;generalize EA t j=b0 at hsucc;repeat'(first|refine awz ?_|(refine cP (ra) ?_;conv=>whnf)|fail)
   refine aaK (λk:Nat=>k<=rows.length) (5::8::9::10::rg 23 34) (λk=>[(5,.one (.d (dB ((rows.take k).foldl (dE (j:Int)) b0).isSome))),(8,vI .i64 (k:Int))]) (λk=>[(1,.cells 32 (t.ds.map .d)),(2,.cells 35 [.d (dI 0),.d (dI 0),.d (dI 0),.nil]),(4,.cells 35 (VX ((rows.take k).foldl (dE (j:Int)) b0)))]) (λk=>rows.length-k) 0 (Nat.zero_le _) ?_ sbW (λk hk=>?_)<;>(conv=>whnf)
   ·exact whd
   ·by_cases hlt:k<rows.length
    ·have hck:decide ((k:Int)<((rows.map dO).length:Int))=true:=by simp only[decide_eq_true_eq,List.length_map];omega
     have hn:=GI (a:=(j:Int)) (b:=b0) hlt;have rh:=O2 rows[k];generalize (rows.take k).foldl (dE (j:Int)) b0=c at hn;cases er:jW rows[k]with
     |none=>
      rw[er]at rh;have e:dE (j:Int) c rows[k]=c:=by simp[dE,er]
      rw[e]at hn;cases c<;>
      ·repeat'((first|refine awz ?_|refine aaM hlt ?_|refine cP (rh) ?_|refine aaH ac ac ?_|fail)<;>conv=>whnf)
       refine a8.mk ⟨k+1,hlt,ac,?_,aaC rfl (aaC rfl (aaC (by rw[hn];rfl) aaE))⟩;rw[hn];exact hds
     |some y=>
      rw[er]at rh;have hy:=cI (FK er);have htm:y.num.tmod 2=y.num % 2:=Int.tmod_eq_emod_of_nonneg ac;by_cases hm:y.num % 2=(j:Int)
      ·have m1:(y.num.tmod 2==(j:Int))=true:=by rw[htm];simpa using hm
       have m2:(y.num % 2==(j:Int))=true:=by simpa using hm
       cases c with
       |none=>
        have e:dE (j:Int) none rows[k]=some y:=by simp[dE,er,m2,Fc]
        rw[e]at hn;repeat'((first|refine awz ?_|refine aaM hlt ?_|refine cP (rh) ?_|refine And.intro ai ?_|refine aaH ac ac ?_|fail)<;>conv=>whnf)
        refine a8.mk ⟨k+1,hlt,ac,?_,aaC rfl (aaC rfl (aaC (by rw[hn];rfl) aaE))⟩;rw[hn];exact hds
       |some x=>
        by_cases hl:x.num<y.num
        ·have l1:decide (y.num>x.num)=true:=by simpa using hl
         have e:dE (j:Int) (some x) rows[k]=some y:=by simp[dE,er,m2,Fc,hl]
         rw[e]at hn;repeat'((first|refine awz ?_|refine aaM hlt ?_|refine cP (rh) ?_|refine And.intro ai ?_|refine aaH ac ac ?_|fail)<;>conv=>whnf)
         refine a8.mk ⟨k+1,hlt,ac,?_,aaC rfl (aaC rfl (aaC (by rw[hn];rfl) aaE))⟩;rw[hn];exact hds
        ·have l1:decide (y.num>x.num)=false:=by simp only[decide_eq_false_iff_not];omega
         have e:dE (j:Int) (some x) rows[k]=some x:=by simp[dE,er,m2,Fc,hl]
         rw[e]at hn;repeat'((first|refine awz ?_|refine aaM hlt ?_|refine cP (rh) ?_|refine And.intro ai ?_|refine aaH ac ac ?_|fail)<;>conv=>whnf)
         refine a8.mk ⟨k+1,hlt,ac,?_,aaC rfl (aaC rfl (aaC (by rw[hn];rfl) aaE))⟩;rw[hn];exact hds
      ·have m1:(y.num.tmod 2==(j:Int))=false:=by rw[htm];simpa using hm
       have m2:(y.num % 2==(j:Int))=false:=by simpa using hm
       have e:dE (j:Int) c rows[k]=c:=by simp[dE,er,m2]
       rw[e]at hn;cases c<;>
       ·repeat'((first|refine awz ?_|refine aaM hlt ?_|refine cP (rh) ?_|refine And.intro ai ?_|refine aaH ac ac ?_|fail)<;>conv=>whnf)
        refine a8.mk ⟨k+1,hlt,ac,?_,aaC rfl (aaC rfl (aaC (by rw[hn];rfl) aaE))⟩;rw[hn];exact hds
    ·have hck:decide ((k:Int)<((rows.map dO).length:Int))=false:=by simp only[decide_eq_false_iff_not,List.length_map];omega
     rw[List.take_of_length_le ac,<-hsucc];generalize hbb:EA t (j+1)=c;cases c<;>
     ·repeat'(first|refine awz ?_|(refine aaH ac ac ?_;conv=>whnf)|fail)
      refine a8.mk ⟨j+1,ac,ac,?_,aaC rfl (aaC rfl (aaC (by rw[hbb];rfl) aaE))⟩;rw[hbb];exact hds
  ·have e:j=2:=ac;subst e;have hc:decide (((2:Nat):Int)<2)=false:=ai;have eb:EA t 2=rz t:=rfl;rw[eb];unfold yh;cases rz t<;>repeat'(first|refine awz ?_|exact rZ|fail)
section
variable {k0:List (List Int)}{k:Nat}{h:bH}{b:bn}{t:di}
def pS:List (List Nat):=bC [0,0,2,194,0,5,1141387590,487563469057]
def p6:List (List Nat):=dW 6 [726,650,653,662,80,161]
def pc:List (List Nat):=bC [0,0,2,0,12420,1327235,101458181,7601135814,0,9,0,41547,3191370,0x34a24b308183084147,0x4818308414724a2cc34e,0xf38d30b2891c51020c6201]
def ph:List (List Nat):=dW 14 [4782966,1587818,1587821,1587788,1587803,1587884,1588127,1588856,124658,131219,59048,91853,269000,797162]
def pd:List (List Nat):=bC [0,0,0,0,196,20739,1108881669,486472966273]
def pi:List (List Nat):=dW 6 [726,722,62,26,44,125]
def o6:List (List Nat):=bC [0,0,0,65,67637506,347943211331,417753473094]
def QF(h:bH):List (List Int):=(List.replicate 22 []).set (h.num % 2).toNat (fX h)
def Am(h:bH)(b:bn)(k:Nat):List (List Int):=(b.entries.take k).foldl (λl e=>l.set (iq e.index).toNat (fP e)) (QF h)
theorem RT(h:bH)(b:bn)(k:Nat):(Am h b k).length=22:=by rw[Am,vr];simp[QF]
theorem OK(hk:k<b.entries.length):Am h b (k+1)=(Am h b k).set (iq b.entries[k].index).toNat (fP b.entries[k]):=by
 have e:b.entries.take (k+1)=b.entries.take k++[b.entries[k]]:=by rw[List.take_add_one,List.getElem?_eq_getElem hk];rfl
 rw[Am,e,List.foldl_append];rfl
theorem RS(h:bH)(b:bn):Am h b b.entries.length=lh h b:=by rw[Am,List.take_length];rfl
def ue(h:bH)(b:bn)(t:di)(k:Nat):di:=⟨⟨sS h b t.a.kept k,[]⟩,⟨sS h b t.b.kept k,[]⟩⟩
theorem Bs(hk:k0.length=22){j:Nat}(hj:j<=22):(sS h b k0 j).length=22:=by
 have hl:=jb h b;simp[sS,hl,hk];omega
theorem L7(h0:∀y∈k0,bQ y=true)(j:Nat):∀y∈sS h b k0 j,bQ y=true:=by
 intro y hy;rcases List.mem_append.1 hy with hy|hy
 ·obtain⟨r,hr,rfl⟩:=List.mem_map.1 (List.mem_of_mem_take hy);obtain⟨h1,h2⟩:=BH h b r hr;exact gR h1 h2
 ·exact h0 y (List.mem_of_mem_drop hy)
theorem VO(ht:fW t=true)(h22:t.a.kept.length=22)(hk:k<=22):fW (ue h b t k)=true:=by
 obtain⟨f1,f2,f3⟩:=eW ht;have l1:=Bs (h:=h) (b:=b) h22 hk;have l2:=Bs (h:=h) (b:=b) (k0:=t.b.kept) ac hk;refine qI ⟨kx ⟨?_,?_,by simp[ue],L7 (dq f1).2.2.2.1 k,by simp[ue]⟩,kx ⟨?_,?_,by simp[ue],L7 (dq f2).2.2.2.1 k,by simp[ue]⟩,?_⟩<;>simp only[ue]<;>omega
theorem SG(h22:t.a.kept.length=22)(h23:t.b.kept.length=22)(hk:k<22):kW (sM (ue h b t k) (k:Int) ((lh h b)[k]'(by rw[jb];exact hk)))=ue h b t (k+1):=by
 simp only[kW,sM,ue,RE];have e1:=Fq (h:=h) (b:=b) h22 hk;have e2:=Fq (h:=h) (b:=b) h23 hk;unfold f0 at e1 e2;rw[e1,e2]
def W4:di:=⟨⟨[],[]⟩,⟨[],[]⟩⟩
def WP(t:di):AP:=match rz t with
 |some h=> .tup [.agg (yT h (iH t h).1).ds,.agg h.ds,.agg (iH t h).1.ds,.one (dB true)]
 |none=> .tup [.agg W4.ds,.agg fw.ds,.agg (⟨0,0,[]⟩:bn).ds,.one (dB false)]
theorem Kw(t:di)(ht:eC t=true):aN av 277 [.agg t.ds] (WP t):=by
 have h2:fW t=true/\t.a.kept.length=22:=by simpa[eC]using ht
 have hi:=R7 t ht;unfold WP;cases eh:rz t with
 |none=>
  rw[eh]at hi;unfold yh at hi;simp only;refine pO func277 call277 ntmps277 results277 λS=>?_;conv=>whnf
  repeat'(first|refine awz ?_|(refine cP (hi) ?_;conv=>whnf)|exact rZ|fail)
 |some h=>
  rw[eh]at hi;have hi:aN av 383 [.agg t.ds] (.tup [.agg h.ds,.one (dB true)]):=hi;have ho:=Bp eh;have hf:=cI ho;have bi:=RW t h ht ho;have gr:=(rb (t:=t) ho).ok;simp only;generalize (iH t h).1=b at bi gr;obtain⟨b1,b2,b3,b4,b5,b6⟩:=bY gr;have hbl:b.entries.length<=20:=b4;have bs:=mf t h2.1;have hft:=Lj h2.1;have h22:(kW t).a.kept.length=22:=by simp[kW,gZ,iA,h2.2]
  have h23:(kW t).b.kept.length=22:=by rw[<-(eW hft).2.2];exact h22
  have htm:h.num.tmod 2=h.num % 2:=Int.tmod_eq_emod_of_nonneg ac;have hmd:0<=h.num % 2/\h.num % 2<2:=ac;refine pO func277 call277 ntmps277 results277 λS=>?_;conv=>whnf
  repeat'((first|refine awz ?_|refine cP (hi) ?_|refine cP (bi) ?_|refine cP (bs) ?_|refine⟨22,rfl,rfl,by decide,ac,?_⟩|fail)<;>conv=>whnf)
  (refine aaJ aM 7 6 pS p6 ae ae ae rfl ?_;conv=>whnf)
  repeat'((first|refine awz ?_|refine cP (CO h ho) ?_|refine And.intro ai ?_|refine aaG (h.num % 2).toNat [.sl []] (by rw[htm];omega) (by rw[List.getElem?_replicate,if_pos ac]) ?_|fail)<;>conv=>whnf)
  refine aaG (h.num % 2).toNat [.sl []] (by first|rfl|(rw[htm];omega)) (by rw[List.getElem?_replicate,if_pos ac]) ?_;conv=>whnf
  repeat'(first|refine awz ?_|fail)
  have E1:(List.replicate 22 [AD.sl []]).set (h.num % 2).toNat [AD.sl ((fX h).map eI)]=(Am h b 0).map dO:=by
   show _=(QF h).map dO;rw[QF,List.map_set,List.map_replicate];rfl
  refine aaK (λk:Nat=>k<=b.entries.length) (11::rg 36 22) (λk=>[(11,vI .i64 (k:Int))]) (λk=>[(2,.cells 32 [.nil,.nil,.nil,.nil]),(3,.cells 35 [.d (dI 0),.d (dI 0),.d (dI 0),.nil]),(4,.cells 38 [.d (dI 0),.d (dI 0),.nil]),(6,.cells 35 (h.ds.map .d)),(8,.cells 38 (b.ds.map .d)),(9,.cells 32 ((kW t).ds.map .d)),(28,.row 67 1 ((Am h b k).map dO))]) (λk=>b.entries.length-k) 0 (Nat.zero_le _) ?_ (aaC rfl (aaC rfl (aaC rfl (aaC rfl (aaC rfl (aaC rfl (aaC (congrArg some (congrArg (AO.row 67 1) E1)) aaE))))))) (λk hk=>?_)<;>(conv=>whnf)
  ·exact whd
  ·have hrl:=RT h b k;by_cases hlt:k<b.entries.length
   ·have hc:decide ((k:Int)<((b.entries.map aO.ds).length:Int))=true:=by simp only[decide_eq_true_eq,List.length_map];omega
    have eok:=(fI ((gy b5).2.1 _ (List.getElem_mem hlt))).1;have sr:=sC b.entries[k].index;have E2:=OK (h:=h) hlt;repeat'(first|refine awz ?_|fail)
    (refine aaJ aM 11 14 pc ph ae ae ae rfl ?_;conv=>whnf)
    repeat'((first|refine awz ?_|refine aaM hlt ?_|refine cP (xf _ eok) ?_|refine cP (yX b.entries[k]) ?_|refine AIx.int ac ac ?_|refine aaH ac ac ?_|fail)<;>conv=>whnf)
    refine a8.mk ⟨k+1,hlt,ac,?_,aaC rfl (aaC rfl (aaC rfl (aaC rfl (aaC rfl (aaC rfl (aaC (by rw[E2,List.map_set];rfl) aaE))))))⟩;exact hds
   ·have e:k=b.entries.length:=ac;subst e;have hc:decide ((b.entries.length:Int)<((b.entries.map aO.ds).length:Int))=false:=ah;rw[RS];repeat'(first|refine awz ?_|fail)
    have e0:ue h b (kW t) 0=kW t:=by simp only[ue,Oi];rfl
    refine aaK (λk:Nat=>k<=22) (12::rg 58 11) (λk=>[(12,vI .i64 (k:Int))]) (λk=>[(2,.cells 32 [.nil,.nil,.nil,.nil]),(3,.cells 35 [.d (dI 0),.d (dI 0),.d (dI 0),.nil]),(4,.cells 38 [.d (dI 0),.d (dI 0),.nil]),(6,.cells 35 (h.ds.map .d)),(8,.cells 38 (b.ds.map .d)),(9,.cells 32 ((ue h b (kW t) k).ds.map .d)),(28,.row 67 1 ((lh h b).map dO))]) (λk=>22-k) 0 (Nat.zero_le _) ?_ (aaC rfl (aaC rfl (aaC rfl (aaC rfl (aaC rfl (aaC (by rw[e0];rfl) sbW)))))) (λk hk=>?_)<;>(conv=>whnf)
    ·exact whd
    ·have hrl:=jb h b;by_cases hlt:k<22
     ·have hc:decide ((k:Int)<22)=true:=by simp only[decide_eq_true_eq];omega
      have hlk:k<(lh h b).length:=ac;have rk:=BH h b _ (List.getElem_mem hlk);have t1:=Bs (h:=h) (b:=b) h22 hk;have md:=CR (ue h b (kW t) k) (k:Int) (lh h b)[k] (VO hft h22 hk) (by simp[ue]) (by simp[ue]) (by simp only[ue,t1,aJ,Bool.and_eq_true,decide_eq_true_eq];omega) rk.1 rk.2;rw[SG h22 h23 hlt]at md;repeat'(first|refine awz ?_|fail)
      (refine aaJ aM 15 6 pd pi ae ae ae rfl ?_;conv=>whnf)
      repeat'((first|refine awz ?_|refine aaM hlk ?_|refine cP (md) ?_|refine aaH ac ac ?_|fail)<;>conv=>whnf)
      refine a8.mk ⟨k+1,hlt,ac,?_,sbW⟩;exact hds
     ·have e:k=22:=ac;subst e;have hc:decide (((22:Nat):Int)<22)=false:=ai;have e1:ue h b (kW t) 22=yT h b:=by simp only[ue,Ig h22,Ig h23];rfl
      rw[e1];repeat'(first|refine awz ?_|fail)
      (refine aaL aM 16 (tkc [0,1,2] (onc [3,4,5] (.take 6 .done))) [(6,9980),(8,9981),(9,9982)] o6 ae ae ae ae (λRz=>?_);(conv=>whnf);intro bp0 up0;(conv=>whnf);intro bp1 up1;(conv=>whnf);intro bp2 up2;(conv=>whnf))
      repeat'(first|refine awz ?_|exact rZ|fail)
end
def qT:List (List Nat):=bC [0,0,0,0,4,1323137,0,0x1c61440c2045187]
theorem OT(t:di)(ht:eC t=false):aN av 383 [.agg t.ds] (.tup [.agg fw.ds,.one (dB false)]):=by
 have n1:(!eC t)=true:=by rw[ht];rfl
 refine pO func383 call383 ntmps383 results383 λS=>?_;conv=>whnf
 repeat'(first|refine awz ?_|(refine cP (iD t) ?_;conv=>whnf)|exact rZ|fail)
def Qv:AP:= .tup [.agg W4.ds,.agg fw.ds,.agg (⟨0,0,[]⟩:bn).ds,.one (dB false)]
theorem GX(t:di)(ht:eC t=false):aN av 277 [.agg t.ds] Qv:=by
 have hi:=OT t ht;unfold Qv;refine pO func277 call277 ntmps277 results277 λS=>?_;conv=>whnf
 repeat'(first|refine awz ?_|(refine cP (hi) ?_;conv=>whnf)|exact rZ|fail)
def Zn:aS:=⟨W4,fw,fw,false,⟨0,0,[]⟩,[],0,[]⟩
def Mj(o:Option aS):AP:= .tup [.agg (o.getD Zn).ds,.one (dB o.isSome)]
theorem CW(n:aS)(hr:aN av 277 [.agg n.two.ds] Qv):aN av 188 [.agg n.ds] (Mj none):=by
 unfold Qv at hr;unfold Mj;refine pO func188 call188 ntmps188 results188 λS=>?_;conv=>whnf
 repeat'(first|refine awz ?_|(refine cP (hr) ?_;conv=>whnf)|exact rZ|fail)
theorem MV(n:aS):aN av 188 [.agg n.ds] (Mj (iw n)):=by
 cases hk:eC n.two with
 |false=>
  have e:iw n=none:=by simp[iw,hk]
  rw[e];exact CW n (GX n.two hk)
 |true=>
  have hr:=Kw n.two hk;unfold WP at hr;cases eh:rz n.two with
  |none=>
   rw[eh]at hr;have e:iw n=none:=by simp[iw,hk,eh]
   rw[e];exact CW n hr
  |some h=>
   rw[eh]at hr;simp only at hr;have ho:=Bp eh;have g:=rb (t:=n.two) ho;have hf:=cI ho;have e:iw n=some ⟨yT h (iH n.two h).1,h,fw,false,(iH n.two h).1,(iH n.two h).2,bg (iH n.two h).1,[]⟩:=by simp[iw,hk,eh]
   rw[e];generalize iH n.two h=p at g hr;obtain⟨b,s⟩:=p;simp only at g hr;have hb:=bY g.ok;have so:=mD h.seen b.entries;rw[jl hf.2.2.2.2.1 ac g.fold]at so;generalize yT h b=tt at hr;unfold Mj;refine pO func188 call188 ntmps188 results188 λS=>?_;conv=>whnf
   repeat'(first|refine awz ?_|(refine cP (hr) ?_;conv=>whnf)|fail)
   (refine aaL aM 4 (tkc [0,1,2,3] (.two 4 (.two 5 (.one 6 (.one 7 .done)) 6 (.one 5 (.one 7 .done))) 6 (onc [4,5,7] .done))) [(4,9980),(5,9981),(6,9982)] qT ae ae ae ae (λRz=>?_);(conv=>whnf);intro bp0 up0;(conv=>whnf);intro bp1 up1;(conv=>whnf);intro bp2 up2;(conv=>whnf))
   repeat'((first|refine awz ?_|refine cP (dV b g.ok) ?_|refine cP (so) ?_|exact rZ|refine tW ?_ ?_|fail)<;>conv=>whnf)
end Go.Proofs.YthgkdhnlehneeaaGreatDoor
