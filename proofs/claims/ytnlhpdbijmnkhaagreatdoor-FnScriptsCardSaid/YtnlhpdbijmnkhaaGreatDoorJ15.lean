/- J15 -/
import Derived.Test.YtnlhpdbijmnkhaaGreatDoorAvJ4
import Derived.Test.YtnlhpdbijmnkhaaGreatDoorJ03
import Derived.Test.YtnlhpdbijmnkhaaGreatDoorAvEnv
import Derived.Test.YtnlhpdbijmnkhaaGreatDoorJ04
import Derived.Test.YtnlhpdbijmnkhaaGreatDoorAwx
import Derived.Test.YtnlhpdbijmnkhaaGreatDoorJ14
set_option linter.unusedVariables false
set_option linter.unusedSimpArgs false
set_option maxRecDepth 100000
namespace Go.Proofs.YtnlhpdbijmnkhaaGreatDoor
open Go.Proofs.Tryz
open Go.RowKit
theorem BL{a b:Int}(hb:0<=b/\b<=18446744073709551615):0<=wd .u64 a b/\wd .u64 a b<=b:=by
 obtain⟨n,rfl⟩:=Int.eq_ofNat_of_zero_le hb.1
 have h1:(BitVec.ofInt 64 a&&&BitVec.ofInt 64 (n:Int)).toNat<=n:=by
  rw[BitVec.toNat_and]
  refine Nat.le_trans Nat.and_le_right ?_
  rw[BitVec.toNat_ofInt]
  omega
 unfold wd
 rw[IntKind.wrap_u64]
 show 0<=((BitVec.ofInt 64 a&&&BitVec.ofInt 64 (n:Int)).toNat:Int) % _/\((BitVec.ofInt 64 a&&&BitVec.ofInt 64 (n:Int)).toNat:Int) % _<=_
 generalize (BitVec.ofInt 64 a&&&BitVec.ofInt 64 (n:Int)).toNat=m at h1
 omega
structure Dc where
 b:List Int
 i:Nat
 h:Int
def Dc.ok(d:Dc):Prop:=d.b.length<=4096/\d.i<=d.b.length/\∀x∈d.b,0<=x/\x<=255
abbrev D5(h:Int):AD:= .pv (.int .u64 h)
abbrev Dc.o(d:Dc):AO:= .cells 83 [.d (.sl (d.b.map eU)),.d (dI d.i),.d (D5 d.h)]
theorem Ck:∃f:Int->Int,∀h,f h=IntKind.u64.wrap (h*6364136223846793005):=⟨_,λ_=>rfl⟩
noncomputable def BP:Int->Int:=Classical.choose Ck
theorem zt(h:Int):IntKind.u64.wrap (h*6364136223846793005)=BP h:=(Classical.choose_spec Ck h).symm
theorem Cj:∃f:Int->Int,∀h,f h=IntKind.u64.wrap (BP h+1442695040888963407):=⟨_,λ_=>rfl⟩
noncomputable def oe:Int->Int:=Classical.choose Cj
theorem zq(h:Int):IntKind.u64.wrap (BP h+1442695040888963407)=oe h:=(Classical.choose_spec Cj h).symm
theorem zn:∃f:Int->Int,∀h,f h=wd .u64 (AY .u64 h 33) 16777215:=⟨_,λ_=>rfl⟩
noncomputable def nj:Int->Int:=Classical.choose zn
theorem tF(h:Int):nj h=wd .u64 (AY .u64 h 33) 16777215:=Classical.choose_spec zn h
theorem kG(h:Int):0<=nj h/\nj h<=16777215:=by rw[tF];exact BL Iv
theorem wn(h:Int):IntKind.i64.wrap (wd .u64 (AY .u64 h 33) 16777215)=nj h:=by
 have:=kG h
 rw[<-tF,aA Iv Iv]
noncomputable def Dc.raw (d:Dc):Int:=nj (oe d.h)+(d.b.getD d.i 0)
noncomputable def Dc.val (d:Dc) (n:Int):Int:=d.raw.tmod n
noncomputable def Dc.next (d:Dc):Dc:=⟨d.b,if d.i<d.b.length then d.i+1 else d.i,oe d.h⟩
theorem Dc.ok.next{d:Dc}(h:d.ok):d.next.ok:=by
 refine⟨h.1,?_,h.2.2⟩
 have:=h.2.1
 show(if d.i<d.b.length then d.i+1 else d.i)<=d.b.length
 split<;>omega
theorem Dc.ok.get{d:Dc}(h:d.ok):0<=d.b.getD d.i 0/\d.b.getD d.i 0<=255:=by
 rw[List.getD_eq_getElem?_getD]
 cases e:d.b[d.i]? with
 |none=>simp
 |some x=>exact h.2.2 x (List.mem_of_getElem? e)
theorem Dc.ok.raw{d:Dc}(h:d.ok):0<=d.raw/\d.raw<=16777470:=by
 have h1:=h.get
 have h2:=kG (oe d.h)
 unfold Dc.raw
 omega
theorem Dc.ok.val{d:Dc}(h:d.ok){n:Int}(hn:0<n):0<=d.val n/\d.val n<n:=by
 have h1:=h.raw
 unfold Dc.val
 rw[Int.tmod_eq_emod_of_nonneg h1.1]
 exact⟨Int.emod_nonneg _ Iv,Int.emod_lt_of_pos _ hn⟩
theorem cG(d:Dc)(n:Int)(hd:d.ok)(hn:0<n):a6 av 13 [.one (.ref 1000 0 0 0),.one (.d (dI n))] [(1000,d.o)] [(1000,d.next.o)] [1000] (.val (.one (.d (dI (d.val n))))):=by
 have hr:=hd.raw
 have hne:n≠0:=by omega
 obtain⟨b,i,h⟩:=d
 have h2:=kG (oe h)
 have hb3:=hd.2.2
 by_cases hi:i<b.length
 ·have hi':decide (((i:Nat):Int)<((b.map eU).length:Int))=true:=by simp[hi]
  have hbi:=hb3 b[i] (List.getElem_mem hi)
  have hg:b.getD i 0=b[i]:=by simp[hi]
  have hi2:i+1<=4096:=by have:=hd.1;simp only at this;omega
  have e1:(⟨b,i,h⟩:Dc).next=⟨b,i+1,oe h⟩:=by unfold Dc.next;simp only[if_pos hi]
  have e2:(⟨b,i,h⟩:Dc).val n=(nj (oe h)+b[i]).tmod n:=by unfold Dc.val Dc.raw;simp only[hg]
  rw[e1,e2]
  dsimp only[Dc.o]
  refine aL aj func13 rfl call13 ntmps13 (IG results13) rfl λS pv=>?_;conv=>whnf
  repeat'((first|refine aw0 ?_|refine aw1 ?_|refine aw2 ?_|refine aw3 ?_|refine aw4 ?_|refine aw5 ?_|refine aw6 ?_|refine aw7 ?_|refine aw8 ?_|refine bT ?_|refine bF ?_|refine AW.as (BP h) (zt h) ?_|refine AW.as (oe h) (zq h) ?_|refine AW.as (nj (oe h)) (wn _) ?_|exact rr|refine And.intro rfl ?_|refine AB.mk (λh=>?_) (λh=>?_))<;>conv=>whnf)
  refine' AWP.draw aj 9 [[],[0],[0,1],[1,0,2],[],[4],[4,5],[5,4,6],[6,4,5,7],[7,5,4,6,8,2,0,1,3]] [(_,_),(_,_),(_,_),(_,_),(_,_),(_,_),(_,_),(_,_),(_,_)] ?hD ?hok ?hl ?hf ?hno ?ht
  case hD=>kernel_rfl
  case hok=>kernel_rfl
  case hl=>rfl
  case hf=>
   conv=>whnf
   repeat'(first|(refine⟨rfl,rfl⟩)|exact trivial|(refine And.intro ?_ ?_<;>conv=>whnf))
  case hno=>rfl
  case ht=>
   conv=>whnf
   repeat'((first|refine aw0 ?_|refine aw1 ?_|refine aw2 ?_|refine aw3 ?_|refine aw4 ?_|refine aw5 ?_|refine aw6 ?_|refine aw7 ?_|refine aw8 ?_|refine bT ?_|refine bF ?_|exact rr|refine And.intro rfl ?_|refine AB.mk (λh=>?_) (λh=>?_))<;>conv=>whnf)
   refine' AWP.draw aj 12 [[],[],[1],[1,2],[2,1,3],[],[5],[5,6],[6,5,7],[7,5,6,8,3,1,2,4],[4,2,1,3,8,6,5,7,9],[9,7,5,6,8,3,1,2,4,10],[10,4,2,1,3,8,6,5,7,9,11,0],[0,11,9,7,5,6,8,3,1,2,4,10,12]] [(_,_),(_,_),(_,_),(_,_),(_,_),(_,_),(_,_),(_,_),(_,_),(_,_),(_,_),(_,_)] ?hD ?hok ?hl ?hf ?hno ?ht
   case hD=>kernel_rfl
   case hok=>kernel_rfl
   case hl=>rfl
   case hf=>
    conv=>whnf
    repeat'(first|(refine⟨rfl,rfl⟩)|exact trivial|((first|refine AIx.map hi ?_|refine AW.i64 Iv Iv ?_|refine And.intro ?_ ?_)<;>conv=>whnf))
   case hno=>rfl
   case ht=>
    conv=>whnf
    repeat'((first|refine aw0 ?_|refine aw1 ?_|refine aw2 ?_|refine aw3 ?_|refine aw4 ?_|refine aw5 ?_|refine aw6 ?_|refine aw7 ?_|refine aw8 ?_|refine bT ?_|refine bF ?_|refine AW.i64 Iv Iv ?_|refine And.intro hne ?_|exact rr|refine And.intro rfl ?_|refine AB.mk (λh=>?_) (λh=>?_))<;>conv=>whnf)
 ·have hi':decide (((i:Nat):Int)<((b.map eU).length:Int))=false:=by simp;omega
  have hg:b.getD i 0=0:=by simp[hi]
  have e1:(⟨b,i,h⟩:Dc).next=⟨b,i,oe h⟩:=by unfold Dc.next;simp only[if_neg hi]
  have e2:(⟨b,i,h⟩:Dc).val n=(nj (oe h)).tmod n:=by unfold Dc.val Dc.raw;simp only[hg,Int.add_zero]
  rw[e1,e2]
  dsimp only[Dc.o]
  refine aL aj func13 rfl call13 ntmps13 (IG results13) rfl λS pv=>?_;conv=>whnf
  repeat'((first|refine aw0 ?_|refine aw1 ?_|refine aw2 ?_|refine aw3 ?_|refine aw4 ?_|refine aw5 ?_|refine aw6 ?_|refine aw7 ?_|refine aw8 ?_|refine bT ?_|refine bF ?_|refine AW.as (BP h) (zt h) ?_|refine AW.as (oe h) (zq h) ?_|refine AW.as (nj (oe h)) (wn _) ?_|exact rr|refine And.intro rfl ?_|refine AB.mk (λh=>?_) (λh=>?_))<;>conv=>whnf)
  refine' AWP.draw aj 9 [[],[0],[0,1],[1,0,2],[],[4],[4,5],[5,4,6],[6,4,5,7],[7,5,4,6,8,2,0,1,3]] [(_,_),(_,_),(_,_),(_,_),(_,_),(_,_),(_,_),(_,_),(_,_)] ?hD ?hok ?hl ?hf ?hno ?ht
  case hD=>kernel_rfl
  case hok=>kernel_rfl
  case hl=>rfl
  case hf=>
   conv=>whnf
   repeat'(first|(refine⟨rfl,rfl⟩)|exact trivial|(refine And.intro ?_ ?_<;>conv=>whnf))
  case hno=>rfl
  case ht=>
   conv=>whnf
   repeat'((first|refine aw0 ?_|refine aw1 ?_|refine aw2 ?_|refine aw3 ?_|refine aw4 ?_|refine aw5 ?_|refine aw6 ?_|refine aw7 ?_|refine aw8 ?_|refine bT ?_|refine bF ?_|refine And.intro hne ?_|exact rr|refine And.intro rfl ?_|refine AB.mk (λh=>?_) (λh=>?_))<;>conv=>whnf)
end Go.Proofs.YtnlhpdbijmnkhaaGreatDoor
namespace Go.Proofs.YtnlhpdbijmnkhaaGreatDoor
open Go.Proofs.Tryz
open Go.RowKit
theorem ES:∃f:Int->Int,∀x,f x=IntKind.u64.wrap x:=⟨_,λ_=>rfl⟩
noncomputable def wU:Int->Int:=Classical.choose ES
theorem ER(x:Int):IntKind.u64.wrap x=wU x:=(Classical.choose_spec ES x).symm
noncomputable def Eg (h b:Int):Int:=wU (wU (wU (h*1099511628211)+wU b)+3)
noncomputable def xk (l:List Int) (h:Int):Int:=l.foldl Eg h
noncomputable def zJ (l:List Int) (s:Int):Dc:=⟨l,0,xk l (wU (wU (s*7919)+wU ((l.map eU).length:Int)))⟩
theorem szY{a b c:Nat}{Q:Prop}(h:(a+b)*c<=140737488355328)(q:Q):(a+b)*c<=140737488355328/\Q:=⟨h,q⟩
noncomputable def Dc.skip (d:Dc):Nat->Dc
 |0=>d
 |k+1=>(d.skip k).next
theorem Dc.ok.skip{d:Dc}(h:d.ok):∀k,(d.skip k).ok
 |0=>h
 |k+1=>(h.skip k).next
noncomputable def Dc.nums (d:Dc) (n:Int) (k:Nat):List Int:=(List.range k).map λj=>(d.skip j).val n
theorem Dc.nums_succ(d:Dc)(n:Int)(k:Nat):d.nums n (k+1)=d.nums n k++[(d.skip k).val n]:=by simp[Dc.nums,List.range_succ]
theorem Dc.nums_len(d:Dc)(n:Int)(k:Nat):(d.nums n k).length=k:=by simp[Dc.nums]
theorem Fa(l:List Int)(s:Int)(hl:l.length<=4096):a6 av 5 [.one (.d (.sl (l.map eU))),.one (.d (D5 s))] [] [(15,(zJ l s).o)] [] (.val (.one (.ref 15 0 0 0))):=by
 refine aL aj func5 rfl call5 ntmps5 (IG results5) rfl λS pv=>?_;conv=>whnf
 repeat'((first|refine aw0 ?_|refine aw1 ?_|refine aw2 ?_|refine aw3 ?_|refine aw4 ?_|refine aw5 ?_|refine aw6 ?_|refine aw7 ?_|refine aw8 ?_|refine bT ?_|refine bF ?_|refine AW.as (wU _) (ER _) ?_|exact rr|refine And.intro rfl ?_|refine AB.mk (λh=>?_) (λh=>?_))<;>conv=>whnf)
 refine AWP.loopS (λk:Nat=>k<=l.length) [6,16,17,18,19,20,21,22,23,24,25,26,27,28,29,30,31,32,33,34,35,36] (λk=>[(6,vI .i64 (k:Int))]) (λk=>[(9999,.frame (bD []) pv),(15,.cells 83 [.d (.sl (l.map eU)),.d (dI 0),.d (D5 (xk (l.take k) (wU (wU (s*7919)+wU ((l.map eU).length:Int)))))])]) (λk=>l.length-k) 0 Iv ?_ (ae.cons rfl (ae.cons rfl ae.nil)) (λk hR=>?_)<;>(conv=>whnf)
 ·repeat'(first|exact trivial|(refine And.intro rfl ?_;conv=>whnf))
 ·repeat'((first|refine aw0 ?_|refine aw1 ?_|refine aw2 ?_|refine aw3 ?_|refine aw4 ?_|refine aw5 ?_|refine aw6 ?_|refine aw7 ?_|refine aw8 ?_|refine bT ?_|refine bF ?_|refine And.intro rfl ?_)<;>conv=>whnf)
  refine AB.mk (λh=>?_) (λh=>?_)<;>(conv=>whnf)
  ·have hlt:k<l.length:=ari
   repeat'((first|refine aw0 ?_|refine aw1 ?_|refine aw2 ?_|refine aw3 ?_|refine aw4 ?_|refine aw5 ?_|refine aw6 ?_|refine aw7 ?_|refine aw8 ?_|refine bT ?_|refine bF ?_|refine And.intro rfl ?_)<;>conv=>whnf)
   refine' AWP.draw aj 13 [[],[],[1],[1,2],[2,1,3],[3,1,2,4],[],[],[7,6],[6,7,8],[8,7,6,9],[9,6,7,8,10,4,2,1,3,5],[5,3,1,2,4,10,8,7,6,9,11],[12,11,10,9,8,7,6,5,4,3,2,1,0],[0,1,2,3,4,5,6,7,8,9,10,11,12,13],[13,12,11,10,9,8,7,6,5,4,3,2,1,0,14]] [(_,_),(_,_),(_,_),(_,_),(_,_),(_,_),(_,_),(_,_),(_,_),(_,_),(_,_),(_,_),(_,_)] ?hD ?hok ?hl ?hf ?hno ?ht
   case hD=>kernel_rfl
   case hok=>kernel_rfl
   case hl=>rfl
   case hf=>
    conv=>whnf
    repeat'(first|(refine⟨rfl,rfl⟩)|exact trivial|((first|refine AIx.map hlt ?_|refine AW.as (wU _) (ER _) ?_|refine And.intro ?_ ?_)<;>conv=>whnf))
   case hno=>rfl
   case ht=>
    conv=>whnf
    repeat'(first|((first|refine aw0 ?_|refine aw1 ?_|refine aw2 ?_|refine aw3 ?_|refine aw4 ?_|refine aw5 ?_|refine aw6 ?_|refine aw7 ?_|refine aw8 ?_|refine bT ?_|refine bF ?_|refine AW.i64 ari ari ?_)<;>conv=>whnf)|(exact trivial)|(refine And.intro rfl ?_;conv=>whnf))
    have hstep:Eg (xk (l.take k) (wU (wU (s*7919)+wU ((l.map eU).length:Int)))) l[k]=xk (l.take (k+1)) (wU (wU (s*7919)+wU ((l.map eU).length:Int))):=by
     unfold xk
     rw[<-List.take_append_getElem hlt,List.foldl_append];rfl
    refine aN.mk ⟨k+1,hlt,by omega,?_,ae.cons rfl (ae.cons (congrArg (λh=>some (AO.cells 83 [.d (.sl (l.map eU)),.d (dI 0),.d (D5 h)])) hstep) ae.nil)⟩
    exact hds
  ·have hk:k=l.length:=ari
   subst hk
   rw[List.take_length]
   unfold zJ
   repeat'((first|refine aw0 ?_|refine aw1 ?_|refine aw2 ?_|refine aw3 ?_|refine aw4 ?_|refine aw5 ?_|refine aw6 ?_|refine aw7 ?_|refine aw8 ?_|refine bT ?_|refine bF ?_|exact rr|refine And.intro rfl ?_|refine AB.mk (λh=>?_) (λh=>?_))<;>conv=>whnf)
end Go.Proofs.YtnlhpdbijmnkhaaGreatDoor
namespace Go.Proofs.YtnlhpdbijmnkhaaGreatDoor
open Go.Proofs.Tryz
open Go.RowKit
noncomputable def kN (d:Dc):DWant×Dc:=
 if d.val 4=0 then(⟨4,⟨0,0,0,0,0⟩,(d.skip 1).val 10⟩,d.skip 2)
 else if d.val 4=1 then(⟨2,⟨2,(d.skip 1).val 10,0,0,0⟩,0⟩,d.skip 2)
 else if d.val 4=2 then(⟨3,⟨3,1+(d.skip 1).val 9,(d.skip 2).val 50,(d.skip 3).val 10,(d.skip 4).val 90⟩,0⟩,d.skip 5)
 else(⟨1,⟨1,(d.skip 1).val 10,(d.skip 2).val 90,0,0⟩,0⟩,d.skip 3)
theorem BU{d:Dc}(h:d.ok):(kN d).2.ok:=by
 unfold kN
 split
 ·exact h.skip 2
 ·split
  ·exact h.skip 2
  ·split
   ·exact h.skip 5
   ·exact h.skip 3
noncomputable def c8 (d:Dc):Nat->List DWant×Dc
 |0=>([],d)
 |k+1=>((c8 d k).1++[(kN (c8 d k).2).1],(kN (c8 d k).2).2)
theorem lO{d:Dc}(h:d.ok):∀k,(c8 d k).2.ok
 |0=>h
 |k+1=>BU (lO h k)
theorem iU(d:Dc):∀k,(c8 d k).1.length=k
 |0=>rfl
 |k+1=>by simp[c8,iU d k]
theorem uz(d:Dc)(n:Nat)(hd:d.ok)(hn:n<=1000):a6 av 12 [.one (.ref 1000 0 0 0),.one (.d (dI (n:Int)))] [(1000,d.o)] [(1000,(c8 d n).2.o)] [1000] (.val (.one (.d (.sl ((c8 d n).1.map DWant.ds))))):=by
 refine aL aj func12 rfl call12 ntmps12 (IG results12) rfl λS pv=>?_;conv=>whnf
 repeat'((first|refine aw0 ?_|refine awx ?_|exact rr|refine And.intro rfl ?_|refine bf.mk ?_ ?_|refine AB.mk (λh=>?_) (λh=>?_))<;>conv=>whnf)
 refine AWP.loopS (λk:Nat=>k<=n) (6::[1,5,7,8,9,10,11,12,13,14,15,16,17,18,19,20,21,22,23,24,25,26,27,28,29,30,31,32,33,34,35,36,37,38,39,40,41,42,43,44,45,46,47,48,49,50,51,52,53,54]) (λk=>[(1,vI .i64 ((n-k:Nat):Int)),(5,.one (.own 6))]) (λk=>[(9999,.frame (bD [1000]) pv),(1000,(c8 d k).2.o),(6,.row 112 7 ((c8 d k).1.map DWant.ds))]) (λk=>n-k) 0 Iv ?_ (ae.cons rfl (ae.cons rfl (ae.cons rfl ae.nil))) (λk hR=>?_)<;>(conv=>whnf)
 ·repeat'(first|exact trivial|(refine And.intro rfl ?_;conv=>whnf))
 ·have hlen:=iU d k
  have he:=lO hd k
  have hnx:c8 d (k+1)=((c8 d k).1++[(kN (c8 d k).2).1],(kN (c8 d k).2).2):=rfl
  generalize hg:c8 d k=g at hlen he hnx
  obtain⟨ws,e⟩:=g
  simp only at hlen he hnx
  have b0:=cG e 4 he Iv
  have h4:e.val 4=0\/e.val 4=1\/e.val 4=2\/e.val 4=3:=by have:=he.val (n:=4) Iv;omega
  by_cases hkn:k=n
  ·subst hkn
   have hc:decide ((0:Int)<((k-k:Nat):Int))=false:=by simp
   repeat'((first|refine aw0 ?_|refine awx ?_|exact rr|refine And.intro rfl ?_|refine bf.mk ?_ ?_|refine AB.mk (λh=>?_) (λh=>?_))<;>conv=>whnf)
   all_goals(rw[hg];exact⟨rfl,whd⟩)
  ·have hlt:k<n:=by omega
   have hc:decide ((0:Int)<((n-k:Nat):Int))=true:=by simp;omega
   have fin:∀{x:DWant} {e':Dc},kN e=(x,e')->c8 d (k+1)=(ws++[x],e'):=by
    intro x e' h
    rw[hnx,h]
   rcases h4 with hv|hv|hv|hv
   all_goals rw[hv]at b0
   ·have b1:=cG (e.skip 1) 10 (he.skip 1) Iv
    have b2:=b1
    have b3:=b1
    have b4:=b1
    have hx:=fin (x:=⟨4,⟨0,0,0,0,0⟩,(e.skip 1).val 10⟩) (e':=e.skip 2) (by simp[kN,hv])
    repeat'((first|refine aw0 ?_|refine awx ?_|refine aa.upd b0 1000 rfl rfl rfl ?_|refine aa.upd b1 1000 rfl rfl rfl ?_|refine aa.upd b2 1000 rfl rfl rfl ?_|refine aa.upd b3 1000 rfl rfl rfl ?_|refine aa.upd b4 1000 rfl rfl rfl ?_|refine AB.ofT Ix ?_|refine AB.ofF Ix ?_|refine AW.as ((n-(k+1):Nat):Int) (by rw[aA Iv Iv];omega) ?_|refine AW.i64 Iv Iv ?_|refine ba (by first|(intro y hy;obtain⟨a,_,rfl⟩:=List.mem_map.1 hy;rfl)|(simp;done)) ?_|refine bo IA ?_|refine szY IC ?_|exact rr|refine And.intro rfl ?_|refine bf.mk ?_ ?_|refine AB.mk (λh=>?_) (λh=>?_))<;>conv=>whnf)
    refine aN.mk ⟨k+1,hlt,by omega,?_,ae.cons rfl (ae.cons (by rw[hx];rfl) (ae.cons (by rw[hx,List.map_append];rfl) ae.nil))⟩
    exact hds
   ·have b1:=cG (e.skip 1) 10 (he.skip 1) Iv
    have b2:=b1
    have b3:=b1
    have b4:=b1
    have hx:=fin (x:=⟨2,⟨2,(e.skip 1).val 10,0,0,0⟩,0⟩) (e':=e.skip 2) (by simp[kN,hv])
    repeat'((first|refine aw0 ?_|refine awx ?_|refine aa.upd b0 1000 rfl rfl rfl ?_|refine aa.upd b1 1000 rfl rfl rfl ?_|refine aa.upd b2 1000 rfl rfl rfl ?_|refine aa.upd b3 1000 rfl rfl rfl ?_|refine aa.upd b4 1000 rfl rfl rfl ?_|refine AB.ofT Ix ?_|refine AB.ofF Ix ?_|refine AW.as ((n-(k+1):Nat):Int) (by rw[aA Iv Iv];omega) ?_|refine AW.i64 Iv Iv ?_|refine ba (by first|(intro y hy;obtain⟨a,_,rfl⟩:=List.mem_map.1 hy;rfl)|(simp;done)) ?_|refine bo IA ?_|refine szY IC ?_|exact rr|refine And.intro rfl ?_|refine bf.mk ?_ ?_|refine AB.mk (λh=>?_) (λh=>?_))<;>conv=>whnf)
    refine aN.mk ⟨k+1,hlt,by omega,?_,ae.cons rfl (ae.cons (by rw[hx];rfl) (ae.cons (by rw[hx,List.map_append];rfl) ae.nil))⟩
    exact hds
   ·have b1:=cG (e.skip 1) 9 (he.skip 1) Iv
    have r1:=(he.skip 1).val (n:=9) Iv
    have b2:=cG (e.skip 2) 50 (he.skip 2) Iv
    have b3:=cG (e.skip 3) 10 (he.skip 3) Iv
    have b4:=cG (e.skip 4) 90 (he.skip 4) Iv
    have hx:=fin (x:=⟨3,⟨3,1+(e.skip 1).val 9,(e.skip 2).val 50,(e.skip 3).val 10,(e.skip 4).val 90⟩,0⟩) (e':=e.skip 5) (by simp[kN,hv])
    repeat'((first|refine aw0 ?_|refine awx ?_|refine aa.upd b0 1000 rfl rfl rfl ?_|refine aa.upd b1 1000 rfl rfl rfl ?_|refine aa.upd b2 1000 rfl rfl rfl ?_|refine aa.upd b3 1000 rfl rfl rfl ?_|refine aa.upd b4 1000 rfl rfl rfl ?_|refine AB.ofT Ix ?_|refine AB.ofF Ix ?_|refine AW.as ((n-(k+1):Nat):Int) (by rw[aA Iv Iv];omega) ?_|refine AW.i64 Iv Iv ?_|refine ba (by first|(intro y hy;obtain⟨a,_,rfl⟩:=List.mem_map.1 hy;rfl)|(simp;done)) ?_|refine bo IA ?_|refine szY IC ?_|exact rr|refine And.intro rfl ?_|refine bf.mk ?_ ?_|refine AB.mk (λh=>?_) (λh=>?_))<;>conv=>whnf)
    refine aN.mk ⟨k+1,hlt,by omega,?_,ae.cons rfl (ae.cons (by rw[hx];rfl) (ae.cons (by rw[hx,List.map_append];rfl) ae.nil))⟩
    exact hds
   ·have b1:=cG (e.skip 1) 10 (he.skip 1) Iv
    have b2:=cG (e.skip 2) 90 (he.skip 2) Iv
    have b3:=b1
    have b4:=b1
    have hx:=fin (x:=⟨1,⟨1,(e.skip 1).val 10,(e.skip 2).val 90,0,0⟩,0⟩) (e':=e.skip 3) (by simp[kN,hv])
    repeat'((first|refine aw0 ?_|refine awx ?_|refine aa.upd b0 1000 rfl rfl rfl ?_|refine aa.upd b1 1000 rfl rfl rfl ?_|refine aa.upd b2 1000 rfl rfl rfl ?_|refine aa.upd b3 1000 rfl rfl rfl ?_|refine aa.upd b4 1000 rfl rfl rfl ?_|refine AB.ofT Ix ?_|refine AB.ofF Ix ?_|refine AW.as ((n-(k+1):Nat):Int) (by rw[aA Iv Iv];omega) ?_|refine AW.i64 Iv Iv ?_|refine ba (by first|(intro y hy;obtain⟨a,_,rfl⟩:=List.mem_map.1 hy;rfl)|(simp;done)) ?_|refine bo IA ?_|refine szY IC ?_|exact rr|refine And.intro rfl ?_|refine bf.mk ?_ ?_|refine AB.mk (λh=>?_) (λh=>?_))<;>conv=>whnf)
    refine aN.mk ⟨k+1,hlt,by omega,?_,ae.cons rfl (ae.cons (by rw[hx];rfl) (ae.cons (by rw[hx,List.map_append];rfl) ae.nil))⟩
    exact hds
end Go.Proofs.YtnlhpdbijmnkhaaGreatDoor
namespace Go.Proofs.YtnlhpdbijmnkhaaGreatDoor
open Go.Proofs.Tryz
open Go.RowKit
theorem Bg(d:Dc)(n:Nat)(hd:d.ok)(hn:n<=1000):a6 av 14 [.one (.ref 1000 0 0 0),.one (.d (dI (n:Int)))] [(1000,d.o)] [(1000,(d.skip n).o)] [1000] (.val (.one (.d (.sl ((d.nums 3 n).map eI))))):=by
 refine aL aj func14 rfl call14 ntmps14 (IG results14) rfl λS pv=>?_;conv=>whnf
 repeat'((first|refine aw0 ?_|refine awx ?_|exact rr|refine And.intro rfl ?_|refine bf.mk ?_ ?_|refine AB.mk (λh=>?_) (λh=>?_))<;>conv=>whnf)
 refine AWP.loopS (λk:Nat=>k<=n) (6::[1,5,7,8,9,10,11,12,13,14,15]) (λk=>[(1,vI .i64 ((n-k:Nat):Int)),(5,.one (.own 6))]) (λk=>[(9999,.frame (bD [1000]) pv),(1000,(d.skip k).o),(6,.row 2 1 ((d.nums 3 k).map eI))]) (λk=>n-k) 0 Iv ?_ (ae.cons rfl (ae.cons rfl (ae.cons rfl ae.nil))) (λk hR=>?_)<;>(conv=>whnf)
 ·exact whd
 ·have bm:=cG (d.skip k) 3 (hd.skip k) Iv
  have hnl:=d.nums_len 3 k
  repeat'((first|refine aw0 ?_|refine awx ?_|refine aa.upd bm 1000 rfl rfl rfl ?_|refine all_len (by simp[eI]) ?_|refine szY (by simp only[List.length_map,hnl,List.length_cons,List.length_nil];omega) ?_|refine AW.as ((n-(k+1):Nat):Int) (by rw[aA Iv Iv];simp only[decide_eq_true_eq]at*;omega) ?_|exact rr|refine And.intro rfl ?_|refine bf.mk ?_ ?_|refine AB.mk (λh=>?_) (λh=>?_))<;>conv=>whnf)
  ·have hlt:k<n:=by simp only[decide_eq_true_eq]at*;omega
   have hrow:(d.nums 3 k).map eI++[[dI ((d.skip k).val 3)]]=(d.nums 3 (k+1)).map eI:=by rw[Dc.nums_succ,List.map_append];rfl
   refine aN.mk ⟨k+1,hlt,by omega,?_,ae.cons rfl (ae.cons rfl (ae.cons (congrArg some (congrArg (AO.row 2 1) hrow)) ae.nil))⟩
   exact hds
  ·have hk:k=n:=by simp only[decide_eq_false_iff_not]at*;omega
   subst hk
   repeat'((first|refine aw0 ?_|refine awx ?_|exact rr|refine And.intro rfl ?_|refine bf.mk ?_ ?_|refine AB.mk (λh=>?_) (λh=>?_))<;>conv=>whnf)
noncomputable def fp (d:Dc) (down:Bool):DStep×Bool×Dc:=
 if d.val 8=0\/d.val 8=1\/d.val 8=2 then(⟨2,(d.skip 1).val 6,0,0,[]⟩,down,d.skip 2)
 else if d.val 8=3 then(⟨2,0,0,0,[]⟩,down,d.skip 1)
 else if d.val 8=4 then(if down then(⟨6,0,0,0,[]⟩,false,d.skip 1)else(⟨5,0,0,0,(d.skip 1).nums 3 10⟩,true,(d.skip 1).skip 10))
 else(⟨1,(d.skip 1).val 3,0,0,[]⟩,down,d.skip 2)
noncomputable def ch (d:Dc):Nat->List DStep×Bool×Dc
 |0=>([],false,d)
 |k+1=>((ch d k).1++[(fp (ch d k).2.2 (ch d k).2.1).1],(fp (ch d k).2.2 (ch d k).2.1).2)
theorem BT{d:Dc}(h:d.ok)(b:Bool):ar (fp d b).1=true/\(fp d b).2.2.ok:=by
 have h1:=(h.skip 1).val (n:=6) Iv
 have h2:=(h.skip 1).val (n:=3) Iv
 unfold fp
 split
 ·refine⟨?_,h.skip 2⟩
  simp[ar,dP,dO,jE,bL,ac]
  omega
 ·split
  ·exact⟨by simp[ar,dP,dO,jE,bL,ac],h.skip 1⟩
  ·split
   ·split
    ·exact⟨by simp[ar,dP,dO,jE,bL,ac],h.skip 1⟩
    ·refine⟨?_,(h.skip 1).skip 10⟩
     have hf:bL ((d.skip 1).nums 3 10)=true:=by
      refine qV (by rw[Dc.nums_len];omega) λj hj=>?_
      rw[Dc.nums_len]at hj
      have:=((h.skip 1).skip j).val (n:=3) Iv
      simp[Dc.nums,ac]
      omega
     simp[ar,dP,dO,jE,hf,ac]
   ·refine⟨?_,h.skip 2⟩
    simp[ar,dP,dO,jE,bL,ac]
    omega
theorem ol{d:Dc}(h:d.ok):∀k,(ch d k).2.2.ok/\(ch d k).1.length=k/\∀x∈(ch d k).1,ar x=true
 |0=>⟨h,rfl,by simp[ch]⟩
 |k+1=>by
  obtain⟨h1,h2,h3⟩:=ol h k
  obtain⟨g1,g2⟩:=BT h1 (ch d k).2.1
  refine⟨g2,by simp[ch,h2],λx hx=>?_⟩
  simp only[ch,List.mem_append,List.mem_singleton]at hx
  rcases hx with hx|rfl
  ·exact h3 x hx
  ·exact g1
theorem Cl{x n:Int}(h:0<=x/\x<n):∃k:Nat,x=(k:Int)/\(k:Int)<n:=⟨x.toNat,by omega,by omega⟩
set_option maxHeartbeats 4000000 in
theorem sB(d:Dc)(hd:d.ok):∃(x:DWorld) (l:List DStep) (d':Dc),d'.ok/\l.length<=6/\(∀y∈l,ar y=true)/\a6 av 6 [.one (.ref 1000 0 0 0),.one (.d (dI 6))] [(1000,d.o)] [(1000,d'.o)] [1000] (.tup [.agg (x.ds.map .d),.one (.d (.sl (l.map DStep.ds)))]):=by
 have b0:=cG d 4 hd Iv
 obtain⟨n0,e0,h0⟩:=Cl (hd.val (n:=4) Iv)
 rw[e0]at b0
 have wm0:=uz (d.skip 1) n0 (hd.skip 1) Iv
 have ha:=lO (hd.skip 1) n0
 have la:=iU (d.skip 1) n0
 generalize c8 (d.skip 1) n0=ga at wm0 ha la
 obtain⟨wa,da⟩:=ga
 simp only at wm0 ha la
 have b1:=cG da 4 ha Iv
 obtain⟨n1,e1,h1⟩:=Cl (ha.val (n:=4) Iv)
 rw[e1]at b1
 have wm1:=uz (da.skip 1) n1 (ha.skip 1) Iv
 have hb:=lO (ha.skip 1) n1
 have lb:=iU (da.skip 1) n1
 generalize c8 (da.skip 1) n1=gb at wm1 hb lb
 obtain⟨wb,db⟩:=gb
 simp only at wm1 hb lb
 obtain⟨x,bx,nw⟩:=xr wa wb Iv Iv
 have b2:=cG db 7 hb Iv
 obtain⟨m,e2,h2⟩:=Cl (hb.val (n:=7) Iv)
 rw[e2]at b2
 have hc:=hb.skip 1
 have nx:db.next=db.skip 1:=rfl
 obtain⟨k1,k2,k3⟩:=ol hc m
 refine⟨x,(ch (db.skip 1) m).1,(ch (db.skip 1) m).2.2,k1,by omega,k3,?_⟩
 refine aL aj func6 rfl call6 ntmps6 (IG results6) rfl λS pv=>?_;conv=>whnf
 repeat'((first|refine aw0 ?_|refine awx ?_|refine aa.upd b0 1000 rfl rfl rfl ?_|refine aa.upd wm0 1000 rfl rfl rfl ?_|refine aa.upd b1 1000 rfl rfl rfl ?_|refine aa.upd wm1 1000 rfl rfl rfl ?_|refine aa.pure nw rfl ?_|refine aa.upd b2 1000 rfl rfl rfl ?_|refine AW.i64 Iv Iv ?_|exact rr|refine And.intro rfl ?_|refine bf.mk ?_ ?_|refine AB.mk (λh=>?_) (λh=>?_))<;>conv=>whnf)
 refine AWP.loopS (λk:Nat=>k<=m) (23::[8,9,10,28,29,30,31,32,33,34,35,36,37,38,39,40,41,42,43,44,45,46,47,48,49,50,51,52,53,54,55,56,57,58,59,60,61,62,63,64,65,66,67,68,69,70]) (λk=>[(8,.one (.own 23)),(9,.one (.d (dB (ch (db.skip 1) k).2.1))),(10,vI .i64 ((m-k:Nat):Int))]) (λk=>[(9999,.frame (bD [1000]) pv),(1000,(ch (db.skip 1) k).2.2.o),(23,.row 81 5 ((ch (db.skip 1) k).1.map DStep.ds)),(4,.cells 70 (yS.ds.map λd=>match d with| .pv v=> .d (.pv v)|_=> .nil)),(6,.cells 70 (x.ds.map .d))]) (λk=>m-k) 0 Iv ?_ (ae.cons rfl (ae.cons rfl (ae.cons rfl (ae.cons rfl (ae.cons rfl ae.nil))))) (λk hR=>?_)<;>(conv=>whnf)
 ·exact whd
 ·obtain⟨he,hlen,_⟩:=ol hc k
  have hnx:ch (db.skip 1) (k+1)=((ch (db.skip 1) k).1++[(fp (ch (db.skip 1) k).2.2 (ch (db.skip 1) k).2.1).1],(fp (ch (db.skip 1) k).2.2 (ch (db.skip 1) k).2.1).2):=rfl
  by_cases hkm:k=m
  ·subst hkm
   have hcn:decide ((0:Int)<((k-k:Nat):Int))=false:=by simp
   repeat'((first|refine aw0 ?_|refine awx ?_|exact rr|refine And.intro rfl ?_|refine bf.mk ?_ ?_|refine AB.mk (λh=>?_) (λh=>?_))<;>conv=>whnf)
   done
  ·have hlt:k<m:=by omega
   have hcn:decide ((0:Int)<((m-k:Nat):Int))=true:=by simp;omega
   generalize ch (db.skip 1) k=g at he hlen hnx
   obtain⟨ws,dn,e⟩:=g
   simp only at he hlen hnx
   have c0:=cG e 8 he Iv
   have c1:=cG (e.skip 1) 6 (he.skip 1) Iv
   have c2:=cG (e.skip 1) 3 (he.skip 1) Iv
   have cf:=Bg (e.skip 1) 10 (he.skip 1) Iv
   have fin:∀{y:DStep} {dn':Bool} {e':Dc},fp e dn=(y,dn',e')->ch (db.skip 1) (k+1)=(ws++[y],dn',e'):=by
    intro y dn' e' h
    rw[hnx,h]
   have h8:e.val 8=0\/e.val 8=1\/e.val 8=2\/e.val 8=3\/e.val 8=4\/e.val 8=5\/e.val 8=6\/e.val 8=7:=by have:=he.val (n:=8) Iv;omega
   rcases h8 with hv|hv|hv|hv|hv|hv|hv|hv<;>rw[hv]at c0
   ·have hx:=fin (y:=⟨2,(e.skip 1).val 6,0,0,[]⟩) (dn':=dn) (e':=e.skip 2) (by simp[fp,hv])
    repeat'((first|refine aw0 ?_|refine awx ?_|refine aa.upd c0 1000 rfl rfl rfl ?_|refine aa.upd c1 1000 rfl rfl rfl ?_|refine AB.ofT Ix ?_|refine AB.ofF Ix ?_|refine AW.as ((m-(k+1):Nat):Int) (by rw[aA Iv Iv];omega) ?_|refine AW.i64 Iv Iv ?_|refine ba (by first|(intro y hy;obtain⟨a,_,rfl⟩:=List.mem_map.1 hy;rfl)|(simp;done)) ?_|refine bo IA ?_|refine szY IC ?_|exact rr|refine And.intro rfl ?_|refine bf.mk ?_ ?_|refine AB.mk (λh=>?_) (λh=>?_))<;>conv=>whnf)
    refine aN.mk ⟨k+1,hlt,by omega,?_,ae.cons rfl (ae.cons (by rw[hx];rfl) (ae.cons (by rw[hx,List.map_append];rfl) (ae.cons rfl (ae.cons rfl ae.nil))))⟩
    rw[hx]
    exact hds
   ·have hx:=fin (y:=⟨2,(e.skip 1).val 6,0,0,[]⟩) (dn':=dn) (e':=e.skip 2) (by simp[fp,hv])
    repeat'((first|refine aw0 ?_|refine awx ?_|refine aa.upd c0 1000 rfl rfl rfl ?_|refine aa.upd c1 1000 rfl rfl rfl ?_|refine AB.ofT Ix ?_|refine AB.ofF Ix ?_|refine AW.as ((m-(k+1):Nat):Int) (by rw[aA Iv Iv];omega) ?_|refine AW.i64 Iv Iv ?_|refine ba (by first|(intro y hy;obtain⟨a,_,rfl⟩:=List.mem_map.1 hy;rfl)|(simp;done)) ?_|refine bo IA ?_|refine szY IC ?_|exact rr|refine And.intro rfl ?_|refine bf.mk ?_ ?_|refine AB.mk (λh=>?_) (λh=>?_))<;>conv=>whnf)
    refine aN.mk ⟨k+1,hlt,by omega,?_,ae.cons rfl (ae.cons (by rw[hx];rfl) (ae.cons (by rw[hx,List.map_append];rfl) (ae.cons rfl (ae.cons rfl ae.nil))))⟩
    rw[hx]
    exact hds
   ·have hx:=fin (y:=⟨2,(e.skip 1).val 6,0,0,[]⟩) (dn':=dn) (e':=e.skip 2) (by simp[fp,hv])
    repeat'((first|refine aw0 ?_|refine awx ?_|refine aa.upd c0 1000 rfl rfl rfl ?_|refine aa.upd c1 1000 rfl rfl rfl ?_|refine AB.ofT Ix ?_|refine AB.ofF Ix ?_|refine AW.as ((m-(k+1):Nat):Int) (by rw[aA Iv Iv];omega) ?_|refine AW.i64 Iv Iv ?_|refine ba (by first|(intro y hy;obtain⟨a,_,rfl⟩:=List.mem_map.1 hy;rfl)|(simp;done)) ?_|refine bo IA ?_|refine szY IC ?_|exact rr|refine And.intro rfl ?_|refine bf.mk ?_ ?_|refine AB.mk (λh=>?_) (λh=>?_))<;>conv=>whnf)
    refine aN.mk ⟨k+1,hlt,by omega,?_,ae.cons rfl (ae.cons (by rw[hx];rfl) (ae.cons (by rw[hx,List.map_append];rfl) (ae.cons rfl (ae.cons rfl ae.nil))))⟩
    rw[hx]
    exact hds
   ·have hx:=fin (y:=⟨2,0,0,0,[]⟩) (dn':=dn) (e':=e.skip 1) (by simp[fp,hv])
    repeat'((first|refine aw0 ?_|refine awx ?_|refine aa.upd c0 1000 rfl rfl rfl ?_|refine AB.ofT Ix ?_|refine AB.ofF Ix ?_|refine AW.as ((m-(k+1):Nat):Int) (by rw[aA Iv Iv];omega) ?_|refine AW.i64 Iv Iv ?_|refine ba (by first|(intro y hy;obtain⟨a,_,rfl⟩:=List.mem_map.1 hy;rfl)|(simp;done)) ?_|refine bo IA ?_|refine szY IC ?_|exact rr|refine And.intro rfl ?_|refine bf.mk ?_ ?_|refine AB.mk (λh=>?_) (λh=>?_))<;>conv=>whnf)
    refine aN.mk ⟨k+1,hlt,by omega,?_,ae.cons rfl (ae.cons (by rw[hx];rfl) (ae.cons (by rw[hx,List.map_append];rfl) (ae.cons rfl (ae.cons rfl ae.nil))))⟩
    rw[hx]
    exact hds
   ·cases dn
    ·have hx:=fin (y:=⟨5,0,0,0,(e.skip 1).nums 3 10⟩) (dn':=true) (e':=(e.skip 1).skip 10) (by simp[fp,hv])
     repeat'((first|refine aw0 ?_|refine awx ?_|refine aa.upd c0 1000 rfl rfl rfl ?_|refine aa.upd cf 1000 rfl rfl rfl ?_|refine AB.ofT Ix ?_|refine AB.ofF Ix ?_|refine AW.as ((m-(k+1):Nat):Int) (by rw[aA Iv Iv];omega) ?_|refine AW.i64 Iv Iv ?_|refine ba (by first|(intro y hy;obtain⟨a,_,rfl⟩:=List.mem_map.1 hy;rfl)|(simp;done)) ?_|refine bo IA ?_|refine szY IC ?_|exact rr|refine And.intro rfl ?_|refine bf.mk ?_ ?_|refine AB.mk (λh=>?_) (λh=>?_))<;>conv=>whnf)
     refine aN.mk ⟨k+1,hlt,by omega,?_,ae.cons rfl (ae.cons (by rw[hx];rfl) (ae.cons (by rw[hx,List.map_append];rfl) (ae.cons rfl (ae.cons rfl ae.nil))))⟩
     rw[hx]
     exact hds
    ·have hx:=fin (y:=⟨6,0,0,0,[]⟩) (dn':=false) (e':=e.skip 1) (by simp[fp,hv])
     repeat'((first|refine aw0 ?_|refine awx ?_|refine aa.upd c0 1000 rfl rfl rfl ?_|refine AB.ofT Ix ?_|refine AB.ofF Ix ?_|refine AW.as ((m-(k+1):Nat):Int) (by rw[aA Iv Iv];omega) ?_|refine AW.i64 Iv Iv ?_|refine ba (by first|(intro y hy;obtain⟨a,_,rfl⟩:=List.mem_map.1 hy;rfl)|(simp;done)) ?_|refine bo IA ?_|refine szY IC ?_|exact rr|refine And.intro rfl ?_|refine bf.mk ?_ ?_|refine AB.mk (λh=>?_) (λh=>?_))<;>conv=>whnf)
     refine aN.mk ⟨k+1,hlt,by omega,?_,ae.cons rfl (ae.cons (by rw[hx];rfl) (ae.cons (by rw[hx,List.map_append];rfl) (ae.cons rfl (ae.cons rfl ae.nil))))⟩
     rw[hx]
     exact hds
   ·have hx:=fin (y:=⟨1,(e.skip 1).val 3,0,0,[]⟩) (dn':=dn) (e':=e.skip 2) (by simp[fp,hv])
    repeat'((first|refine aw0 ?_|refine awx ?_|refine aa.upd c0 1000 rfl rfl rfl ?_|refine aa.upd c2 1000 rfl rfl rfl ?_|refine AB.ofT Ix ?_|refine AB.ofF Ix ?_|refine AW.as ((m-(k+1):Nat):Int) (by rw[aA Iv Iv];omega) ?_|refine AW.i64 Iv Iv ?_|refine ba (by first|(intro y hy;obtain⟨a,_,rfl⟩:=List.mem_map.1 hy;rfl)|(simp;done)) ?_|refine bo IA ?_|refine szY IC ?_|exact rr|refine And.intro rfl ?_|refine bf.mk ?_ ?_|refine AB.mk (λh=>?_) (λh=>?_))<;>conv=>whnf)
    refine aN.mk ⟨k+1,hlt,by omega,?_,ae.cons rfl (ae.cons (by rw[hx];rfl) (ae.cons (by rw[hx,List.map_append];rfl) (ae.cons rfl (ae.cons rfl ae.nil))))⟩
    rw[hx]
    exact hds
   ·have hx:=fin (y:=⟨1,(e.skip 1).val 3,0,0,[]⟩) (dn':=dn) (e':=e.skip 2) (by simp[fp,hv])
    repeat'((first|refine aw0 ?_|refine awx ?_|refine aa.upd c0 1000 rfl rfl rfl ?_|refine aa.upd c2 1000 rfl rfl rfl ?_|refine AB.ofT Ix ?_|refine AB.ofF Ix ?_|refine AW.as ((m-(k+1):Nat):Int) (by rw[aA Iv Iv];omega) ?_|refine AW.i64 Iv Iv ?_|refine ba (by first|(intro y hy;obtain⟨a,_,rfl⟩:=List.mem_map.1 hy;rfl)|(simp;done)) ?_|refine bo IA ?_|refine szY IC ?_|exact rr|refine And.intro rfl ?_|refine bf.mk ?_ ?_|refine AB.mk (λh=>?_) (λh=>?_))<;>conv=>whnf)
    refine aN.mk ⟨k+1,hlt,by omega,?_,ae.cons rfl (ae.cons (by rw[hx];rfl) (ae.cons (by rw[hx,List.map_append];rfl) (ae.cons rfl (ae.cons rfl ae.nil))))⟩
    rw[hx]
    exact hds
   ·have hx:=fin (y:=⟨1,(e.skip 1).val 3,0,0,[]⟩) (dn':=dn) (e':=e.skip 2) (by simp[fp,hv])
    repeat'((first|refine aw0 ?_|refine awx ?_|refine aa.upd c0 1000 rfl rfl rfl ?_|refine aa.upd c2 1000 rfl rfl rfl ?_|refine AB.ofT Ix ?_|refine AB.ofF Ix ?_|refine AW.as ((m-(k+1):Nat):Int) (by rw[aA Iv Iv];omega) ?_|refine AW.i64 Iv Iv ?_|refine ba (by first|(intro y hy;obtain⟨a,_,rfl⟩:=List.mem_map.1 hy;rfl)|(simp;done)) ?_|refine bo IA ?_|refine szY IC ?_|exact rr|refine And.intro rfl ?_|refine bf.mk ?_ ?_|refine AB.mk (λh=>?_) (λh=>?_))<;>conv=>whnf)
    refine aN.mk ⟨k+1,hlt,by omega,?_,ae.cons rfl (ae.cons (by rw[hx];rfl) (ae.cons (by rw[hx,List.map_append];rfl) (ae.cons rfl (ae.cons rfl ae.nil))))⟩
    rw[hx]
    exact hds
end Go.Proofs.YtnlhpdbijmnkhaaGreatDoor
