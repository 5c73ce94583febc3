/- K31 -/
import Derived.Test.YtpdmakdpnejnfaaGreatK26
import Derived.Test.YtpdmakdpnejnfaaGreatIR8
import Derived.Test.YtpdmakdpnejnfaaGreatMkE
import Derived.Test.YtpdmakdpnejnfaaGreatK29
import Derived.Test.YtpdmakdpnejnfaaGreatWCq
import Derived.Test.YtpdmakdpnejnfaaGreatRows
import Derived.WalkKit
import Derived.ProofKit
import Derived.OpenShut
import Derived.Below
import Derived.ChangeSame
import Derived.Carry
set_option maxHeartbeats 8000000
set_option linter.unusedVariables false
set_option linter.unusedSimpArgs false
set_option maxRecDepth 100000
open List (length_set map_set mem_map)
open Bool (and_eq_true)
namespace Go.Proofs.YtpdmakdpnejnfaaGreat
section
open Go.Proofs.Tryz
open Go.ChangeShapes Go.WideShapes Go.RowKit
variable {m n:DLogNode}{x y:DWorld}
def Ay(x:DWorld)(o:Option DWorld):AP:= .tup [.agg (o.getD x).ds,.one (dB o.isSome)]
theorem MW(x:DWorld)(n:Nat)(hs:XO 1048576 x)(hw:hE x=true)(hn:n<=3):aL av 20 [.agg x.ds,pI (n:Int)] (Ay x (cQ x n)):=by
 have h6:x.up.length=6:=by
  rw[jy]at hw;simp only[and_eq_true,decide_eq_true_eq]at hw;exact hw.1.1.1.1.1.2
 have hue:x.up.map eB≠ []:=by intro h;rw[List.map_eq_nil_iff]at h;rw[h]at h6;cases h6
 have wo:=D7 x hs;rw[hw]at wo;have bt:aJ (n:Int) 0 3=true:=by simp only[aJ,and_eq_true,decide_eq_true_eq];omega
 have l1:=bh (n:Int) 0 3;rw[bt]at l1;have gu:(x.up.map eB)[n]? =some (eB (ju x n)):=by
  rw[List.getElem?_map,List.getElem?_eq_getElem aa,ju,List.getD_eq_getElem?_getD,List.getElem?_eq_getElem aa];rfl
 cases hu:ju x n with
 |true=>
  rw[hu]at gu;have e:cQ x n=none:=by simp[cQ,hu]
  rw[e];unfold Ay;refine pO func20 call20 ntmps20 results20 λS=>?_;conv=>whnf
  repeat'((first|refine awz ?_|refine cP (wo) ?_|refine cP (l1) ?_|refine Yh 900 1 (DLogNode.ds x.log++DStore.ds x.store++DSched.ds x.left++DSched.ds x.right++DClient.ds x.ann++DClient.ds x.bob++DNet.ds x.net++[.sl (x.clocks.map eI)]) [] (x.up.map eB) (iI x hs) rfl hue (by intro y hy;obtain⟨a,_,rfl⟩:=mem_map.1 hy;rfl) (by intro y hy;obtain⟨a,_,rfl⟩:=mem_map.1 hy;rfl) λt=>?_|refine Xw n _ rfl gu ?_|exact rZ|fail)<;>conv=>whnf)
 |false=>
  rw[hu]at gu;obtain rfl|rfl|rfl|rfl:n=0\/n=1\/n=2\/n=3:=by omega
  ·have rl:=K1 x.log;cases e:dr x.log with
   |none=>
    rw[e]at rl;have e:cQ x 0=none:=by simp[cQ,hu,e]
    rw[e];unfold Ay;unfold KG at rl;refine pO func20 call20 ntmps20 results20 λS=>?_;conv=>whnf
    repeat'((first|refine awz ?_|refine cP (wo) ?_|refine cP (l1) ?_|refine Yh 900 1 (DLogNode.ds x.log++DStore.ds x.store++DSched.ds x.left++DSched.ds x.right++DClient.ds x.ann++DClient.ds x.bob++DNet.ds x.net++[.sl (x.clocks.map eI)]) [] (x.up.map eB) (iI x hs) rfl hue (by intro y hy;obtain⟨a,_,rfl⟩:=mem_map.1 hy;rfl) (by intro y hy;obtain⟨a,_,rfl⟩:=mem_map.1 hy;rfl) λt=>?_|refine Xw 0 _ rfl gu ?_|refine cP (rl) ?_|exact rZ|fail)<;>conv=>whnf)
   |some m=>
    rw[e]at rl;have e:cQ x 0=some {x with log:=m,up:=x.up.set 0 true}:=by simp[cQ,hu,e]
    have es:(x.up.set 0 true).map eB=(x.up.map eB).set 0 (eB true):=map_set ..;rw[e];unfold Ay;have rl:aL av 76 [.agg x.log.ds] (.tup [.agg m.ds,.one (dB true)]):=rl;simp only[Option.getD_some,DWorld.ds,es];refine pO func20 call20 ntmps20 results20 λS=>?_;conv=>whnf
    repeat'((first|refine awz ?_|refine cP (wo) ?_|refine cP (l1) ?_|refine Yh 900 1 (DLogNode.ds x.log++DStore.ds x.store++DSched.ds x.left++DSched.ds x.right++DClient.ds x.ann++DClient.ds x.bob++DNet.ds x.net++[.sl (x.clocks.map eI)]) [] (x.up.map eB) (iI x hs) rfl hue (by intro y hy;obtain⟨a,_,rfl⟩:=mem_map.1 hy;rfl) (by intro y hy;obtain⟨a,_,rfl⟩:=mem_map.1 hy;rfl) λt=>?_|refine Xw 0 _ rfl gu ?_|refine cP (rl) ?_|exact rZ|fail)<;>conv=>whnf)
  ·have rl:=EV x.store;cases e:cV x.store with
   |none=>
    rw[e]at rl;have e:cQ x 1=none:=by simp[cQ,hu,e]
    rw[e];unfold Ay;unfold GA at rl;refine pO func20 call20 ntmps20 results20 λS=>?_;conv=>whnf
    repeat'((first|refine awz ?_|refine cP (wo) ?_|refine cP (l1) ?_|refine Yh 900 1 (DLogNode.ds x.log++DStore.ds x.store++DSched.ds x.left++DSched.ds x.right++DClient.ds x.ann++DClient.ds x.bob++DNet.ds x.net++[.sl (x.clocks.map eI)]) [] (x.up.map eB) (iI x hs) rfl hue (by intro y hy;obtain⟨a,_,rfl⟩:=mem_map.1 hy;rfl) (by intro y hy;obtain⟨a,_,rfl⟩:=mem_map.1 hy;rfl) λt=>?_|refine Xw 1 _ rfl gu ?_|refine cP (rl) ?_|exact rZ|fail)<;>conv=>whnf)
   |some m=>
    rw[e]at rl;have e:cQ x 1=some {x with store:=m,up:=x.up.set 1 true}:=by simp[cQ,hu,e]
    have es:(x.up.set 1 true).map eB=(x.up.map eB).set 1 (eB true):=map_set ..;rw[e];unfold Ay;have rl:aL av 77 [.agg x.store.ds] (.tup [.agg m.ds,.one (dB true)]):=rl;simp only[Option.getD_some,DWorld.ds,es];refine pO func20 call20 ntmps20 results20 λS=>?_;conv=>whnf
    repeat'((first|refine awz ?_|refine cP (wo) ?_|refine cP (l1) ?_|refine Yh 900 1 (DLogNode.ds x.log++DStore.ds x.store++DSched.ds x.left++DSched.ds x.right++DClient.ds x.ann++DClient.ds x.bob++DNet.ds x.net++[.sl (x.clocks.map eI)]) [] (x.up.map eB) (iI x hs) rfl hue (by intro y hy;obtain⟨a,_,rfl⟩:=mem_map.1 hy;rfl) (by intro y hy;obtain⟨a,_,rfl⟩:=mem_map.1 hy;rfl) λt=>?_|refine Xw 1 _ rfl gu ?_|refine cP (rl) ?_|exact rZ|fail)<;>conv=>whnf)
  ·have e:cQ x 2=some {x with up:=x.up.set 2 true}:=by simp[cQ,hu]
   have es:(x.up.set 2 true).map eB=(x.up.map eB).set 2 (eB true):=map_set ..;rw[e];unfold Ay;simp only[Option.getD_some,DWorld.ds,es];refine pO func20 call20 ntmps20 results20 λS=>?_;conv=>whnf
   repeat'((first|refine awz ?_|refine cP (wo) ?_|refine cP (l1) ?_|refine Yh 900 1 (DLogNode.ds x.log++DStore.ds x.store++DSched.ds x.left++DSched.ds x.right++DClient.ds x.ann++DClient.ds x.bob++DNet.ds x.net++[.sl (x.clocks.map eI)]) [] (x.up.map eB) (iI x hs) rfl hue (by intro y hy;obtain⟨a,_,rfl⟩:=mem_map.1 hy;rfl) (by intro y hy;obtain⟨a,_,rfl⟩:=mem_map.1 hy;rfl) λt=>?_|refine Xw 2 _ rfl gu ?_|exact rZ|fail)<;>conv=>whnf)
  ·have e:cQ x 3=some {x with up:=x.up.set 3 true}:=by simp[cQ,hu]
   have es:(x.up.set 3 true).map eB=(x.up.map eB).set 3 (eB true):=map_set ..;rw[e];unfold Ay;simp only[Option.getD_some,DWorld.ds,es];refine pO func20 call20 ntmps20 results20 λS=>?_;conv=>whnf
   repeat'((first|refine awz ?_|refine cP (wo) ?_|refine cP (l1) ?_|refine Yh 900 1 (DLogNode.ds x.log++DStore.ds x.store++DSched.ds x.left++DSched.ds x.right++DClient.ds x.ann++DClient.ds x.bob++DNet.ds x.net++[.sl (x.clocks.map eI)]) [] (x.up.map eB) (iI x hs) rfl hue (by intro y hy;obtain⟨a,_,rfl⟩:=mem_map.1 hy;rfl) (by intro y hy;obtain⟨a,_,rfl⟩:=mem_map.1 hy;rfl) λt=>?_|refine Xw 3 _ rfl gu ?_|exact rZ|fail)<;>conv=>whnf)
theorem uQ(h:dr n=some m):XT 1048576 m:=by
 have hk:=uP h;simp only[mM,ee,and_eq_true,decide_eq_true_eq,beq_iff_eq]at hk;obtain⟨⟨⟨⟨⟨⟨⟨⟨⟨k1,k2⟩,k3⟩,k4⟩,k5⟩,k6⟩,k7⟩,k8⟩,k9⟩,k10⟩:=hk;obtain⟨t1,t2,t3⟩:=dQ k1;have hs:=(dy k3).2.2.2.2.1;have ov:=xn (l:=m.book.entries) hs;rw[k7]at ov;have e:m.nxt=g9/\m.owe=[]:=by
  unfold dr at h;split at h
  ·split at h
   ·injection h with h
    subst h;exact⟨rfl,rfl⟩
   ·cases h
  ·cases h
 refine⟨⟨gJ t1,gJ t2⟩,Nat.le_trans (em hs) ae,?_,Nat.le_trans (du k4).2.2.2.1 ae,Nat.le_trans ov ae,?_⟩
 ·rw[e.1];exact Nat.zero_le _
 ·rw[e.2];exact Nat.zero_le _
theorem qm{n m:DStore}(h:cV n=some m):X3 1048576 m:=by
 have hk:=pu h;simp only[jJ,and_eq_true]at hk;have h1:eZ m.disk=true:=hk.1.1.1.1.1;have h2:cH m.state=true:=hk.1.1.1.1.2;have h3:=(iJ h2).2;rw[rY]at h3;exact⟨gJ (js h1).1,aa,aa⟩
theorem EQ{n:Nat}(hs:XO 1048576 x)(h:cQ x n=some y):XO 1048576 y:=by
 obtain⟨s1,s2,s3,s4,s5,s6,s7,s8,s9⟩:=hs;unfold cQ at h;split at h
 ·cases h
 ·split at h
  ·cases hr:dr x.log with
   |none=>rw[hr]at h;cases h
   |some l=>
    rw[hr]at h;injection h with h
    subst h;exact⟨uQ hr,s2,s3,s4,s5,s6,s7,s8,by simpa using s9⟩
  ·cases hr:cV x.store with
   |none=>rw[hr]at h;cases h
   |some l=>
    rw[hr]at h;injection h with h
    subst h;exact⟨s1,qm hr,s3,s4,s5,s6,s7,s8,by simpa using s9⟩
  ·injection h with h
   subst h;exact⟨s1,s2,s3,s4,s5,s6,s7,s8,by simpa using s9⟩
theorem rM(hs:XO 1048576 x):∀n,XO 1048576 (bX x n)
 |0=>hs
 |n+1=>by
  have ih:=rM hs n;show XO 1048576 ((cQ (bX x n) n).getD (bX x n));cases e:cQ (bX x n) n with
  |none=>exact ih
  |some y=>exact EQ ih e
theorem KQ(hs:XO 1048576 x):XO 1048576 (ik x):=by
 unfold ik;split
 ·exact rM hs 4
 ·exact IM
theorem K0(x:DWorld)(hs:XO 1048576 x):aL av 5 [.agg x.ds] (.val (.agg (ik x).ds)):=by
 have wo:=D7 x hs;cases hw:hE x with
 |false=>
  rw[hw]at wo;have e:ik x=oB:=by simp[ik,hw]
  rw[e];refine pO func5 call5 ntmps5 results5 λS=>?_;conv=>whnf
  repeat'(first|refine awz ?_|(refine cP (wo) ?_;conv=>whnf)|exact rZ|fail)
  all_goals rfl
 |true=>
  rw[hw]at wo;have e:ik x=bX x 4:=by simp[ik,hw]
  rw[e];refine pO func5 call5 ntmps5 results5 λS=>?_;conv=>whnf
  repeat'((first|refine awz ?_|refine cP (wo) ?_|refine cP ((iI x hs).pcall) ?_|fail)<;>conv=>whnf)
  refine XA (λk:Nat=>k<=4) (4::5::6::rg 13 12) (λk=>[(4,vI .i64 (k:Int))]) (λk=>[(1,.cells 105 (x.ds.map .d)),(2,.cells 105 (oB.ds.map λd=>match d with| .pv v=> .d (.pv v)|_=> .nil)),(3,.cells 105 ((bX x k).ds.map .d))]) (λk=>4-k) 0 (Nat.zero_le _) ?_ sbW (λk hk=>?_)<;>(conv=>whnf)
  ·exact whd
  ·by_cases hlt:k<4
   ·have hc:decide ((k:Int)<=3)=true:=by simp only[decide_eq_true_eq];omega
    have ra:=MW (bX x k) k (rM hs k) (zt hw k hk) aa;have hn:bX x (k+1)=(cQ (bX x k) k).getD (bX x k):=rfl;cases e:cQ (bX x k) k with
    |none=>
     rw[e]at ra hn;have hn:bX x (k+1)=bX x k:=hn;have ra:aL av 20 [.agg (bX x k).ds,pI (k:Int)] (.tup [.agg (bX x k).ds,.one (dB false)]):=ra;repeat'((first|refine awz ?_|refine cP (ra) ?_|refine Xz aa aa ?_|fail)<;>conv=>whnf)
     refine aT.mk ⟨k+1,hlt,aa,?_,Xu rfl (Xu rfl (Xu (by rw[hn];rfl) Xv))⟩;exact hds
    |some y=>
     rw[e]at ra hn;have hn:bX x (k+1)=y:=hn;have ra:aL av 20 [.agg (bX x k).ds,pI (k:Int)] (.tup [.agg y.ds,.one (dB true)]):=ra;repeat'((first|refine awz ?_|refine cP (ra) ?_|refine Xz aa aa ?_|fail)<;>conv=>whnf)
     refine aT.mk ⟨k+1,hlt,aa,?_,Xu rfl (Xu rfl (Xu (by rw[hn];rfl) Xv))⟩;exact hds
   ·have e:k=4:=aa;subst e;have hc:decide (((4:Nat):Int)<=3)=false:=ae;repeat'(first|refine awz ?_|exact rZ|fail)
theorem HG{α:Type}{f:α->Nat}{c:Nat}:∀{l:List α},(∀y∈l,f y<=c)->jO f l<=l.length*(1+c)
 |[],_=>Nat.zero_le _
 |x::r,h=>by
  have h1:=h x (List.mem_cons_self);have h2:=HG (l:=r) (λy hy=>h y (List.mem_cons_of_mem _ hy));simp only[jO,List.length_cons,Nat.add_mul];omega
theorem CB{d:DDisk}(h:db d=true):d.cnt<=5000:=by
 obtain⟨_,h1,h2,h3,h4⟩:=cL h;have k1:=HG (f:=λl:List Int=>l.length) (l:=d.kept) (c:=48) (λy hy=>by have:=h3 y hy;simp only[ck,and_eq_true,decide_eq_true_eq]at this;exact this.1);have k2:=HG (f:=DWrite.cnt) (l:=d.wait) (c:=48) (λy hy=>by have:=h4 y hy;simp only[fV,ck,and_eq_true,decide_eq_true_eq]at this;exact this.2.1);unfold DDisk.cnt;omega
theorem Iw(h:dr n=some m):m.cnt<=2000000:=by
 have hk:=uP h;simp only[mM,ee,and_eq_true,decide_eq_true_eq,beq_iff_eq]at hk;obtain⟨⟨⟨⟨⟨⟨⟨⟨⟨k1,k2⟩,k3⟩,k4⟩,k5⟩,k6⟩,k7⟩,k8⟩,k9⟩,k10⟩:=hk;obtain⟨t1,t2,t3⟩:=dQ k1;obtain⟨_,s2,s3,s4,s5,s6⟩:=uQ h;have e:m.nxt=g9/\m.owe=[]:=by
  unfold dr at h;split at h
  ·split at h
   ·injection h with h
    subst h;exact⟨rfl,rfl⟩
   ·cases h
  ·cases h
 have c1:=CB t1;have c2:=CB t2;have c3:=em (dy k3).2.2.2.2.1;have c4:=(du k4).2.2.2.1;have c5:m.nxt.seen.length=0:=by rw[e.1];rfl
 have c6:m.owe.length=0:=by rw[e.2];rfl
 simp only[DLogNode.cnt,DTwo.cnt,DHead.cnt,DBook.cnt];omega
theorem DV{n m:DStore}(h:cV n=some m):m.cnt<=2000000:=by
 have hk:=pu h;simp only[jJ,and_eq_true]at hk;have h1:eZ m.disk=true:=hk.1.1.1.1.1;have h2:cH m.state=true:=hk.1.1.1.1.2;have h3:=(iJ h2).2;rw[rY]at h3;simp only[eZ,and_eq_true]at h1;have c1:=CB h1.1;obtain⟨_,s1,s2⟩:=qm h;simp only[DStore.cnt,DState.cnt];omega
theorem KP{n:Nat}(h:cQ x n=some y):y.cnt<=x.cnt+2000000:=by
 unfold cQ at h;split at h
 ·cases h
 ·split at h
  ·cases hr:dr x.log with
   |none=>rw[hr]at h;cases h
   |some l=>
    rw[hr]at h;injection h with h
    subst h;have:=Iw hr;simp only[DWorld.cnt,length_set];omega
  ·cases hr:cV x.store with
   |none=>rw[hr]at h;cases h
   |some l=>
    rw[hr]at h;injection h with h
    subst h;have:=DV hr;simp only[DWorld.cnt,length_set];omega
  ·injection h with h
   subst h;simp only[DWorld.cnt,length_set];omega
theorem DU{C:Nat}(hC:2000000<=C):∀n,(bX x n).cnt<=x.cnt+n*C
 |0=>Nat.le_add_right _ _
 |n+1=>by
  have ih:(bX x n).cnt<=x.cnt+n*C:=DU hC n;have e2:(n+1)*C=n*C+C:=Nat.succ_mul _ _;have hs:∀o,cQ (bX x n) n=o->(o.getD (bX x n)).cnt<=(bX x n).cnt+C:=by
   intro o e;cases o with
   |none=>exact Nat.le_add_right _ _
   |some y=>exact Nat.le_trans (KP e) (Nat.add_le_add_left hC _)
  have h1:(bX x (n+1)).cnt<=(bX x n).cnt+C:=hs _ rfl;omega
theorem O6(hc:x.cnt<=1048576):(ik x).cnt<=10000000:=by
 unfold ik;split
 ·have:=DU (x:=x) (Nat.le_refl 2000000) 4;omega
 ·have e:oB.cnt=0:=rfl;omega
theorem lawRisenAll_p(o:DWorld)(hs:XO 9223372036854775807 o):aL av 3 [.agg o.ds] (rB true):=by
 refine pO func3 call3 ntmps3 results3 λS=>?_;conv=>whnf
 repeat'((first|refine awz ?_|refine cP (G7 o 1048576 ae ae hs) ?_|exact rr|refine tB ?_ ?_|intro h)<;>conv=>whnf)
 have hc:o.cnt<=1048576:=by
  simp only[decide_eq_false_iff_not]at h;omega
 have hs':XO 1048576 o:=Zd hc;clear h;have hy:=KQ hs';have hy9:=O6 hc;have hk9:=xP o;have hk0:=xQ o;have hn9:=xP (ik o);have hn0:=xQ (ik o);have d1:decide (1+dL o<0)=false:=by simp only[decide_eq_false_iff_not];omega
 have d2:decide (1+dL (ik o)<0)=false:=by simp only[decide_eq_false_iff_not];omega
 have d3:((1+dL (ik o)) !=(1+dL (ik o)))=false:=neI _;skip
 refine Xt (v5 o hs') rfl ?_;conv=>whnf
 skip
 refine Xt (K0 o hs') rfl ?_;conv=>whnf
 repeat'(first|refine awz ?_|fail)
 refine Zq 9001 (Hc o hs') (aaK rfl) λP u=>?_;conv=>whnf
 repeat'(first|refine awz ?_|fail)
 refine Zq 9002 (z7 o hs') (Yq 9001 rfl rfl rfl) λP2 u2=>?_;conv=>whnf
 repeat'(first|refine awz ?_|fail)
 refine YC (pW (ik o) hy) (Yq 9002 rfl rfl rfl) rfl ?_;conv=>whnf
 repeat'(first|refine awz ?_|fail)
 (refine XB aM 10 3 lz lE ac ac ac rfl ?_;conv=>whnf)
 repeat'((first|refine awz ?_|refine cP (v5 o hs') ?_|refine YC (pW o hs') (Yq 9001 rfl rfl rfl) rfl ?_|fail)<;>conv=>whnf)
 refine XN 9001 0 [] [] [] [] (yw o 1 ae aa) rfl rfl rfl rfl rfl ?_;conv=>whnf
 repeat'(first|refine awz ?_|fail)
 refine YC (pW (ik o) hy) (Yq 9002 rfl rfl rfl) rfl ?_;conv=>whnf
 repeat'(first|refine awz ?_|fail)
 refine XN 9002 0 [] [] [] [] (yw (ik o) 1 ae aa) rfl rfl rfl rfl rfl ?_;conv=>whnf
 repeat'(first|refine awz ?_|fail)
 refine YC (z4 (ik o) hy 1 ae aa) (Yq 9002 rfl rfl rfl) rfl ?_;conv=>whnf
 repeat'(first|refine awz ?_|fail)
 refine Xt (v5 o hs') rfl ?_;conv=>whnf
 skip
 refine Xt (z7 o hs').pcall rfl ?_;conv=>whnf
 repeat'(first|refine awz ?_|fail)
 refine Xt (pW (ik o) hy) rfl ?_;conv=>whnf
 repeat'(first|refine awz ?_|fail)
 refine YC (z4 (ik o) hy 1 ae aa) (Yq 9002 rfl rfl rfl) rfl ?_;conv=>whnf
 repeat'(first|refine awz ?_|exact rr|fail)
end
section
open Go.ChangeShapes Go.WideShapes Go.RowKit
section
variable {H:Type} {enc:TypeId×Value->H} {P:Program}
theorem EN{f:Func}{s:ChangeSpec}{apart fresh handsOn again:Bool}{W W':World}{args:Array Value}{v:Value}{ds gs:List (DataW H)}{before pa pv:List MemPlace}
  (hW:DataW.Whole enc P f.params.toList s.vars apart W args.toList ds gs before)
  (hres:∀(b:Nat) (sp:Nat->Bool) (hd:Bool),DataW.TrodAll enc P W' b sp hd f.resultTypes.toList (v.resultList f.resultTypes.size) (s.fn H (ds++gs)).results [])
  (hargs:∀sp:Nat->Bool,(∀p∈before,sp p.block=true)->DataW.TrodAll enc P W' 0 sp true f.params.toList args.toList (s.fn H (ds++gs)).args pa)
  (hvars:∀sp:Nat->Bool,(∀p∈before,sp p.block=true)->DataW.TrodVars enc P W' sp s.vars (s.fn H (ds++gs)).vars pv)
  (hps:before=pa++pv) (hb:Below W.heap.size W W')
  (hok:∀(j:Nat) (t:TypeId) (r:Value),f.resultTypes[j]? =some t->(v.resultList f.resultTypes.size)[j]? =some r->Value.okWide P W' .any 0 t r):
  s.post enc P f apart fresh handsOn again W args v W':=by
 have hlt:∀p∈before,p.block<W.heap.size:=λp hp=>hW.lt p hp;have hold:∀p∈before,(λb=>decide (b<W.heap.size)) p.block=true:=λp hp=>by simpa using hlt p hp
 refine⟨ds,gs,before,[],pa,pv,hW,hres _ _ _,hargs _ hold,hvars _ hold,World.keptBut_mono (λp hp=>⟨hp,?_⟩) (hb.frame (· ∈before)),λ_=>?_⟩
 ·rw[hps,List.mem_append]at hp;exact Or.inr hp
 ·obtain⟨_,_,_,_,_,hz,hn⟩:=hW;refine⟨hok,_,_,([]++pa)++pv,⟨[]++pa,pv,trodAll_append (hargs _ (λ_ _=>rfl)) (hres _ _ _),hvars _ (λ_ _=>rfl),rfl,?_,?_⟩,?_⟩
  ·intro b off hp;have hin:MemPlace.cell b off∈before:=by rw[hps];simpa using hp
   rw[hb.frozen (hlt _ hin)];exact hz b off hin
  ·intro ha;have:=hn ha;rw[hps]at this;simpa using this
  ·intro p hp _;rw[hps];simpa using hp
theorem Fa(hl:laidOutB P=true):∀(ts:List TypeId) (vs:List Value) (ds:List (DataW H)) (ps:List MemPlace) (W W':World) (sp:Nat->Bool),
  (ts.all λt=>P.readableRec t&&decide (t<P.types.size))=true->DataW.TrodAll enc P W 0 (λ_=>true) true ts vs ds ps->(∀x∈ps,W.sameAt W' x)->(∀x∈ps,sp x.block=true)->
  DataW.TrodAll enc P W' 0 sp true ts vs ds ps:=by
 intro ts;induction ts with
 |nil=>
  intro vs ds ps W W' sp _ h _ _;cases vs<;>cases ds<;>simp_all[DataW.TrodAll]
 |cons t ts ih=>
  intro vs ds ps W W' sp hr h hs hsp;cases vs with
  |nil=>simp[DataW.TrodAll]at h
  |cons v vs=>
   cases ds with
   |nil=>simp[DataW.TrodAll]at h
   |cons d ds=>
    obtain⟨p,q,h1,h2,rfl⟩:=h;simp only[List.all_cons,Bool.and_eq_true,decide_eq_true_eq]at hr;exact⟨p,q,WideElems.Trod_stays hl hr.1.1 hr.1.2 h1 (λx hx=>hs x (List.mem_append_left _ hx)) (λx hx=>hsp x (List.mem_append_left _ hx)),
     ih vs ds q W W' sp hr.2 h2 (λx hx=>hs x (List.mem_append_right _ hx)) (λx hx=>hsp x (List.mem_append_right _ hx)),rfl⟩
theorem law_lifted{C:Checked}{os:Os}{f:FuncId}{fn:Func}{s:ChangeSpec}{tb:TypeId}{apart fresh handsOn again:Bool}
  (own:ownKnob C.prog.godebug=none) (started:os.Started) (noInit:C.prog.inits.idxOf? f=none) (hfn:C.prog.funcs[f]? =some fn)
  (hl:laidOutB C.prog=true) (hr:(fn.params.toList.all λt=>C.prog.readableRec t&&decide (t<C.prog.types.size))=true)
  (hvars:s.vars=[]) (hres:fn.resultTypes= #[tb]) (hb:C.prog.underlying tb=some .bool)
  (hspec:∀ds:List (DataW H),ds.length=fn.params.size->s.fn H (ds++[])={results:=[.lit (.bool true)],args:=ds})
  (witness : ∃ (w : World) (tape : Tape) (i : Input), w.os = os ∧ (w.forCall tape i).Shaped C.prog ∧ i.vars = [] ∧ Input.okWide C.prog (w.forCall tape i) .any w.heap.size f i ∧
   s.pre6 enc C.prog fn [] apart (w.forCall tape i).memory i.args/\({}:Assume).holds C.prog (lone (Frame.enter C.prog f i.args .normal) [] (w.forCall tape i)))
  (walk:∀(W:World) (base:Nat) (args:Array Value) (ds:List (DataW H)) (ps:List MemPlace),
   (∀(j:Nat) t v,fn.params[j]? =some t->args[j]? =some v->Value.okWide C.prog W .any base t v)->
   DataW.TrodAll enc C.prog W 0 (λ_=>true) true fn.params.toList args.toList ds ps->W.noneFrozen ps->
   Calls C.prog f args W λe W'=>e= .returned (.bool true)/\Below W.heap.size W W'):
  ReturnsInHanded {} C os f .any (s.pre6 enc C.prog fn [] apart) (s.post enc C.prog fn apart fresh handsOn again):=by
 refine returnsInHanded_of_change own started noInit hfn witness ?_;intro W base args ds gs before hval hW _ _;have hW':=hW;obtain⟨p,q,hA,hV,rfl,hfz,hnd⟩:=hW;rw[hvars]at hV;obtain⟨rfl,rfl⟩:=trodVars_none hV;have hlen:ds.length=fn.params.size:=by
  have aux:∀(ts:List TypeId) (vs:List Value) (ds:List (DataW H)) (ps:List MemPlace),DataW.TrodAll enc C.prog W 0 (λ_=>true) true ts vs ds ps->ds.length=ts.length:=by
   intro ts;induction ts with
   |nil=>intro vs ds ps h;cases vs<;>cases ds<;>simp_all[DataW.TrodAll]
   |cons t ts ih=>
    intro vs ds ps h;cases vs with
    |nil=>simp[DataW.TrodAll]at h
    |cons v vs=>
     cases ds with
     |nil=>simp[DataW.TrodAll]at h
     |cons d ds=>obtain⟨p,q,_,h2,_⟩:=h;simp[ih _ _ _ h2]
  simpa using aux _ _ _ _ hA
 have hsp:=hspec ds hlen;have hlt:∀x∈p++[],x.block<W.heap.size:=λx hx=>hW'.lt x hx;simp only[List.append_nil]at hW' hlt hfz;refine(walk W base args ds p hval hA hfz).mono λe W' ⟨he,hbl⟩=>⟨_,he,?_⟩;refine EN (pa:=p) (pv:=[]) hW' (λb sp hd=>?_) (λsp hh=>?_) (λsp hh=>?_) (by simp) hbl ?_
 ·rw[hsp,hres];exact trodAll_cons_mk (shut_bool hb _) trodAll_mk0
 ·rw[hsp];exact Fa hl _ _ _ _ _ _ _ hr hA (λx hx=>hbl.same (hlt x hx)) hh
 ·rw[hsp,hvars];rfl
 ·exact ok_one hres rfl (okWide_bool_mk hb _)
end
end
end Go.Proofs.YtpdmakdpnejnfaaGreat
