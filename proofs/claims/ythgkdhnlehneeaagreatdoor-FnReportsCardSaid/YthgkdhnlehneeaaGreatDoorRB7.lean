/- RB7 -/
import Derived.Test.YthgkdhnlehneeaaGreatDoorRB2
import Derived.Test.YthgkdhnlehneeaaGreatDoorAvLD
import Derived.Test.YthgkdhnlehneeaaGreatDoorQD
import Derived.Test.YthgkdhnlehneeaaGreatDoorRA3
import Derived.Test.YthgkdhnlehneeaaGreatDoorAvFX
import Derived.Test.YthgkdhnlehneeaaGreatDoorWC2
set_option maxHeartbeats 8000000
set_option linter.unusedVariables false
set_option linter.unusedSimpArgs false
set_option maxRecDepth 100000
open List (length_map mem_map)
namespace Go.Proofs.YthgkdhnlehneeaaGreatDoor
section
open Go.Proofs.Tryz
open Go.ChangeShapes Go.WideShapes Go.RowKit
variable {slot:Int}{d:bD}
theorem ol{s:Int}(h:s=0\/s=1):aN av 388 [pI s] (rB true):=by
 rcases h with rfl|rfl
 ·refine pO func388 call388 ntmps388 results388 λS=>?_;conv=>whnf
  repeat'(first|refine awz ?_|exact rZ|fail)
 ·refine pO func388 call388 ntmps388 results388 λS=>?_;conv=>whnf
  repeat'(first|refine awz ?_|exact rZ|fail)
theorem mF(h:dw d=true):cG d=true/\d.kept.length=8:=by simpa[dw]using h
theorem Hb(d:bD)(slot:Int)(k:Nat):(eV d slot (k+1)).map dO=(eV d slot k).map dO++[dO (oO d (slot*4+(k:Int)))]:=by
 simp[eV,List.range_succ]
theorem sD(d:bD)(slot:Int)(k:Nat):(eV d slot k).length=k:=by simp[eV]
theorem Pd{k:Nat}{s:Int×bf}(h:eN (eV d slot k)=some s):od d slot=some s:=by
 obtain⟨h1,h2⟩:=Ha h;rw[od,if_pos h1,<-h2,h]
theorem M9(h:∀k,1<=k->k<=4->eN (eV d slot k)=none):od d slot=none:=by
 unfold od;split
 ·cases e:eN (eV d slot (AH d slot))with
  |none=>rfl
  |some s=>
   have:=(sj e).1;rw[sD]at this;rw[h _ this.1 this.2]at e;cases e
 ·rfl
theorem IN(d:bD)(slot:Int)(hd:dw d=true)(hs:slot=0\/slot=1):aN av 387 [.agg d.ds,pI slot] (Fw (od d slot)):=by
 obtain⟨h1,h8⟩:=mF hd;have n1:(!dw d)=false:=by rw[hd];rfl
 unfold Fw kJ;refine pO func387 call387 ntmps387 results387 λS=>?_;conv=>whnf
 repeat'((first|refine awz ?_|refine cP (jd d) ?_|refine cP (ol hs) ?_|fail)<;>conv=>whnf)
 refine aaK (λk:Nat=>k<=4/\∀j,1<=j->j<=k->eN (eV d slot j)=none) (21::[5,6,7,8,9,10,11,22,23,24,25,26,27,28,29,30,31,32,33,34,35,36,37,38,39,40,41,42,43,44,45]) (λk=>[(6,.one (.own 21)),(7,vI .i64 (k:Int))]) (λk=>[(2,.cells 30 (d.ds.map .d)),(4,.cells 302 [.d (dI 0),.d (dI 0),.d (dI 0),.nil,.nil,.d (dI 0),.d (dI 0),.d (dI 0)]),(21,.row 67 1 ((eV d slot k).map dO))]) (λk=>4-k) 0 ⟨Nat.zero_le _,λj h1 h2=>by omega⟩ ?_ sbW (λk hk=>?_)<;>(conv=>whnf)
 ·exact whd
 ·obtain⟨hk,none_⟩:=hk;have hrl:=sD d slot k;by_cases hlt:k<4
  ·have hc:decide ((k:Int)<4)=true:=by simp only[decide_eq_true_eq];omega
   have ra:=BK d (slot*4+(k:Int)) h1 (by rw[h8];simp only[aJ,Bool.and_eq_true,decide_eq_true_eq];omega);have hss:=Hb d slot k;have hl1:=sD d slot (k+1);have rs:=M1 (eV d slot (k+1)) ac;cases e:eN (eV d slot (k+1))with
   |none=>
    rw[e]at rs;have rs:aN av 452 [.one (.sl ((eV d slot (k+1)).map dO))] (.tup [.agg (kJ QJ),.one (dB false)]):=rs;repeat'((first|refine awz ?_|refine cP (ra) ?_|refine ab0 rs (by rw[hss];rfl) (by rfl) ?_|refine a7 ak ?_|refine aaH ac ac ?_|fail)<;>conv=>whnf)
    refine a8.mk ⟨k+1,⟨hlt,λj h1 h2=>?_⟩,ac,?_,aaC rfl (aaC rfl (aaC (by rw[hss];rfl) aaE))⟩
    ·rcases Nat.eq_or_lt_of_le h2 with h|h
     ·subst h;exact e
     ·exact none_ j h1 ac
    ·exact hds
   |some s=>
    rw[e]at rs;rw[Pd e];have rs:aN av 452 [.one (.sl ((eV d slot (k+1)).map dO))] (.tup [.agg (kJ s),.one (dB true)]):=rs;repeat'(first|refine awz ?_|(refine cP (ra) ?_;conv=>whnf)|(refine aI.freeze 21 67 1 ((eV d slot (k+1)).map dO) (by rw[hss];rfl) ?_;(conv=>whnf);refine aaB rs rfl ?_;conv=>whnf)|((first|refine a7 ak ?_|refine aaH ac ac ?_|fail)<;>conv=>whnf)|exact rZ|fail)
  ·have e:k=4:=ac;subst e;have hc:decide (((4:Nat):Int)<4)=false:=ai;rw[M9 λj h1 h2=>none_ j h1 h2];repeat'(first|refine awz ?_|exact rZ|fail)
def WO(x:Option (Int×bf)×Int):AP:= .tup [.agg (kJ (x.1.getD QJ)),pI x.2,.one (dB x.1.isSome)]
theorem yl(d:bD)(hd:dw d=true):aN av 279 [.agg d.ds] (WO (pp d)):=by
 have s0:=IN d 0 hd (.inl rfl);have s1:=IN d 1 hd (.inr rfl);unfold pp;generalize od d 0=a at*
 generalize od d 1=b at*
 unfold WO kJ;unfold Fw kJ at s0 s1;cases a with
 |none=>
  cases b with
  |none=>
   refine pO func279 call279 ntmps279 results279 λS=>?_;conv=>whnf
   repeat'((first|refine awz ?_|refine cP (s0) ?_|refine cP (s1) ?_|exact rZ|fail)<;>conv=>whnf)
  |some b=>
   refine pO func279 call279 ntmps279 results279 λS=>?_;conv=>whnf
   repeat'((first|refine awz ?_|refine cP (s0) ?_|refine cP (s1) ?_|exact rZ|fail)<;>conv=>whnf)
 |some a=>
  cases b with
  |none=>
   refine pO func279 call279 ntmps279 results279 λS=>?_;conv=>whnf
   repeat'((first|refine awz ?_|refine cP (s0) ?_|refine cP (s1) ?_|exact rZ|fail)<;>conv=>whnf)
  |some b=>
   by_cases h:a.1<b.1
   ·have hc:decide (b.1>a.1)=true:=by simpa using h
    simp only[if_pos h];refine pO func279 call279 ntmps279 results279 λS=>?_;conv=>whnf
    repeat'((first|refine awz ?_|refine cP (s0) ?_|refine cP (s1) ?_|exact rZ|fail)<;>conv=>whnf)
   ·have hc:decide (b.1>a.1)=false:=by simpa using h
    simp only[if_neg h];refine pO func279 call279 ntmps279 results279 λS=>?_;conv=>whnf
    repeat'((first|refine awz ?_|refine cP (s0) ?_|refine cP (s1) ?_|exact rZ|fail)<;>conv=>whnf)
end
open Go.Proofs.Tryz
open Go.ChangeShapes Go.WideShapes Go.RowKit
def tp:List (List Nat):=bC [0,1,0,3,0,5,6,0x7185103081102,0x1c61440c20471c8]
theorem Pr(d:bD)(h:cG d=true):dd av 382 [.agg (d.ds.map .d),.one (.own 1001),.one (.d (dB true))] [(1001,.row 2 1 [])] [(1001,.row 2 1 []),(923,.row 67 1 ((gZ d).kept.map dO))] [] (.val (.agg [.own 923,.nil])):=by
 have hs:=eF h;obtain⟨h1,h2,h3,h4,h5⟩:=dq h;refine cH aM func382 rfl call382 ntmps382 (ace results382) rfl λS pv=>?_;conv=>whnf
 repeat'(first|refine awz ?_|(refine aaI (qF d hs) [(23,923),(49,949)] rfl rfl ?_;conv=>whnf)|fail)
 refine aaK (λk:Nat=>k<=d.wait.length) (8::9::10::rg 15 51) (λk=>[(8,vI .i64 (k:Int))]) (λk=>[(9999,.frame (dC []) pv),(1001,.row 2 1 []),(3,.cells 30 (d.ds.map .d)),(6,.cells 30 [.nil,.nil]),(7,.cells 30 [.own 923,.nil]),(923,.row 67 1 ((va d.kept (d.wait.take k)).map dO))]) (λk=>d.wait.length-k) 0 (Nat.zero_le _) ?_ sbW (λk hk=>?_)<;>(conv=>whnf)
 ·exact whd
 ·by_cases hlt:k<d.wait.length
  ·have hc:decide ((k:Int)<((d.wait.map cz.ds).length:Int))=true:=al;have hw:=(iF (h5 _ (List.getElem_mem hlt)));have hlen:=iA (d.wait.take k) d.kept;have hsx:=EJ (k:=d.kept) hlt;have h48:=eM hw.2;have hn:decide ((k:Int)<0)=false:=ah;repeat'(first|refine awz ?_|(refine aaM hlt ?_;conv=>whnf)|fail)
   (refine aaL aM 10 (tkc [0,2,4] (.three 1 (.two 3 (onc [5,6,7,8] .done) 5 (.two 3 (onc [6,7,8] .done) 6 (onc [3,7,8] .done))) 3 (.two 1 (onc [5,6,7,8] .done) 5 (.two 1 (onc [6,7,8] .done) 6 (onc [1,7,8] .done))) 5 (.three 1 (.two 3 (onc [6,7,8] .done) 6 (onc [3,7,8] .done)) 3 (.two 1 (onc [6,7,8] .done) 6 (onc [1,7,8] .done)) 6 (.two 1 (onc [3,7,8] .done) 3 (onc [1,7,8] .done))))) [] tp ae ae ae ae (λRz=>?_);(conv=>whnf))
   repeat'((first|refine awz ?_|refine AIx.int hw.1.1 ac ?_|refine cP (dN d.wait[k].row ac) ?_|refine tW ?_ ?_|fail)<;>conv=>whnf)
   all_goals
    refine aaM ac ?_;conv=>whnf
    repeat'(first|refine awz ?_|(refine aaH ari ari ?_;conv=>whnf)|fail)
    refine a8.mk ⟨k+1,hlt,ac,?_,aaC rfl (aaC rfl (aaC rfl (aaC rfl (aaC rfl (aaC (by rw[hsx,List.map_set];rfl) aaE)))))⟩;exact hds
  ·have e:k=d.wait.length:=ac;subst e;have hc:decide ((d.wait.length:Int)<((d.wait.map cz.ds).length:Int))=false:=ah;rw[List.take_length];repeat'(first|refine awz ?_|exact rZ|fail)
   all_goals(first|rfl|exact⟨rfl,whd⟩)
theorem Sl(d:bD)(h:cG d=true):dd av 343 [.agg (d.ds.map .d)] [] [(923,.row 67 1 ((gZ d).kept.map dO))] [] (.val (.agg [.own 923,.nil])):=by
 have n1:(!cG d)=false:=by rw[h];rfl
 refine cH aM func343 rfl call343 ntmps343 (ace results343) rfl λS pv=>?_;conv=>whnf
 repeat'((first|refine awz ?_|refine cP (dz d) ?_|refine aaI (Pr d h) [(1001,8),(923,923)] rfl rfl ?_|exact rZ|fail)<;>conv=>whnf)
 all_goals(first|rfl|exact⟨rfl,whd⟩)
theorem ss(d:bD)(slot:Int)(hd:dw d=true)(hs:slot=0\/slot=1):aN av 280 [.agg d.ds,pI slot] (.val (.agg (AZ d slot).ds)):=by
 obtain⟨h1,h8⟩:=mF hd;have n1:(!dw d)=false:=by rw[hd];rfl
 have hl:(gZ d).kept.length=8:=by simp[gZ,iA,h8]
 refine pO func280 call280 ntmps280 results280 λS=>?_;conv=>whnf
 repeat'((first|refine awz ?_|refine cP (jd d) ?_|refine cP (ol hs) ?_|refine aaI (Sl d h1) [(923,923)] rfl rfl ?_|fail)<;>conv=>whnf)
 refine aaK (λk:Nat=>k<=4) (6::rg 18 12) (λk=>[(6,vI .i64 (k:Int))]) (λk=>[(4,.cells 30 [.nil,.nil]),(5,.cells 30 [.own 923,.nil]),(923,.row 67 1 ((AY (gZ d).kept slot k).map dO))]) (λk=>4-k) 0 (Nat.zero_le _) ?_ sbW (λk hk=>?_)<;>(conv=>whnf)
 ·exact whd
 ·have hw:=BQ (gZ d).kept slot k;by_cases hlt:k<4
  ·have hc:decide ((k:Int)<4)=true:=by simp only[decide_eq_true_eq];omega
   have hsx:(AY (gZ d).kept slot (k+1)).map dO=((AY (gZ d).kept slot k).map dO).set (slot*4+(k:Int)).toNat [.sl []]:=by
    simp only[AY,List.map_set];rfl
   repeat'((first|refine abC (rid:=9) aM 7 28 2 1 [] ?_|refine awz ?_|refine AIx.int ac ac ?_|refine aaH ac ac ?_|fail)<;>conv=>whnf)
   refine a8.mk ⟨k+1,hlt,ac,?_,aaC rfl (aaC rfl (aaC (by rw[hsx];rfl) aaE))⟩;exact hds
  ·have e:k=4:=ac;subst e;have hc:decide (((4:Nat):Int)<4)=false:=ai;repeat'(first|refine awz ?_|exact rZ|fail)
def pe:List (List Nat):=bC [0,1,0,3,528643,0,6,0,8,0,10,714,0x14310108718920c28b,0xd2ca3082461c20440c5,0x3850c40421c624830a2cd]
def pj:List (List Nat):=dW 12 [531270,531271,531206,531215,531238,529496,529739,513944,516131,19682,39365,98414]
theorem Se(d:bD)(h:cG d=true):aN av 278 [.agg d.ds] (rB d.wait.isEmpty):=by
 have e:d.wait.isEmpty=(((d.wait.map cz.ds).length:Int)==0):=by
  cases d.wait with
  |nil=>rfl
  |cons a b=>simp;omega
 rw[e];refine pO func278 call278 ntmps278 results278 λS=>?_;conv=>whnf
 repeat'(first|refine awz ?_|(refine cP (dz d) ?_;conv=>whnf)|exact rZ|fail)
def WY:bK:=⟨⟨[],[]⟩,fT,0,0,0⟩
def Iq(o:Option bK):AP:= .tup [.agg (o.getD WY).ds,.one (dB o.isSome)]
theorem Fr(d:bD):(pp d).2=0\/(pp d).2=1:=by
 unfold pp;split
 ·split
  ·exact .inr rfl
  ·exact .inl rfl
 ·exact .inl rfl
 ·exact .inr rfl
 ·exact .inl rfl
theorem G0(m:bK):aN av 189 [.agg m.ds] (Iq (gi m)):=by
 have so:=jd m.disk;cases hd:dw m.disk with
 |false=>
  have e:gi m=none:=by simp[gi,hd]
  rw[hd]at so;rw[e];unfold Iq;refine pO func189 call189 ntmps189 results189 λS=>?_;conv=>whnf
  repeat'(first|refine awz ?_|(refine cP (so) ?_;conv=>whnf)|exact rZ|fail)
 |true=>
  rw[hd]at so;obtain⟨h1,h8⟩:=mF hd;have si:=Se m.disk h1;cases hw:m.disk.wait.isEmpty with
  |false=>
   rw[hw]at si;have e:gi m=none:=by simp[gi,hd,hw]
   rw[e];unfold Iq;refine pO func189 call189 ntmps189 results189 λS=>?_;conv=>whnf
   repeat'((first|refine awz ?_|refine cP (so) ?_|refine cP (si) ?_|exact rZ|fail)<;>conv=>whnf)
  |true=>
   rw[hw]at si;have ns:=yl m.disk hd;have nk:=Fr m.disk;unfold WO at ns;unfold gi;rw[hd,hw];simp only[Bool.and_self,if_true];generalize pp m.disk=x at*
   obtain⟨o,k⟩:=x;cases o with
   |none=>
    have w0:=ss m.disk 0 hd (.inl rfl);have w1:=ss (AZ m.disk 0) 1 (A0 hd 0) (.inr rfl);simp only;have ns:aN av 279 [.agg m.disk.ds] (.tup [.agg (kJ QJ),pI k,.one (dB false)]):=ns;unfold kJ at ns;unfold Iq;refine pO func189 call189 ntmps189 results189 λS=>?_;conv=>whnf
    repeat'((first|refine awz ?_|refine cP (so) ?_|refine cP (si) ?_|refine cP (ns) ?_|refine cP (w0) ?_|refine cP (w1) ?_|exact rZ|fail)<;>conv=>whnf)
   |some h=>
    have hk:1-k=0\/1-k=1:=by simp only at nk;omega
    have wk:=ss m.disk (1-k) hd hk;simp only at nk⊢;have ns:aN av 279 [.agg m.disk.ds] (.tup [.agg (kJ h),pI k,.one (dB true)]):=ns;unfold kJ at ns;unfold Iq;refine pO func189 call189 ntmps189 results189 λS=>?_;conv=>whnf
    repeat'((first|refine awz ?_|refine cP (so) ?_|refine cP (si) ?_|refine cP (ns) ?_|fail)<;>conv=>whnf)
    (refine aaJ aM 6 12 pe pj ae ae ae rfl ?_;conv=>whnf)
    repeat'((first|refine awz ?_|refine cP (wk) ?_|refine aaH ac ac ?_|exact rZ|fail)<;>conv=>whnf)
def mM:List (List Nat):=bC [0,1,129,12354,1056835,84676740,6510088389,486455648518,12354,2367555,0x206102043147289,0xb24a1c50c1084188,0x3081840810c51ca24b,0xd2c928714304210620c,0x3081840810c51ca24b,0xf2c928714304210620c,0x38c2061020431472892cd40f,0x113d034b24a1c50c108418830e,0x48e3081840810c51ca24b3503d1,0x3081840810c51ca24b,0x142c928714304210620c,0x1344f40d2c928714304210620c392554,0x3081840810c51ca24b59455238d40f453,0x30425d344f40d39255458b24a1c510620c,0x60c2061051ca24b59455238d40f4535c2043]
def mO:List (List Nat):=dW 21 [0,1,4,52501,52528,52609,52852,53581,6547,13108,29524,88573,9336621208,9337152649,9302608984,9307391953,9319615096,9362661817,9491801980,1161995746,2324257213]
def qP:List (List Nat):=bC [0,1,0,3,0,324,6,450,8,9,9,0,0x30a2481c61440c204828c,0xd30b28920718510308134b]
def kq:List (List Nat):=bC [0,0,2,65,4345827587]
theorem xi(d:bD)(hs:aaY 1048576 d):aN av 175 [.agg d.ds] (.val (.agg d.ds)):=
  dd.data (qF d hs) rfl rfl
theorem y6(s:bK)(hs:aa6 1048576 s):aN av 368 [.agg s.ds] (.val (.agg s.ds)):=by
  have c1:=xi s.disk hs.1;have c2:=y5 s.state hs.2;refine pO func368 call368 ntmps368 results368 λS=>?_;conv=>whnf
  repeat'((first|refine awz ?_|refine cP (c1) ?_|refine cP (c2) ?_|exact rZ|fail)<;>conv=>whnf)
theorem BJ(f:BS)(hl:f.ents.length<=1000000):cA av 421 [.agg f.ds] (λ_:Bool=>True) (λb=>rB b):=by
  by_cases hz:f.ents.length=0
  · have q:((((f.ents.map aO.ds).length:Nat):Int)==0)=true:=by simp[hz]
    refine aV aM func421 rfl call421 ntmps421 (ace results421) λS=>?_;conv=>whnf
    repeat'((first|refine awz ?_|refine cP (aQ _ _ _) ?_|refine cP (gH f.ents) ?_|refine aaJ aM 4 21 mM mO ae ae ae rfl ?_|refine tW ?_ ?_|intro h)<;>conv=>whnf)
    all_goals exact⟨(_:Bool),trivial,rfl⟩
  · have q:((((f.ents.map aO.ds).length:Nat):Int)==0)=false:=by simp;intro e;rw[e]at hz;exact hz rfl
    refine aV aM func421 rfl call421 ntmps421 (ace results421) λS=>?_;conv=>whnf
    repeat'((first|refine awz ?_|refine cP (aQ _ _ _) ?_|refine cP (gH f.ents) ?_|refine aaJ aM 4 21 mM mO ae ae ae rfl ?_|refine aaM (k:=0) ac ?_|refine AIx.int am am ?_|refine aaH am am ?_|refine tW ?_ ?_|intro h)<;>conv=>whnf)
    all_goals exact⟨(_:Bool),trivial,rfl⟩
theorem Kt(s:bK)(f:BS)(ho:storeOk s=true)(hl:f.ents.length<=1000000):cA av 353 [.agg s.ds,.agg f.ds] (λy:bK=>storeOk y=true) (λy=> .val (.agg y.ds)):=by
  have sf:=KK ho;have hs:=f7 ho;have c1:=ip s (by have:=hs.2.1;omega);rw[ho]at c1;have c2:=y6 s hs;have c3:=BJ f hl;refine aV aM func353 rfl call353 ntmps353 (ace results353) λS=>?_;conv=>whnf
  repeat'((first|refine awz ?_|refine cP (c1) ?_|refine cP (c2) ?_|refine aI.q c3 rfl λb _=>?_|refine tW ?_ ?_|intro h)<;>conv=>whnf)
  · exact⟨s,ho,rfl⟩
  · clear h;refine aaK (λg:Nat×bf=>g.1<=f.ents.length/\bB g.2=true/\s.state.index<=g.2.index) (6::7::8::rg 19 21) (λg=>[(6,vI .i64 (g.1:Int))]) (λg=>[(3,.cells 358 (f.ds.map .d)),(4,.cells 49 [.nil,.nil,.d (dI 0),.d (dI 0),.nil,.nil,.d (dI 0),.d (dI 0),.d (dI 0),.d (dI 0),.d (dI 0),.d (dI 0)]),(5,.cells 49 ((bK.ds {s with state:=g.2}).map .d))]) (λg=>f.ents.length-g.1) (0,s.state) ⟨Nat.zero_le _,sf.state,Int.le_refl _⟩ ?_ sbW (λg hg=>?_)<;>(conv=>whnf)
    · exact whd
    · obtain⟨k,t⟩:=g;obtain⟨hk,ht,hi⟩:=hg;simp only at hk ht hi;by_cases hlt:k<f.ents.length
      · have hc:decide ((k:Int)<((f.ents.map aO.ds).length:Int))=true:=al;have ca:=OL t f.ents[k] ht;repeat'(first|refine awz ?_|fail)
        (refine aaL aM 9 (tkc [0,2,3,4,5,6] (.two 1 (.two 7 (tkc [8,9,10] (.one 11 (.one 12 (.take 13 .done)))) 11 (.one 7 (tkc [8,9,10] (.one 12 (.take 13 .done))))) 11 (.one 1 (.one 7 (tkc [8,9,10] (.one 12 (.take 13 .done))))))) [(3,9980)] qP ae ae ae ae (λRz=>?_);(conv=>whnf);intro bp0 up0;(conv=>whnf))
        repeat'((first|refine awz ?_|refine aaM hlt ?_|(refine aI.q ca rfl λy hy=>?_;obtain⟨u,b⟩:=y)|refine aaH ac ac ?_|refine tW ?_ ?_|intro h)<;>conv=>whnf)
        all_goals first
          | (have hq := hy h
             have hq1:bB u=true:=hq.1;have hq2:u.index=t.index+1:=hq.2.1;refine a8.mk ⟨(k+1,u),⟨hlt,hq1,by show s.state.index<=u.index;omega⟩,by show f.ents.length-(k+1)<f.ents.length-k;omega,?_,sbW⟩;exact hds)
          | (refine a8.mk ⟨(k + 1, t), ⟨hlt, ht, hi⟩, by show f.ents.length - (k + 1) < f.ents.length - k; omega, ?_, sbW⟩
             exact hds)
      · have e:k=f.ents.length:=ac;subst e;have hc:decide ((f.ents.length:Int)<((f.ents.map aO.ds).length:Int))=false:=ah;repeat'(first|refine awz ?_|fail)
        exact⟨{s with state:=t},(Ur sf ht hi).ok,rfl⟩
theorem OR(s:bK)(h:storeOk s=true):aN av 268 [.agg s.ds] (.val (pI (s.state.index+1))):=by
  have hs:=f7 h;have c1:=ip s (by have:=hs.2.1;omega);rw[h]at c1;have f3:=(kK (KK h).state).2.2.1;refine pO func268 call268 ntmps268 results268 λS=>?_;conv=>whnf
  repeat'((first|refine awz ?_|refine cP (c1) ?_|refine aaH ac ac ?_|exact rZ|fail)<;>conv=>whnf)
theorem G1(s:bK)(h:storeOk s=true):cA av 269 [.agg s.ds] (λy:bK×Int=>storeOk y.1=true) (λy=> .tup [.agg y.1.ds,.one (dI y.2)]):=by
  have sf:=KK h;have hs:=f7 h;have c1:=ip s (by have:=hs.2.1;omega);rw[h]at c1;have c2:=y6 s hs;have hd:cG s.disk=true:=by have:=sf.disk;simp only[dw,Bool.and_eq_true]at this;exact this.1
  have c3:=qB s.disk hd;have hnum:=sf.num;by_cases hb:s.busy=0
  · have q:(s.busy !=0)=false:=by simpa using hb
    refine aV aM func269 rfl call269 ntmps269 (ace results269) λS=>?_;conv=>whnf
    repeat'((first|refine awz ?_|refine cP (c1) ?_|refine cP (c2) ?_|fail)<;>conv=>whnf)
    (refine aaL aM 9 (tkc [0,1,2] (.one 3 (.take 4 .done))) [(4,9980)] kq ae ae ae ae (λRz=>?_);(conv=>whnf);intro bp0 up0;(conv=>whnf))
    repeat'(first|refine awz ?_|fail)
    all_goals exact⟨(s,_),h,rfl⟩
  · have q:(s.busy !=0)=true:=by simpa using hb
    have hok:=(SB sf hb).ok;refine aV aM func269 rfl call269 ntmps269 (ace results269) λS=>?_;conv=>whnf
    repeat'((first|refine awz ?_|refine cP (c1) ?_|refine cP (c2) ?_|refine cP (c3) ?_|refine aaH ac ac ?_|fail)<;>conv=>whnf)
    (refine aaL aM 9 (tkc [0,1,2] (.one 3 (.take 4 .done))) [(4,9980)] kq ae ae ae ae (λRz=>?_);(conv=>whnf);intro bp0 up0;(conv=>whnf))
    repeat'(first|refine awz ?_|fail)
    all_goals exact⟨({s with disk:=gZ s.disk,num:=s.num+1,last:=s.busy,busy:=0},_),hok,rfl⟩
def kr:List (List Nat):=bC [0,0,2,0,259,0,0,454,8,37185,10,11,11,0,0x38c2ca2481c61440c204a30e,0xf38d30b2892071851030813cd]
def gY:List (List Nat):=bC [0,1,0,0,4,5,0,7,8,582,2400450,11,12,12,0,0xf34c2ca2481c61440c204b34f,0x40f38d30b28920718510308140e]
theorem Az(d:bD)(a:Int)(r:List Int)(h:cG d=true)(hw:60<=d.wait.length):aN av 342 [.agg d.ds,pI a,.one (.sl (r.map eI))] (.tup [.agg d.ds,.one (dB false)]):=by
 have hs:=eF h;have h40:=(dq h).2.1;have n1:(!cG d)=false:=by rw[h];rfl
 have n4:decide ((60:Int)<=((d.wait.map cz.ds).length:Int))=true:=al;have n5:decide (((d.wait.map cz.ds).length:Int)>=60)=true:=n4;refine pO func342 call342 ntmps342 results342 λS=>?_;conv=>whnf
 repeat'((first|refine awz ?_|refine cP (dz d) ?_|refine cP (eT d a h40) ?_|refine cP (cM r) ?_|refine cP (xi d hs) ?_|exact rZ|refine tW ?_ ?_|intro h)<;>conv=>whnf)
def PF(y:bD×Bool):Prop:=y.2=true->dw y.1=true
theorem KC(d:bD)(slot:Int)(m:Int×bf)(h:dw d=true)(hs:slot=0\/slot=1)(hp:m.2.pairs.length<=9223372036854775806):cA av 369 [.agg d.ds,pI slot,.agg (kJ m)] PF (λy=> .tup [.agg y.1.ds,.one (dB y.2)]):=by
 obtain⟨hd,h8⟩:=mF h;have hsm:=eF hd;have c1:=jd d;rw[h]at c1;have c2:=wi m hp;have c3:=ol hs;have c4:=xi d hsm;cases hso:gm m with
 |false=>
  have er:bV m=[]:=by simp[bV,hso]
  rw[er]at c2;refine aV aM func369 rfl call369 ntmps369 (ace results369) λS=>?_;conv=>whnf
  repeat'((first|refine awz ?_|refine cP (c1) ?_|refine cP (c2) ?_|refine cP (c3) ?_|refine cP (c4) ?_|fail)<;>conv=>whnf)
  all_goals exact⟨(d,false),by simp[PF],rfl⟩
 |true=>
  obtain⟨l1,l2,l3⟩:=jq hso;have q0:((((bV m).map dO).length:Int)==0)=false:=by simp;intro e;rw[e]at l1;simp at l1;omega
  refine aV aM func369 rfl call369 ntmps369 (ace results369) λS=>?_;conv=>whnf
  repeat'((first|refine awz ?_|refine cP (c1) ?_|refine cP (c2) ?_|refine cP (c3) ?_|refine cP (c4) ?_|fail)<;>conv=>whnf)
  refine aaK (λg:Nat×bD=>g.1<=(bV m).length/\dw g.2=true) (7::10::11::12::rg 31 24) (λg=>[(10,vI .i64 (g.1:Int))]) (λg=>[(3,.cells 30 (d.ds.map .d)),(6,.cells 30 [.nil,.nil]),(9,.cells 30 (g.2.ds.map .d))]) (λg=>(bV m).length-g.1) (0,d) ⟨Nat.zero_le _,h⟩ ?_ sbW (λg hg=>?_)<;>(conv=>whnf)
  ·exact whd
  ·obtain⟨k,t⟩:=g;obtain⟨hk,ht⟩:=hg;simp only at hk ht;obtain⟨ht1,ht8⟩:=mF ht;by_cases hlt:k<(bV m).length
   ·have hc:decide ((k:Int)<(((bV m).map dO).length:Int))=true:=al;have hp2:k<fe (cJ m.2).length:=ac;have hro:=yZ hso hp2;have hr:bQ (bV m)[k]=true:=by rw[sw hso hlt];exact gR hro.1 hro.2
    have ha:0<=slot*4+(k:Int)/\slot*4+(k:Int)<=7:=ac;by_cases hw:t.wait.length<60
    ·have cw:=AE t (slot*4+(k:Int)) (bV m)[k] ht1 hw (by rw[ht8];exact ia ac) hr;repeat'(first|refine awz ?_|fail)
     (refine aaL aM 10 (tkc [0,1,3,5,6,7,8] (.two 2 (.two 4 (.two 9 (tkc [10,11,12] (.one 13 (.one 14 (.take 15 .done)))) 13 (.one 9 (tkc [10,11,12] (.one 14 (.take 15 .done))))) 13 (.one 4 (.one 9 (tkc [10,11,12] (.one 14 (.take 15 .done)))))) 13 (onc [2,4,9] (tkc [10,11,12] (.one 14 (.take 15 .done)))))) [(9,9980)] kr ae ae ae ae (λRz=>?_);(conv=>whnf);intro bp0 up0;(conv=>whnf))
     repeat'((first|refine awz ?_|refine aaM hlt ?_|refine cP (cw) ?_|refine aaH ac ac ?_|refine tW ?_ ?_|fail)<;>conv=>whnf)
     all_goals
      refine a8.mk ⟨(k+1,lx t (slot*4+(k:Int)) (bV m)[k]),⟨hlt,G4 ht hw ha hr⟩,by show(bV m).length-(k+1)<(bV m).length-k;omega,?_,sbW⟩;exact hds
    ·have cw:=Az t (slot*4+(k:Int)) (bV m)[k] ht1 ac;repeat'(first|refine awz ?_|fail)
     (refine aaL aM 10 (tkc [0,1,3,5,6,7,8] (.two 2 (.two 4 (.two 9 (tkc [10,11,12] (.one 13 (.one 14 (.take 15 .done)))) 13 (.one 9 (tkc [10,11,12] (.one 14 (.take 15 .done))))) 13 (.one 4 (.one 9 (tkc [10,11,12] (.one 14 (.take 15 .done)))))) 13 (onc [2,4,9] (tkc [10,11,12] (.one 14 (.take 15 .done)))))) [(9,9980)] kr ae ae ae ae (λRz=>?_);(conv=>whnf);intro bp0 up0;(conv=>whnf))
     repeat'((first|refine awz ?_|refine aaM hlt ?_|refine cP (cw) ?_|refine cP (c4) ?_|refine aaH ac ac ?_|refine tW ?_ ?_|fail)<;>conv=>whnf)
     all_goals exact⟨(d,false),by simp[PF],rfl⟩
   ·have e:k=(bV m).length:=ac;subst e;have hc:decide (((bV m).length:Int)<(((bV m).map dO).length:Int))=false:=ah;repeat'(first|refine awz ?_|fail)
    all_goals exact⟨(t,true),λ_=>ht,rfl⟩
theorem KB(s:bK)(hok0:storeOk s=true):cA av 271 [.agg s.ds] (λy:bK×Bool=>storeOk y.1=true) (λy=> .tup [.agg y.1.ds,.one (dB y.2)]):=by
 have sf:=KK hok0;have hs:=f7 hok0;have c1:=ip s (by have:=hs.2.1;omega);rw[hok0]at c1;have c2:=y6 s hs;have c3:=yl s.disk sf.disk;have c4:=y5 s.state hs.2;have hn:=Fr s.disk;obtain⟨i1,i2,i3,i4⟩:=kK sf.state;have hlast:=sf.last;have hnum:=sf.num;have nogo:∀b,∃y:bK×Bool,storeOk y.1=true/\AP.tup [.agg s.ds,.one (dB b)]= .tup [.agg y.1.ds,.one (dB y.2)]:=λb=>⟨(s,b),hok0,rfl⟩;by_cases hb:s.busy=0
 ·have q1:(s.busy !=0)=false:=by simpa using hb
  by_cases hg:s.last+4<=s.state.index
  ·have q2:decide (s.state.index<s.last+4)=false:=al;by_cases hx:s.num<1000000000
   ·have q3:decide (s.num>=1000000000)=false:=al;have key:∀slot:Int,slot=0\/slot=1->cA av 369 [.agg s.disk.ds,pI slot,.agg (kJ (s.num+1,s.state))] PF (λy=> .tup [.agg y.1.ds,.one (dB y.2)]):=λslot hsl=>KC s.disk slot (s.num+1,s.state) sf.disk hsl (by show s.state.pairs.length<=_;omega);have k0:=key 0 (.inl rfl);have k1:=key 1 (.inr rfl);cases hne:pp s.disk with
    |mk o i=>
     rw[hne]at c3 hn;simp only at hn;cases o with
     |none=>
      refine aV aM func271 rfl call271 ntmps271 (ace results271) λS=>?_;conv=>whnf
      repeat'((first|refine awz ?_|refine cP (c1) ?_|refine cP (c2) ?_|refine cP (c3) ?_|refine aaH ac ac ?_|fail)<;>conv=>whnf)
      (refine aaL aM 10 (tkc [0,1,2,3,4,6,7] (.three 5 (.two 8 (.two 9 (.two 10 (tkc [11,12,13] (.one 14 (.one 15 (.take 16 .done)))) 14 (.one 10 (tkc [11,12,13] (.one 15 (.take 16 .done))))) 14 (.one 9 (.one 10 (tkc [11,12,13] (.one 15 (.take 16 .done)))))) 14 (onc [8,9,10] (tkc [11,12,13] (.one 15 (.take 16 .done))))) 8 (.two 5 (.two 9 (.two 10 (tkc [11,12,13] (.one 14 (.one 15 (.take 16 .done)))) 14 (.one 10 (tkc [11,12,13] (.one 15 (.take 16 .done))))) 14 (.one 9 (.one 10 (tkc [11,12,13] (.one 15 (.take 16 .done)))))) 14 (onc [5,9,10] (tkc [11,12,13] (.one 15 (.take 16 .done))))) 14 (.two 5 (onc [8,9,10] (tkc [11,12,13] (.one 15 (.take 16 .done)))) 8 (onc [5,9,10] (tkc [11,12,13] (.one 15 (.take 16 .done))))))) [(1,9980)] gY ae ae ae ae (λRz=>?_);(conv=>whnf);intro bp0 up0;(conv=>whnf))
      repeat'((first|refine awz ?_|refine cP (c4) ?_|(refine aI.q k0 rfl λy hy=>?_;obtain⟨u,b⟩:=y)|refine aaH ac ac ?_|refine tW ?_ ?_|intro h)<;>conv=>whnf)
      all_goals(first|exact⟨(s,_),hok0,rfl⟩|(have hb2:(u,b).2=true:=(by simpa using h);exact⟨({s with disk:=u,busy:=s.state.index},true),(Ez sf (hy hb2) hb hg hx).ok,rfl⟩))
     |some z=>
      rcases hn with hn|hn
      ·subst hn;refine aV aM func271 rfl call271 ntmps271 (ace results271) λS=>?_;conv=>whnf
       repeat'((first|refine awz ?_|refine cP (c1) ?_|refine cP (c2) ?_|refine cP (c3) ?_|refine aaH ac ac ?_|fail)<;>conv=>whnf)
       (refine aaL aM 10 (tkc [0,1,2,3,4,6,7] (.three 5 (.two 8 (.two 9 (.two 10 (tkc [11,12,13] (.one 14 (.one 15 (.take 16 .done)))) 14 (.one 10 (tkc [11,12,13] (.one 15 (.take 16 .done))))) 14 (.one 9 (.one 10 (tkc [11,12,13] (.one 15 (.take 16 .done)))))) 14 (onc [8,9,10] (tkc [11,12,13] (.one 15 (.take 16 .done))))) 8 (.two 5 (.two 9 (.two 10 (tkc [11,12,13] (.one 14 (.one 15 (.take 16 .done)))) 14 (.one 10 (tkc [11,12,13] (.one 15 (.take 16 .done))))) 14 (.one 9 (.one 10 (tkc [11,12,13] (.one 15 (.take 16 .done)))))) 14 (onc [5,9,10] (tkc [11,12,13] (.one 15 (.take 16 .done))))) 14 (.two 5 (onc [8,9,10] (tkc [11,12,13] (.one 15 (.take 16 .done)))) 8 (onc [5,9,10] (tkc [11,12,13] (.one 15 (.take 16 .done))))))) [(1,9980)] gY ae ae ae ae (λRz=>?_);(conv=>whnf);intro bp0 up0;(conv=>whnf))
       repeat'((first|refine awz ?_|refine cP (c4) ?_|(refine aI.q k1 rfl λy hy=>?_;obtain⟨u,b⟩:=y)|refine aaH ac ac ?_|refine tW ?_ ?_|intro h)<;>conv=>whnf)
       all_goals(first|exact⟨(s,_),hok0,rfl⟩|(have hb2:(u,b).2=true:=(by simpa using h);exact⟨({s with disk:=u,busy:=s.state.index},true),(Ez sf (hy hb2) hb hg hx).ok,rfl⟩))
      ·subst hn;refine aV aM func271 rfl call271 ntmps271 (ace results271) λS=>?_;conv=>whnf
       repeat'((first|refine awz ?_|refine cP (c1) ?_|refine cP (c2) ?_|refine cP (c3) ?_|refine aaH ac ac ?_|fail)<;>conv=>whnf)
       (refine aaL aM 10 (tkc [0,1,2,3,4,6,7] (.three 5 (.two 8 (.two 9 (.two 10 (tkc [11,12,13] (.one 14 (.one 15 (.take 16 .done)))) 14 (.one 10 (tkc [11,12,13] (.one 15 (.take 16 .done))))) 14 (.one 9 (.one 10 (tkc [11,12,13] (.one 15 (.take 16 .done)))))) 14 (onc [8,9,10] (tkc [11,12,13] (.one 15 (.take 16 .done))))) 8 (.two 5 (.two 9 (.two 10 (tkc [11,12,13] (.one 14 (.one 15 (.take 16 .done)))) 14 (.one 10 (tkc [11,12,13] (.one 15 (.take 16 .done))))) 14 (.one 9 (.one 10 (tkc [11,12,13] (.one 15 (.take 16 .done)))))) 14 (onc [5,9,10] (tkc [11,12,13] (.one 15 (.take 16 .done))))) 14 (.two 5 (onc [8,9,10] (tkc [11,12,13] (.one 15 (.take 16 .done)))) 8 (onc [5,9,10] (tkc [11,12,13] (.one 15 (.take 16 .done))))))) [(1,9980)] gY ae ae ae ae (λRz=>?_);(conv=>whnf);intro bp0 up0;(conv=>whnf))
       repeat'((first|refine awz ?_|refine cP (c4) ?_|(refine aI.q k0 rfl λy hy=>?_;obtain⟨u,b⟩:=y)|refine aaH ac ac ?_|refine tW ?_ ?_|intro h)<;>conv=>whnf)
       all_goals(first|exact⟨(s,_),hok0,rfl⟩|(have hb2:(u,b).2=true:=(by simpa using h);exact⟨({s with disk:=u,busy:=s.state.index},true),(Ez sf (hy hb2) hb hg hx).ok,rfl⟩))
   ·have q3:decide (s.num>=1000000000)=true:=al;refine aV aM func271 rfl call271 ntmps271 (ace results271) λS=>?_;conv=>whnf
    repeat'((first|refine awz ?_|refine cP (c1) ?_|refine cP (c2) ?_|refine aaH ac ac ?_|fail)<;>conv=>whnf)
    all_goals exact nogo _
  ·have q2:decide (s.state.index<s.last+4)=true:=al;refine aV aM func271 rfl call271 ntmps271 (ace results271) λS=>?_;conv=>whnf
   repeat'((first|refine awz ?_|refine cP (c1) ?_|refine cP (c2) ?_|refine aaH ac ac ?_|fail)<;>conv=>whnf)
   all_goals exact nogo _
 ·have q1:(s.busy !=0)=true:=by simpa using hb
  refine aV aM func271 rfl call271 ntmps271 (ace results271) λS=>?_;conv=>whnf
  repeat'((first|refine awz ?_|refine cP (c1) ?_|refine cP (c2) ?_|fail)<;>conv=>whnf)
  all_goals exact nogo _
def uR:List (List Nat):=bC [0,1,0,3,0,5,0,7,519,567626201076168,0x2881c91460c4042]
def vd:List (List Nat):=dW 9 [19674,19675,19610,19619,19034,19115,728,1457,3644]
def uC:List (List Nat):=bC [0,1,2,0,4,197,0,7,392,0,10,0,12,589,0,15,912,0,18,0,20,1109,98081184715139,0x1759551349140f38d30b289207185103081597]
theorem BP(t:di)(hs:aa7 1048576 t):aN av 173 [.agg t.ds] (.val (.agg t.ds)):=(IW t hs).pcall
theorem IY(b:bn)(hl:b.entries.length<=1048576):aN av 436 [.agg b.ds] (.val (.agg b.ds)):=dd.data (nA b hl) rfl rfl
theorem oe(h:bH)(hs:h.seen.length<=4):aN av 363 [.agg h.ds] (.val (.agg h.ds)):=by
 refine pO func363 call363 ntmps363 results363 λS=>?_;conv=>whnf
 repeat'((first|refine awz ?_|refine aaJ aM 1 9 uR vd ae ae ae rfl ?_|refine cP (fO h.seen ac) ?_|exact rZ|fail)<;>conv=>whnf)
theorem Gd(l:List fE)(hl:l.length<=1048576):dd av 365 [.one (.d (.sl (l.map fE.ds)))] [] [(3,.row 249 4 (l.map fE.ds))] [] (.val (.one (.own 3))):=by
 refine cH aM func365 rfl call365 ntmps365 (ace results365) rfl λS pv=>?_;conv=>whnf
 repeat'((first|refine awz ?_|refine aW (by first|(intro y hy;obtain⟨a,_,rfl⟩:=List.mem_map.1 hy;rfl)|(simp;done)) ?_|refine a7 ak ?_|exact rZ|fail)<;>conv=>whnf)
structure Wu (n:aS):Prop where
 two:aa7 1048576 n.two
 h1:n.head.seen.length<=4
 h2:n.nxt.seen.length<=4
 bk:n.book.entries.length<=1048576
 sn:n.seen.length<=4
 ow:n.owe.length<=1048576
theorem mh.short{n:aS}(f:mh n):Wu n:=by
 have hh:=(cI f.head).2.2.2.2.1;have h3:=(bY f.book).2.2.2.1;have h4:n.owe.length<=n.book.entries.length:=by rw[f.owe,List.length_map];exact List.length_filter_le _ _
 have h5:n.nxt.seen.length<=4:=by
  have hn:=f.nxt;unfold fY at hn;split at hn
  ·simp only[Bool.and_eq_true,beq_iff_eq]at hn;rw[hn.2];exact rY hh
  ·rw[beq_iff_eq]at hn;rw[hn];simp[fw]
 exact⟨oY (il f.two).1,eO hh,h5,ac,eO f.seenOk,ac⟩
theorem Ge(n:aS)(hs:Wu n):dd av 362 [.agg (n.ds.map .d)] [] [(47,.row 249 4 (n.owe.map fE.ds))] [] (.val (.agg ((n.ds.take 18).map .d++[.own 47]))):=by
 refine cH aM func362 rfl call362 ntmps362 (ace results362) rfl λS pv=>?_;conv=>whnf
 repeat'(first|refine awz ?_|fail)
 (refine aaL aM 1 (tkc [0,1,3,4,6,7,9,10,11,12,14,15,17,18,19,20] (onc [2,5,8,13,16,21,22,23] .done)) [(1,9980)] uC ae ae ae ae (λRz=>?_);(conv=>whnf);intro bp0 up0;(conv=>whnf))
 repeat'((first|refine awz ?_|refine cP (BP n.two hs.two) ?_|refine cP (oe n.head hs.h1) ?_|refine cP (oe n.nxt hs.h2) ?_|refine cP (IY n.book hs.bk) ?_|refine cP (fO n.seen (by have:=hs.sn;omega)) ?_|refine aaI (Gd n.owe hs.ow) [(3,47)] rfl rfl ?_|exact rZ|fail)<;>conv=>whnf)
theorem y1(n:aS)(hs:Wu n):aN av 362 [.agg n.ds] (.val (.agg n.ds)):=dd.data (Ge n hs) rfl rfl
theorem Kr(t:di)(a:Int)(r:List Int)(h:fW t=true)(hw:60<=t.a.wait.length\/60<=t.b.wait.length)(ha:aJ a 0 ((t.a.kept.length:Int)-1)=true)(hr:bQ r=true)(hl:r.length<48):aN av 251 [.agg t.ds,pI a,.one (.sl (r.map eI))] (.tup [.agg t.ds,.one (dB false)]):=by
 obtain⟨f1,f2,f3⟩:=eW h;have c1:=dX t;rw[h]at c1;have c2:=oc r hr hl;have hsu:=gR hr hl;have cc:=BP t (oY h);have q0:((((r++[kM r]).map eI).length:Int)==0)=false:=al;have wa:∀{d:bD},cG d=true->t.a.kept.length=d.kept.length->d.wait.length<60->aN av 342 [.agg d.ds,pI a,.one (.sl ((r++[kM r]).map eI))] (.tup [.agg (lx d a (r++[kM r])).ds,.one (dB true)]):=λhd hk hw=>AE _ a _ hd hw (by rw[<-hk];exact ha) hsu;by_cases h1:t.a.wait.length<60
 ·have w1:=wa f1 rfl h1;have w2:=Az t.b a (r++[kM r]) f2 ac;refine pO func251 call251 ntmps251 results251 λS=>?_;conv=>whnf
  repeat'((first|refine awz ?_|refine cP (c1) ?_|refine cP (c2) ?_|refine cP (w1) ?_|refine cP (w2) ?_|refine cP (cc) ?_|exact rZ|fail)<;>conv=>whnf)
 ·have w1:=Az t.a a (r++[kM r]) f1 ac;by_cases h2:t.b.wait.length<60
  ·have w2:=wa f2 f3 h2;refine pO func251 call251 ntmps251 results251 λS=>?_;conv=>whnf
   repeat'((first|refine awz ?_|refine cP (c1) ?_|refine cP (c2) ?_|refine cP (w1) ?_|refine cP (w2) ?_|refine cP (cc) ?_|exact rZ|fail)<;>conv=>whnf)
  ·have w2:=Az t.b a (r++[kM r]) f2 ac;refine pO func251 call251 ntmps251 results251 λS=>?_;conv=>whnf
   repeat'((first|refine awz ?_|refine cP (c1) ?_|refine cP (c2) ?_|refine cP (w1) ?_|refine cP (w2) ?_|refine cP (cc) ?_|exact rZ|fail)<;>conv=>whnf)
def qQ:List (List Nat):=bC [0,0,2,3,0,261,1597697,7,7,0x92071851030811c8,0x289207185103081289]
def lD:List (List Nat):=bC [0,1,0,0,4,0,389,29123,0,9,0,11,0,13,238068226,0,0x103ce34c2ca2481c61440c20483d0]
def py(t:di)(a:Int)(r:List Int):di×Bool:=if t.a.wait.length<60/\t.b.wait.length<60 then(sM t a r,true)else(t,false)
def Ac(p:di×Bool):AP:= .tup [.agg p.1.ds,.one (dB p.2)]
theorem Aq(t:di)(a:Int)(r:List Int)(h:eC t=true)(ha:0<=a/\a<=21)(hr:bQ r=true)(hl:r.length<48):aN av 251 [.agg t.ds,pI a,.one (.sl (r.map eI))] (Ac (py t a r)):=by
 obtain⟨f1,f2,f3⟩:=il h;have hb:aJ a 0 ((t.a.kept.length:Int)-1)=true:=by rw[f2];simp[aJ];omega
 unfold py;split
 ·rename_i hw;exact sk t a r f1 hw.1 hw.2 hb hr hl
 ·rename_i hw;exact Kr t a r f1 ac hb hr hl
theorem Kv(t:di)(e:aO)(h:eC t=true)(he:bL e=true):aN av 457 [.agg t.ds,.agg e.ds] (Ac (py t (iq e.index) (fP e))):=by
 have hi:=(fI he).1;have c1:=iD t;rw[h]at c1;have c2:=bP e;rw[he]at c2;have hs:=sC e.index;have hr:=pt e;have c3:=xf e.index hi;have c4:=yX e;have c5:=Aq t (iq e.index) (fP e) h ac hr.1 hr.2;unfold Ac at c5⊢;generalize py t (iq e.index) (fP e)=q at c5⊢;obtain⟨q1,q2⟩:=q;simp only at c5⊢;refine pO func457 call457 ntmps457 results457 λS=>?_;conv=>whnf
 repeat'((first|refine awz ?_|refine cP (c1) ?_|refine cP (c2) ?_|fail)<;>conv=>whnf)
 (refine aaL aM 5 (tkc [0,1,2,4] (onc [3,5,6] (.take 7 (.take 8 (.one 9 (.take 10 .done)))))) [(2,9980),(3,9981)] qQ ae ae ae ae (λRz=>?_);(conv=>whnf);intro bp0 up0;(conv=>whnf);intro bp1 up1;(conv=>whnf))
 repeat'((first|refine awz ?_|refine cP (c3) ?_|refine cP (c4) ?_|refine cP (c5) ?_|exact rZ|fail)<;>conv=>whnf)
def TV(a b:Int):Int:=if b>a then b else a
def gG(n:aS)(a:DG)(now:Int):aO:=⟨bg n.book+1,TV now (iR n.book),a.client,a.seq,a.op⟩
theorem SE{b:bn}(h:bN b=true):0<=iR b/\iR b<=1000000:=by
 unfold iR;obtain⟨f1,f2,f3,f4,f5,f6⟩:=bY h;split
 ·rename_i e he;obtain⟨e1,e2,e3⟩:=gy f5;exact(fI (e2 _ (List.mem_of_getLast? he))).2.1
 ·exact f2
theorem Dt{b:bn}(h:bN b=true):bg b<=2000:=by
 obtain⟨f1,f2,f3,f4,f5,f6⟩:=bY h;cases he:b.entries.getLast? with
 |none=>
  rw[List.getLast?_eq_none_iff]at he;simp[bg,he];omega
 |some e=>
  obtain⟨e1,e2,e3⟩:=gy f5;have:=(fI (e2 _ (List.mem_of_getLast? he))).1;have:=EC h he;omega
theorem Oo{n:aS}{a:DG}{now:Int}(f:mh n)(ha:B4 a=true)(hn:0<=now/\now<=1000000)(h20:n.book.entries.length≠20)(hl:bg n.book≠2000):bL (gG n a now)=true/\nK n.book (gG n a now)=true:=by
 have ht:=SE f.book;have hb:=bY f.book;simp only[B4,Bool.and_eq_true,aJ,decide_eq_true_eq]at ha;have hlb:n.book.base<=bg n.book/\0<=bg n.book:=by unfold bg;omega
 have hle:=Dt f.book;have hm:now<=TV now (iR n.book)/\iR n.book<=TV now (iR n.book)/\TV now (iR n.book)<=1000000:=by unfold TV;split<;>omega
 have e1:bL (gG n a now)=true:=by
  simp only[bL,gG,Bool.and_eq_true];exact⟨⟨⟨⟨ia ac,ia ac⟩,ia ha.1.1⟩,ia ha.1.2⟩,ha.2⟩
 refine⟨e1,?_⟩;simp only[nK,Bool.and_eq_true,e1,decide_eq_true_eq,beq_iff_eq,true_and];refine⟨⟨rfl,hm.2.1⟩,ac⟩
def Xf(y:aS):Prop:=mh y
theorem Nb(n:aS)(a:DG)(now:Int)(f:mh n)(ha:B4 a=true)(hn:0<=now/\now<=1000000)(hf:(bI n.seen a.client).seq<a.seq):cA av 419 [.agg n.ds,.agg a.ds,pI now] Xf (λy=> .val (.agg y.ds)):=by
 have c1:=Ge n f.short;have how:=f.short.ow;have c2:=dV n.book f.book;have hb:=bY f.book;have hlb:n.book.base<=bg n.book:=by unfold bg;omega
 have hle:=Dt f.book;by_cases h20:n.book.entries.length=20
 ·have q:((((n.book.entries.map aO.ds).length:Nat):Int)==20)=true:=by simp[h20]
  refine aV aM func419 rfl call419 ntmps419 (ace results419) λS=>?_;conv=>whnf
  repeat'((first|refine awz ?_|refine aaI c1 [(47,47)] rfl rfl ?_|refine cP (c2) ?_|fail)<;>conv=>whnf)
  all_goals exact⟨n,f,rfl⟩
 ·have q:((((n.book.entries.map aO.ds).length:Nat):Int)==20)=false:=al;by_cases h2k:bg n.book=2000
  ·have q2:(bg n.book==2000)=true:=by simp[h2k]
   refine aV aM func419 rfl call419 ntmps419 (ace results419) λS=>?_;conv=>whnf
   repeat'((first|refine awz ?_|refine aaI c1 [(47,47)] rfl rfl ?_|refine cP (c2) ?_|fail)<;>conv=>whnf)
   all_goals exact⟨n,f,rfl⟩
  ·have q2:(bg n.book==2000)=false:=by simp[h2k]
   obtain⟨e1,e2⟩:=Oo f ha hn h20 h2k;have c3:=kf n.book f.book;have c4:=Kv n.two (gG n a now) f.two e1;have c5:=pr n.book (gG n a now) f.book e2;have hs:k9 n.seen (gG n a now)=true:=by simp[k9,gG,hf]
   have c6:=qz n.seen (gG n a now) f.seenOk;have c7:=FP (gG n a now);have hm:dt n.seen (gG n a now)=some (putMark n.seen (gG n a now).mark):=vJ (by
    simp only[Bool.and_eq_true,decide_eq_true_eq];exact⟨⟨e1,hs⟩,by rw[f.last];simp only[gG];omega⟩)
   rw[show jk n.seen (gG n a now)=(putMark n.seen (gG n a now).mark,true)by simp only[jk,hm]]at c6;unfold CD at c6;simp only at c6;by_cases hw:n.two.a.wait.length<60/\n.two.b.wait.length<60
   ·have hok:=Lp f e2 hs hw.1 hw.2;rw[py,if_pos hw]at c4;unfold Ac at c4;unfold Mh at c5;simp only at c4 c5;refine aV aM func419 rfl call419 ntmps419 (ace results419) λS=>?_;conv=>whnf
    repeat'((first|refine awz ?_|refine aaI c1 [(47,47)] rfl rfl ?_|refine cP (c2) ?_|fail)<;>conv=>whnf)
    (refine aaL aM 5 (tkc [0,2,3,4,5,8,9,10,11,12,13] (.three 1 (.two 6 (.two 7 (.two 14 (.one 15 (.one 16 .done)) 15 (.one 14 (.one 16 .done))) 15 (onc [7,14,16] .done)) 15 (onc [6,7,14,16] .done)) 6 (.three 1 (.two 7 (.two 14 (.one 15 (.one 16 .done)) 15 (.one 14 (.one 16 .done))) 15 (onc [7,14,16] .done)) 7 (.two 1 (.two 14 (.one 15 (.one 16 .done)) 15 (.one 14 (.one 16 .done))) 15 (onc [1,14,16] .done)) 15 (.two 1 (onc [7,14,16] .done) 7 (onc [1,14,16] .done))) 15 (.two 1 (onc [6,7,14,16] .done) 6 (.two 1 (onc [7,14,16] .done) 7 (onc [1,14,16] .done))))) [(3,9980),(4,9981)] lD ae ae ae ae (λRz=>?_);(conv=>whnf);intro bp0 up0;(conv=>whnf);intro bp1 up1;(conv=>whnf))
    repeat'((first|refine awz ?_|refine cP (c3) ?_|refine cP (jT now (iR n.book)) ?_|refine cP (c4) ?_|refine cP (c5) ?_|refine cP (c6) ?_|refine aaH ac ac ?_|refine tW ?_ ?_|fail)<;>conv=>whnf)
    all_goals(refine aaL aM 12 (.take 0 (.take 2 (.two 1 (onc [3,4,5] (.take 6 (.one 7 .done))) 3 (.two 1 (.one 4 (.one 5 (.take 6 (.one 7 .done)))) 4 (.one 1 (.one 5 (.take 6 (.one 7 .done)))))))) [(9,9980)] oA ae ae ae ae (λRz=>?_);(conv=>whnf);intro bp0 up0;(conv=>whnf))
    repeat'((first|refine awz ?_|refine cP (c7) ?_|refine a7 ak ?_|refine tW ?_ ?_|fail)<;>conv=>whnf)
    all_goals exact⟨my n (gG n a now),hok,by
     show _=AP.val (AP1.agg (aS.ds (my n (gG n a now))));simp[aS.ds,my,di.ds,bD.ds,bH.ds,bn.ds,fE.ds]⟩
   ·rw[py,if_neg hw]at c4;unfold Ac at c4;simp only at c4;refine aV aM func419 rfl call419 ntmps419 (ace results419) λS=>?_;conv=>whnf
    repeat'((first|refine awz ?_|refine aaI c1 [(47,47)] rfl rfl ?_|refine cP (c2) ?_|fail)<;>conv=>whnf)
    (refine aaL aM 5 (tkc [0,2,3,4,5,8,9,10,11,12,13] (.three 1 (.two 6 (.two 7 (.two 14 (.one 15 (.one 16 .done)) 15 (.one 14 (.one 16 .done))) 15 (onc [7,14,16] .done)) 15 (onc [6,7,14,16] .done)) 6 (.three 1 (.two 7 (.two 14 (.one 15 (.one 16 .done)) 15 (.one 14 (.one 16 .done))) 15 (onc [7,14,16] .done)) 7 (.two 1 (.two 14 (.one 15 (.one 16 .done)) 15 (.one 14 (.one 16 .done))) 15 (onc [1,14,16] .done)) 15 (.two 1 (onc [7,14,16] .done) 7 (onc [1,14,16] .done))) 15 (.two 1 (onc [6,7,14,16] .done) 6 (.two 1 (onc [7,14,16] .done) 7 (onc [1,14,16] .done))))) [(3,9980),(4,9981)] lD ae ae ae ae (λRz=>?_);(conv=>whnf);intro bp0 up0;(conv=>whnf);intro bp1 up1;(conv=>whnf))
    repeat'((first|refine awz ?_|refine cP (c3) ?_|refine cP (jT now (iR n.book)) ?_|refine cP (c4) ?_|refine aaH ac ac ?_|refine tW ?_ ?_|fail)<;>conv=>whnf)
    all_goals exact⟨n,f,rfl⟩
def ri:List (List Nat):=bC [0,0,2,0,4,17572164,6510878913]
def ru:List (List Nat):=dW 5 [240,218,221,26,53]
def qR:List (List Nat):=bC [0,0,0,194,0,5,0,0,8,583,646,267,49409,0xd30b28920718510308130d,0xe34c2ca2481c61440c204e]
def kt:List (List Nat):=bC [0,0,2,3,4353,347943211332]
def Uz(b:bn)(i:Int):bn:=⟨i,jH b i,b.entries.drop (i-b.base).toNat⟩
theorem KG(b:bn)(i:Int)(h:bN b=true)(h1:b.base+1<=i)(h2:i<=bg b):aN av 364 [.agg b.ds,pI i] (.tup [.agg (Uz b i).ds,.one (dB true)]):=by
 have hb:=bY h;have hl:=Dt h;have c1:=fz b;rw[h]at c1;have c2:=dV b h;have c3:=aQ i b.base (bg b);rw[show aJ i b.base (bg b)=true from ia ac]at c3;have c4:=oW b i h h1 h2;have c5:aN av 437 [.one (.sl (((b.entries.map aO.ds).take b.entries.length).drop (i-b.base).toNat))] (.val (.one (.sl ((b.entries.drop (i-b.base).toNat).map aO.ds)))):=by
  rw[show(b.entries.map aO.ds).take b.entries.length=b.entries.map aO.ds from List.take_of_length_le ah,<-List.map_drop];exact dd.data (AM _ (by rw[List.length_drop];omega)) rfl rfl
 unfold Uz;generalize jH b i=t at c4⊢;have hk:i-b.base=((i-b.base).toNat:Int):=ac;have hkl:(i-b.base).toNat<=b.entries.length:=by unfold bg at h2;omega
 refine pO func364 call364 ntmps364 results364 λS=>?_;conv=>whnf
 repeat'(first|refine awz ?_|(refine cP (c1) ?_;conv=>whnf)|fail)
 (refine aaJ aM 3 5 ri ru ae ae ae rfl ?_;conv=>whnf)
 repeat'((first|refine awz ?_|refine cP (c2) ?_|refine cP (c3) ?_|fail)<;>conv=>whnf)
 (refine aaL aM 5 (tkc [0,1,2,4,5,6,7,8] (.two 3 (onc [9,10,11,12,13] (.take 14 .done)) 9 (.two 3 (onc [10,11,12,13] (.take 14 .done)) 10 (onc [3,11,12,13] (.take 14 .done))))) [(2,9980)] qR ae ae ae ae (λRz=>?_);(conv=>whnf);intro bp0 up0;(conv=>whnf))
 repeat'((first|refine awz ?_|refine cP (c4) ?_|refine cP (c5) ?_|refine aaH ac ac ?_|refine⟨(i-b.base).toNat,b.entries.length,hk,by simp[zI],hkl,by simp,?_⟩|refine And.intro (λx hx=>by obtain⟨a,_,rfl⟩:=List.mem_map.1 hx;rfl) ?_|exact rZ|refine tW ?_ ?_|fail)<;>conv=>whnf)
theorem Pj(l:List fE)(hl:l.length<=1048576):aN av 365 [.one (.sl (l.map fE.ds))] (.val (.one (.sl (l.map fE.ds)))):=dd.data (Gd l hl) rfl rfl
def T9(n m:aS):AP:= .tup [.agg m.ds,.one (.sl (n.owe.map fE.ds))]
theorem KD(n:aS)(f:mh n):aN av 263 [.agg n.ds] (T9 n (AU n)):=by
 have hsh:=f.short;have c1:=n9 n (by have:=hsh.h1;omega) (by have:=hsh.ow;omega) (by have:=hsh.sn;omega) (by have:=hsh.h2;omega);rw[f.ok]at c1;have c2:=y1 n hsh;have c3:=mf n.two (il f.two).1;have c4:=dV n.book f.book;have c5:=oe n.nxt hsh.h2;have c7:=Pj n.owe hsh.ow;unfold T9 AU;cases hm:n.more with
 |true=>
  have hn:=f.nxt;unfold fY at hn;rw[if_pos hm]at hn;simp only[Bool.and_eq_true,aJ,decide_eq_true_eq]at hn;have hr:=hn.1;have hbs:=f.base;have hd:=f.dhi;have c6:=KG n.book n.nxt.base f.book ac ac;unfold Uz at c6;generalize hq:jH n.book n.nxt.base=q at c6⊢;rw[if_pos rfl];have qm:n.more=true:=hm;refine pO func263 call263 ntmps263 results263 λS=>?_;conv=>whnf
  repeat'((first|refine awz ?_|refine cP (c1) ?_|refine cP (c2) ?_|refine cP (c3) ?_|refine cP (c4) ?_|refine cP (c5) ?_|refine cP (c6) ?_|fail)<;>conv=>whnf)
  all_goals(refine aaL aM 12 (tkc [0,1,2] (.one 3 (.one 4 (.take 5 .done)))) [(1,9980),(4,9981)] kt ae ae ae ae (λRz=>?_);(conv=>whnf);intro bp0 up0;(conv=>whnf);intro bp1 up1;(conv=>whnf))
  repeat'(first|refine awz ?_|(refine cP (c7) ?_;conv=>whnf)|exact rZ|fail)
 |false=>
  rw[if_neg ah];have qm:n.more=false:=hm;refine pO func263 call263 ntmps263 results263 λS=>?_;conv=>whnf
  repeat'((first|refine awz ?_|refine cP (c1) ?_|refine cP (c2) ?_|refine cP (c3) ?_|refine cP (c4) ?_|fail)<;>conv=>whnf)
  all_goals(refine aaL aM 12 (tkc [0,1,2] (.one 3 (.one 4 (.take 5 .done)))) [(1,9980),(4,9981)] kt ae ae ae ae (λRz=>?_);(conv=>whnf);intro bp0 up0;(conv=>whnf);intro bp1 up1;(conv=>whnf))
  repeat'(first|refine awz ?_|(refine cP (c7) ?_;conv=>whnf)|fail)
  all_goals(rw[hm];rfl)
def uS:List (List Nat):=bC [0,1,0,3,0,5,0,7,0,9,2126473,186950088,26744897446475,0x20440c518720928b30d,0x38d30b2892071850c4042]
def vg:List (List Nat):=dW 13 [1594314,1594315,1594250,1594259,530792,530873,53216,53945,6560,13121,29888,88937,265760]
def pK:List (List Nat):=bC [0,1,0,3,16642,0,6,0,328,37447,645,0xb28920718510308128b]
theorem IS(l:List Int)(hl:l.length<=1048576):dd av 121 [.one (.d (.sl (l.map eI)))] [] [(3,.row 2 1 (l.map eI))] [] (.val (.one (.own 3))):=by
  refine cH aM func121 rfl call121 ntmps121 (ace results121) rfl λS pv=>?_;conv=>whnf
  repeat'((first|refine awz ?_|refine aW (by first|(intro y hy;obtain⟨a,_,rfl⟩:=mem_map.1 hy;rfl)|(simp;done)) ?_|refine a7 ak ?_|exact rZ|fail)<;>conv=>whnf)
theorem Sv(r o:List Int)(hr:r.length<=48)(ho:o.length<=48):aN av 446 [.one (.sl (r.map eI)),.one (.sl (o.map eI))] (.val (.one (.sl ((xo r o).map eI)))):=by
  have h2:(((r.map eI).length:Nat):Int).tdiv 2=((r.length/2:Nat):Int):=by
    rw[length_map,Int.tdiv_eq_ediv_of_nonneg ac];omega
  have e1:List.drop 0 (List.take (r.length/2) (r.map eI))=(r.take (r.length/2)).map eI:=by simp[List.map_take]
  have e2:List.drop (r.length/2) (List.take o.length (o.map eI))=(o.drop (r.length/2)).map eI:=by rw[List.take_of_length_le ah,List.map_drop]
  have c1:=IS (r.take (r.length/2)) (by rw[List.length_take];omega);have e3:(xo r o).map eI=(r.take (r.length/2)).map eI++(o.drop (r.length/2)).map eI:=by simp[xo]
  rw[e3];by_cases hlt:r.length/2<o.length
  · have q:decide ((((r.map eI).length:Nat):Int).tdiv 2<((o.map eI).length:Int))=true:=by rw[h2];simp only[length_map,decide_eq_true_eq];omega
    refine pO func446 call446 ntmps446 results446 λS=>?_;conv=>whnf
    repeat'(first|((first|refine awz ?_|refine aaI c1 [(3,43)] rfl rfl ?_|refine And.intro ai ?_|refine aaH (by rw[h2];omega) (by rw[h2];omega) ?_|fail)<;>conv=>whnf)|(refine⟨0,r.length/2,rfl,h2,Nat.zero_le _,au,(λx hx=>by obtain⟨a,_,rfl⟩:=mem_map.1 hx;rfl),?_⟩;conv=>whnf;rw[e1])|(refine⟨r.length/2,o.length,h2,(by simp[zI]),ac,ah,(λx hx=>by obtain⟨a,_,rfl⟩:=mem_map.1 hx;rfl),?_⟩;conv=>whnf;rw[e2])|((first|refine aW (by first|(intro y hy;obtain⟨a,_,rfl⟩:=mem_map.1 hy;rfl)|(simp;done)) ?_|refine a7 ak ?_|exact rZ|fail)<;>conv=>whnf))
  · have q:decide ((((r.map eI).length:Nat):Int).tdiv 2<((o.map eI).length:Int))=false:=by rw[h2];simp only[length_map,decide_eq_false_iff_not];omega
    rw[List.drop_of_length_le (Nat.le_of_not_lt hlt),List.map_nil,List.append_nil];refine pO func446 call446 ntmps446 results446 λS=>?_;conv=>whnf
    repeat'(first|refine awz ?_|((first|refine aaI c1 [(3,43)] rfl rfl ?_|refine And.intro ai ?_|refine aaH (by rw[h2];omega) (by rw[h2];omega) ?_|fail)<;>conv=>whnf)|(refine⟨0,r.length/2,rfl,h2,Nat.zero_le _,au,(λx hx=>by obtain⟨a,_,rfl⟩:=mem_map.1 hx;rfl),?_⟩;conv=>whnf;rw[e1])|exact rZ|fail)
structure VR (d y:bD):Prop where
  ok:cG y=true
  len:y.kept.length=d.kept.length
theorem Su(d:bD)(fs:List Int)(h:cG d=true):cA av 382 [.agg d.ds,.one (.sl (fs.map eI)),.one (dB false)] (VR d) (λy=> .val (.agg y.ds)):=by
  have hs:=eF h;obtain⟨h1,h2,h3,h4,h5⟩:=dq h;refine aV aM func382 rfl call382 ntmps382 (ace results382) λS=>?_;conv=>whnf
  repeat'(first|refine awz ?_|(refine aaI (qF d hs) [(23,923),(49,949)] rfl rfl ?_;conv=>whnf)|fail)
  refine aaK (λg:Nat×List (List Int)=>g.1<=d.wait.length/\g.2.length=d.kept.length/\∀y∈g.2,bQ y=true) (8::9::10::rg 15 51) (λg=>[(8,vI .i64 (g.1:Int))]) (λg=>[(3,.cells 30 (d.ds.map .d)),(6,.cells 30 [.nil,.nil]),(7,.cells 30 [.own 923,.nil]),(923,.row 67 1 (g.2.map dO))]) (λg=>d.wait.length-g.1) (0,d.kept) ⟨Nat.zero_le _,rfl,h4⟩ ?_ sbW (λg hg=>?_)<;>(conv=>whnf)
  · exact whd
  · obtain⟨k,t⟩:=g;obtain⟨hk,hl,ht⟩:=hg;simp only at hk hl ht;by_cases hlt:k<d.wait.length
    · have hc:decide ((k:Int)<((d.wait.map cz.ds).length:Int))=true:=al;have hw:=(iF (h5 _ (List.getElem_mem hlt)));have h48:=eM hw.2;have hat:d.wait[k].at_.toNat<t.length:=ac;have hold:=ht _ (List.getElem_mem hat);have set_ok:∀r,bQ r=true->∀y∈t.set d.wait[k].at_.toNat r,bQ y=true:=λr hr y hy=>by
        rcases List.mem_or_eq_of_mem_set hy with hy|rfl
        · exact ht y hy
        · exact hr
      have c1:=dN d.wait[k].row ac;have c2:=Sv d.wait[k].row t[d.wait[k].at_.toNat] h48 (eM hold);have key:∀(x:AD) (r:List Int),x= .sl (r.map eI)->(t.map dO).set d.wait[k].at_.toNat [x]=(t.set d.wait[k].at_.toNat r).map dO:=by
        rintro x r rfl;rw[List.map_set]
      by_cases hfk:k<fs.length
      · have hc2:decide ((k:Int)<((fs.map eI).length:Int))=true:=al;repeat'((first|refine awz ?_|refine aaM hlt ?_|refine aaM hfk ?_|refine aaJ aM 10 7 lE iI ae ae ae rfl ?_|refine aaJ aM 12 13 uS vg ae ae ae rfl ?_|refine AIx.int hw.1.1 am ?_|refine aaM hat ?_|refine cP (c1) ?_|refine cP (c2) ?_|refine aaH ari ari ?_|refine tW ?_ ?_|intro h)<;>conv=>whnf)
        all_goals first
          | (refine a8.mk ⟨(k + 1, t.set d.wait[k].at_.toNat d.wait[k].row), ⟨hlt, by simpa using hl, set_ok _ hw.2⟩, by show d.wait.length - (k + 1) < d.wait.length - k; omega, ?_, aaC rfl (aaC rfl (aaC rfl (aaC (congrArg some (congrArg (AO.row 67 1) (key _ _ rfl))) aaE)))⟩
             exact hds)
          | (refine a8.mk ⟨(k + 1, t.set d.wait[k].at_.toNat (xo d.wait[k].row t[d.wait[k].at_.toNat])), ⟨hlt, by simpa using hl, set_ok _ (Py hw.2 hold)⟩, by show d.wait.length - (k + 1) < d.wait.length - k; omega, ?_, aaC rfl (aaC rfl (aaC rfl (aaC (congrArg some (congrArg (AO.row 67 1) (key _ _ rfl))) aaE)))⟩
             exact hds)
          | (refine a8.mk ⟨(k + 1, t), ⟨hlt, hl, ht⟩, by show d.wait.length - (k + 1) < d.wait.length - k; omega, ?_, sbW⟩
             exact hds)
      · have hc2:decide ((k:Int)<((fs.map eI).length:Int))=false:=al;repeat'((first|refine awz ?_|refine aaM hlt ?_|refine aaH ari ari ?_|fail)<;>conv=>whnf)
        all_goals
          refine a8.mk ⟨(k+1,t),⟨hlt,hl,ht⟩,by show d.wait.length-(k+1)<d.wait.length-k;omega,?_,sbW⟩;exact hds
    · have e:k=d.wait.length:=ac;subst e;have hc:decide ((d.wait.length:Int)<((d.wait.map cz.ds).length:Int))=false:=ah;repeat'(first|refine awz ?_|fail)
      all_goals exact⟨⟨t,[]⟩,⟨Lg h hl ht,hl⟩,rfl⟩
theorem BI(d:bD)(fs:List Int)(h:cG d=true):cA av 276 [.agg d.ds,.one (.sl (fs.map eI))] (VR d) (λy=> .val (.agg y.ds)):=by
  have c1:=dz d;rw[h]at c1;refine aV aM func276 rfl call276 ntmps276 (ace results276) λS=>?_;conv=>whnf
  repeat'((first|refine awz ?_|refine cP (c1) ?_|refine aI.q (Su d fs h) rfl λy hy=>?_|fail)<;>conv=>whnf)
  all_goals exact⟨_,hy,rfl⟩
theorem Gl(fs:List Int)(b:Nat)(hb:b<=1)(hf:fs.length<=1000000):cA av 381 [.one (.sl (fs.map eI)),pI (b:Int)] (λ_:List Int=>True) (λy=> .val (.one (.sl (y.map eI)))):=by
  refine aV aM func381 rfl call381 ntmps381 (ace results381) λS=>?_;conv=>whnf
  repeat'(first|refine awz ?_|fail)
  refine aaK (λg:Nat×List Int=>g.1<=fs.length+2/\g.2.length<=g.1) (7::[5,6,9,10,11,12,13,14,15,16,17,18,19,20,21,22,23,24,25,26]) (λg=>[(5,.one (.own 7)),(6,vI .i64 (g.1:Int))]) (λg=>[(7,.row 2 1 (g.2.map eI))]) (λg=>fs.length+2-g.1) (b,[]) ⟨by simp only;omega,by simp⟩ ?_ sbW (λg hg=>?_)<;>(conv=>whnf)
  · exact whd
  · obtain⟨k,l⟩:=g;obtain⟨hk,hl⟩:=hg;simp only at hk hl;by_cases hlt:k<fs.length
    · have hc:decide ((k:Int)<((fs.map eI).length:Int))=true:=al;repeat'((first|refine awz ?_|refine aaM hlt ?_|refine a7 ak ?_|refine aaH ac ac ?_|refine tW ?_ ?_|intro h)<;>conv=>whnf)
      all_goals first
        |exact⟨l,trivial,rfl⟩
        | (refine a8.mk ⟨(k + 2, l ++ [fs[k]]), ⟨by simp only; omega, by simp; omega⟩, by show fs.length + 2 - (k + 2) < fs.length + 2 - k; omega, ?_, aaC (by rw [List.map_append]; rfl) aaE⟩
           exact hds)
    · have hc:decide ((k:Int)<((fs.map eI).length:Int))=false:=al;repeat'(first|refine awz ?_|fail)
      all_goals exact⟨l,trivial,rfl⟩
theorem GV(t:di)(fs:List Int)(h:fW t=true)(hf:fs.length<=1000000):cA av 275 [.agg t.ds,.one (.sl (fs.map eI))] (λy:di=>fW y=true) (λy=> .val (.agg y.ds)):=by
  obtain⟨f1,f2,f3⟩:=eW h;have c1:=dX t;rw[h]at c1;refine aV aM func275 rfl call275 ntmps275 (ace results275) λS=>?_;conv=>whnf
  repeat'(first|refine awz ?_|(refine cP (c1) ?_;conv=>whnf)|fail)
  (refine aaL aM 3 (tkc [0,1,2,5,6,7] (onc [3,4,8,9,10,11] .done)) [(2,9980)] pK ae ae ae ae (λRz=>?_);(conv=>whnf);intro bp0 up0;(conv=>whnf))
  repeat'((first|refine awz ?_|refine aI.q (Gl fs 0 ac hf) rfl λx0 _=>?_|refine aI.q (Gl fs 1 ac hf) rfl λx1 _=>?_|refine aI.q (BI t.a _ f1) rfl λy hy=>?_|refine aI.q (BI t.b _ f2) rfl λz hz=>?_|fail)<;>conv=>whnf)
  all_goals exact⟨⟨y,z⟩,qI ⟨hy.ok,hz.ok,by rw[hy.len,hz.len];exact f3⟩,rfl⟩
theorem Ks(n:aS)(fs:List Int)(f:mh n)(hf:fs.length<=1000000):cA av 185 [.agg n.ds,.one (.sl (fs.map eI))] (λy:aS=>jh y=true) (λy=> .val (.agg y.ds)):=by
  have hsh:=f.short;have c1:=n9 n (by have:=hsh.h1;omega) (by have:=hsh.ow;omega) (by have:=hsh.sn;omega) (by have:=hsh.h2;omega);rw[f.ok]at c1;refine aV aM func185 rfl call185 ntmps185 (ace results185) λS=>?_;conv=>whnf
  repeat'((first|refine awz ?_|refine cP (c1) ?_|refine aI.q (GV n.two fs (il f.two).1 hf) rfl λy hy=>?_|fail)<;>conv=>whnf)
  all_goals exact⟨⟨y,fw,fw,false,⟨0,0,[]⟩,[],0,[]⟩,by simp[jh,hy],rfl⟩
theorem FS(s:bK)(fs:List Int)(h:storeOk s=true)(hf:fs.length<=1000000):cA av 186 [.agg s.ds,.one (.sl (fs.map eI))] (λy:bK=>fQ y=true) (λy=> .val (.agg y.ds)):=by
  have hs:=f7 h;have c1:=ip s (by have:=hs.2.1;omega);rw[h]at c1;have hd:cG s.disk=true:=by have:=(KK h).disk;simp only[dw,Bool.and_eq_true]at this;exact this.1
  refine aV aM func186 rfl call186 ntmps186 (ace results186) λS=>?_;conv=>whnf
  repeat'((first|refine awz ?_|refine cP (c1) ?_|refine aI.q (BI s.disk fs hd) rfl λy hy=>?_|fail)<;>conv=>whnf)
  all_goals exact⟨⟨y,fT,0,0,0⟩,by simp[fQ,hy.ok],rfl⟩
theorem wc(s:cr)(h:dG s=true)(hs:s.view.jobs.opens.length<=9223372036854775806):aN av 187 [.agg s.ds] (.val (.agg (gj s.id).ds)):=by
  have hi:=(M5 h).id;have c1:=kb s;rw[h]at c1;rcases hi with hi|hi
  all_goals
    have c2:aN av 75 [pI s.id] (.val (.agg (gj s.id).ds)):=by rw[hi];first|exact we|exact wg
    refine pO func187 call187 ntmps187 results187 λS=>?_;conv=>whnf
    repeat'((first|refine awz ?_|refine cP (c1) ?_|refine cP (c2) ?_|exact rZ|fail)<;>conv=>whnf)
end Go.Proofs.YthgkdhnlehneeaaGreatDoor
