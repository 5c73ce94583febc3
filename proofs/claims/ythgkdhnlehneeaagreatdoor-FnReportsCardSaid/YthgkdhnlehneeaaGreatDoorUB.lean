/- UB -/
import Derived.Test.YthgkdhnlehneeaaGreatDoorWR1
set_option maxHeartbeats 8000000
set_option linter.unusedVariables false
set_option linter.unusedSimpArgs false
set_option maxRecDepth 100000
open Bool (and_eq_true)
namespace Go.Proofs.YthgkdhnlehneeaaGreatDoor
open Go.Proofs.Tryz
open Go.ChangeShapes Go.WideShapes Go.RowKit
def xz:List (List Nat):=bC [0,0,129,0,196,50860355,26736222278021,31204079050823]
def jB:List (List Nat):=bC [0,0,2,194,278659,84680961,6460285125,486455918662,6460285125,0x81811020c51c9,0x2891c50c2101188,6460285125,0x2c81811020c51c928c,0x604408314d30a24720b]
def jD:List (List Nat):=dW 12 [78,2,5,14,40,121,367780,368509,360490,364135,383818,176782]
def mm:List (List Nat):=bC [0,0,2,0,259,321,0,7,25094,0x9207185103081249]
def xA:List (List Nat):=bC [0,0,2,0,259,321,0,7,0,9,648,25286,0x30b289207185103081,0xc2ca2481c61440c204c30d]
structure Xd (y:ee×Option cX):Prop where
 ok:dT y.1=true
abbrev Xz(y:ee×Option cX):List (Nat×AO):=Ve y.1
def XA(y:ee×Option cX):AR:=match y.2 with
 |none=> .tup [TZ y.1,.agg [.d (dI 0),.d (dI 0),.nil],.one (.d (dB false))]
 |some m=> .tup [TZ y.1,.agg (m.ds.map .d),.one (.d (dB true))]
theorem R6(n:ee)(a:Int)(hn:dT n=true):gU av 179 [.agg (n.ds.map .d),.one (.d (dI a))] [] Xd [41] Xz [] XA:=by
 have hs:=fj hn;have h15:=(dQ hn).2.1;have c1:=g9 n;rw[hn]at c1;have c2:=l5 n a hs.1;cases hb:aJ a 0 ((n.flight.length:Int)-1)with
 |false=>
  rw[hb]at c2;refine be aM func179 rfl call179 ntmps179 (ace results179) (λ_=>rfl) rfl (λ_=>rfl) λS pv=>?_;conv=>whnf
  repeat'((first|refine awz ?_|refine cP (c1) ?_|refine cP (c2) ?_|refine aaI (l4 n hs) [(41,41)] rfl rfl ?_|fail)<;>conv=>whnf)
  all_goals exact⟨(n,none),⟨hn⟩,rfl,rfl,rfl,trivial⟩
 |true=>
  rw[hb]at c2;obtain⟨k,rfl⟩:∃k:Nat,a=(k:Int):=by
   simp only[aJ,and_eq_true,decide_eq_true_eq]at hb;exact⟨a.toNat,ac⟩
  have hk:k<n.flight.length:=by
   simp only[aJ,and_eq_true,decide_eq_true_eq]at hb;omega
  have hl:=T0 hn k;have hm:=(dQ hn).2.2.1 _ (List.getElem_mem hk);have hr48:n.flight[k].row.length<=48:=by
   simp only[iO,and_eq_true]at hm;exact eM hm.2
  have hr:n.flight[k].row.length<=1048576:=ac;have ca:=y8 n n.flight[k].frm n.flight[k].to_ h15;have cm:=ww n.flight[k] hr;refine be aM func179 rfl call179 ntmps179 (ace results179) (λ_=>rfl) rfl (λ_=>rfl) λS pv=>?_;conv=>whnf
  repeat'((first|refine awz ?_|refine cP (c1) ?_|refine cP (c2) ?_|refine aaM hk ?_|refine aI.q ca rfl λy hy=>?_|refine aaI (sB n k hs hk) [(9,41)] rfl rfl ?_|refine tW ?_ ?_|intro h)<;>conv=>whnf)
  ·exact⟨(Qp n k,none),⟨hl⟩,rfl,rfl,rfl,trivial⟩
  ·(refine aaL aM 8 (tkc [0,1,3] (onc [2,4,5,6] (.take 7 .done))) [(2,9980),(7,9981)] xz ae ae ae ae (λRz=>?_);(conv=>whnf);intro bp0 up0;(conv=>whnf);intro bp1 up1;(conv=>whnf))
   repeat'((first|refine awz ?_|refine cP (cm) ?_|refine aaI (sB n k hs hk) [(9,41)] rfl rfl ?_|fail)<;>conv=>whnf)
   all_goals exact⟨(Qp n k,some n.flight[k]),⟨hl⟩,rfl,rfl,rfl,trivial⟩
abbrev XD(y:ee×Bool):List (Nat×AO):=Ve y.1
abbrev XC(y:ee×Bool):AR:= .tup [TZ y.1,.one (.d (dB y.2))]
theorem RX(n:ee)(a b:Int)(hn:dT n=true):gU av 197 [.agg (n.ds.map .d),.one (.d (dI a)),.one (.d (dI b))] [] (λy:ee×Bool=>dT y.1=true) [41] XD [] XC:=by
 have hs:=fj hn;have h15:=(dQ hn).2.1;have c1:=g9 n;rw[hn]at c1;have c2:=Up a b;have cl:=IX a b;have ca:=y8 n a b h15;cases ht:fR a b with
 |false=>
  rw[ht]at c2;refine be aM func197 rfl call197 ntmps197 (ace results197) (λ_=>rfl) rfl (λ_=>rfl) λS pv=>?_;conv=>whnf
  repeat'((first|refine awz ?_|refine cP (c1) ?_|refine cP (c2) ?_|refine aaI (l4 n hs) [(41,41)] rfl rfl ?_|fail)<;>conv=>whnf)
  all_goals exact⟨(n,false),hn,rfl,rfl,rfl,trivial⟩
 |true=>
  rw[ht]at c2;have hx:=RB ht;generalize vG a b=x at ca cl hx;refine be aM func197 rfl call197 ntmps197 (ace results197) (λ_=>rfl) rfl (λ_=>rfl) λS pv=>?_;conv=>whnf
  repeat'((first|refine awz ?_|refine cP (c1) ?_|refine cP (c2) ?_|refine cP (cl) ?_|refine aaI (l4 n hs) [(41,41)] rfl rfl ?_|refine aI.q ca rfl λy hy=>?_|refine tW ?_ ?_|intro h)<;>conv=>whnf)
  ·exact⟨(n,false),hn,rfl,rfl,rfl,trivial⟩
  ·have hne:∀z∈n.cuts,z≠x:=by
    rcases hy with⟨_,h2⟩|⟨k,_,rfl⟩
    ·exact h2
    ·first|(simp at h;done)|(simp at h;omega)
   refine aaK (λk:Nat=>k<=n.cuts.length/\∀(j:Nat) (hj:j<n.cuts.length),j<k->dn n.cuts[j] x=true) (10::rg 33 16) (λk=>[(10,vI .i64 (k:Int))]) (λk=>[(9999,.frame (dC []) pv),(3,.cells 66 (n.ds.map .d)),(6,.cells 66 [.nil,.nil]),(8,.cells 66 [.own 41,.d (.sl (n.cuts.map dJ.ds))]),(9,.cells 189 (x.ds.map .d)),(41,.row 137 3 (n.flight.map cX.ds))]) (λk=>n.cuts.length-k) 0 ⟨Nat.zero_le _,λj _ h=>by omega⟩ ?_ sbW (λk hg=>?_)<;>(conv=>whnf)
   ·exact whd
   ·obtain⟨hk,hless⟩:=hg;have e1:List.drop 0 (List.take k (n.cuts.map dJ.ds))=(n.cuts.take k).map dJ.ds:=by simp[List.map_take]
    have e2:List.drop k (List.take n.cuts.length (n.cuts.map dJ.ds))=(n.cuts.drop k).map dJ.ds:=by rw[List.take_of_length_le ah,List.map_drop]
    have fin:(∀hk:k<n.cuts.length,dn n.cuts[k] x=false)->dT ⟨n.flight,n.cuts.take k++[x]++n.cuts.drop k⟩=true:=λh2=>XE hn hx hless h2 hne;have eq3:(n.cuts.take k++[x]++n.cuts.drop k).map dJ.ds=[]++(n.cuts.take k).map dJ.ds++[x.ds]++(n.cuts.drop k).map dJ.ds:=ah;by_cases hlt:k<n.cuts.length
    ·have hc:decide ((k:Int)<((n.cuts.map dJ.ds).length:Int))=true:=al;cases hll:dn n.cuts[k] x with
     |true=>
      have cll:=mg n.cuts[k] x;rw[hll]at cll;repeat'((first|refine awz ?_|refine aaJ aM 8 12 jB jD ae ae ae rfl ?_|refine aaM hlt ?_|refine cP (cll) ?_|refine aaH ac ac ?_|fail)<;>conv=>whnf)
      all_goals
       refine a8.mk ⟨k+1,⟨hlt,λj hj hj2=>?_⟩,by show n.cuts.length-(k+1)<n.cuts.length-k;omega,?_,sbW⟩
       ·by_cases e:j=k
        ·subst e;exact hll
        ·exact hless j hj ac
       ·exact hds
     |false=>
      have cll:=mg n.cuts[k] x;rw[hll]at cll;have ok:=fin λ_=>hll;repeat'((first|refine awz ?_|refine aaJ aM 8 12 jB jD ae ae ae rfl ?_|refine aaM hlt ?_|refine cP (cll) ?_|fail)<;>conv=>whnf)
      all_goals
       (refine aaL aM 10 (tkc [1,2,3,6] (.three 0 (.two 4 (.two 5 (.one 7 (.one 8 (.take 9 .done))) 7 (.one 5 (.one 8 (.take 9 .done)))) 7 (onc [4,5,8] (.take 9 .done))) 4 (.two 0 (.two 5 (.one 7 (.one 8 (.take 9 .done))) 7 (.one 5 (.one 8 (.take 9 .done)))) 7 (onc [0,5,8] (.take 9 .done))) 7 (.two 0 (onc [4,5,8] (.take 9 .done)) 4 (onc [0,5,8] (.take 9 .done))))) [(3,9980),(9,9981)] mm ae ae ae ae (λRz=>?_);(conv=>whnf);intro bp0 up0;(conv=>whnf);intro bp1 up1;(conv=>whnf))
       repeat'(first|refine awz ?_|(refine⟨0,k,rfl,rfl,Nat.zero_le _,au,?_⟩;conv=>whnf;rw[e1])|(refine⟨k,n.cuts.length,rfl,(by simp[zI]),ac,ah,?_⟩;conv=>whnf;rw[e2])|((first|refine aW (by first|(intro y hy;obtain⟨a,_,rfl⟩:=List.mem_map.1 hy;rfl)|(simp;done)) ?_|refine a7 ak ?_|fail)<;>conv=>whnf)|refine tW ?_ ?_|fail)
      all_goals exact⟨(⟨n.flight,n.cuts.take k++[x]++n.cuts.drop k⟩,true),ok,by show _=AR.tup [.agg [.own 41,.d (.sl ((n.cuts.take k++[x]++n.cuts.drop k).map dJ.ds))],_];first|(rw[eq3];done)|(rw[eq3];rfl),rfl,rfl,trivial⟩
    ·have e:k=n.cuts.length:=ac;have ok:=fin λhk=>absurd hk hlt;have hc:decide ((k:Int)<((n.cuts.map dJ.ds).length:Int))=false:=al;repeat'(first|refine awz ?_|(refine aaJ aM 8 12 jB jD ae ae ae rfl ?_;conv=>whnf)|fail)
     all_goals
      (refine aaL aM 10 (tkc [1,2,3,6] (.three 0 (.two 4 (.two 5 (.one 7 (.one 8 (.take 9 .done))) 7 (.one 5 (.one 8 (.take 9 .done)))) 7 (onc [4,5,8] (.take 9 .done))) 4 (.two 0 (.two 5 (.one 7 (.one 8 (.take 9 .done))) 7 (.one 5 (.one 8 (.take 9 .done)))) 7 (onc [0,5,8] (.take 9 .done))) 7 (.two 0 (onc [4,5,8] (.take 9 .done)) 4 (onc [0,5,8] (.take 9 .done))))) [(3,9980),(9,9981)] mm ae ae ae ae (λRz=>?_);(conv=>whnf);intro bp0 up0;(conv=>whnf);intro bp1 up1;(conv=>whnf))
      repeat'(first|refine awz ?_|(refine⟨0,k,rfl,rfl,Nat.zero_le _,au,?_⟩;conv=>whnf;rw[e1])|(refine⟨k,n.cuts.length,rfl,(by simp[zI]),ac,ah,?_⟩;conv=>whnf;rw[e2])|((first|refine aW (by first|(intro y hy;obtain⟨a,_,rfl⟩:=List.mem_map.1 hy;rfl)|(simp;done)) ?_|refine a7 ak ?_|fail)<;>conv=>whnf)|refine tW ?_ ?_|fail)
     all_goals exact⟨(⟨n.flight,n.cuts.take k++[x]++n.cuts.drop k⟩,true),ok,by show _=AR.tup [.agg [.own 41,.d (.sl ((n.cuts.take k++[x]++n.cuts.drop k).map dJ.ds))],_];first|(rw[eq3];done)|(rw[eq3];rfl),rfl,rfl,trivial⟩
theorem R8(n:ee)(a b:Int)(hn:dT n=true):gU av 198 [.agg (n.ds.map .d),.one (.d (dI a)),.one (.d (dI b))] [] (λy:ee×Bool=>dT y.1=true) [41] XD [] XC:=by
 have hs:=fj hn;have h15:=(dQ hn).2.1;have c1:=g9 n;rw[hn]at c1;have ca:=y8 n a b h15;refine be aM func198 rfl call198 ntmps198 (ace results198) (λ_=>rfl) rfl (λ_=>rfl) λS pv=>?_;conv=>whnf
 repeat'((first|refine awz ?_|refine cP (c1) ?_|refine aaI (l4 n hs) [(41,41)] rfl rfl ?_|fail)<;>conv=>whnf)
 refine aI.q ca rfl λy hy=>?_;rcases hy with⟨rfl,_⟩|⟨k,hk,rfl⟩
 ·(conv=>whnf)
  repeat'(first|refine awz ?_|fail)
  all_goals exact⟨(n,false),hn,rfl,rfl,rfl,trivial⟩
 ·have q:decide ((k:Int)<0)=false:=ah;have e1:List.drop 0 (List.take k (n.cuts.map dJ.ds))=(n.cuts.take k).map dJ.ds:=by simp[List.map_take]
  have e2:List.drop (k+1) (List.take n.cuts.length (n.cuts.map dJ.ds))=(n.cuts.drop (k+1)).map dJ.ds:=by rw[List.take_of_length_le ah,List.map_drop]
  have eq3:(n.cuts.take k++n.cuts.drop (k+1)).map dJ.ds=[]++(n.cuts.take k).map dJ.ds++(n.cuts.drop (k+1)).map dJ.ds:=ah;(conv=>whnf)
  repeat'(first|refine awz ?_|fail)
  (refine aaL aM 7 (tkc [1,2,3,6,7,8] (.three 0 (.two 4 (.two 5 (onc [9,10,11] (.take 12 (.one 13 .done))) 9 (.two 5 (.one 10 (.one 11 (.take 12 (.one 13 .done)))) 10 (.one 5 (.one 11 (.take 12 (.one 13 .done)))))) 9 (.two 4 (.two 5 (.one 10 (.one 11 (.take 12 (.one 13 .done)))) 10 (.one 5 (.one 11 (.take 12 (.one 13 .done))))) 10 (onc [4,5,11] (.take 12 (.one 13 .done))))) 4 (.two 0 (.two 5 (onc [9,10,11] (.take 12 (.one 13 .done))) 9 (.two 5 (.one 10 (.one 11 (.take 12 (.one 13 .done)))) 10 (.one 5 (.one 11 (.take 12 (.one 13 .done)))))) 9 (.two 0 (.two 5 (.one 10 (.one 11 (.take 12 (.one 13 .done)))) 10 (.one 5 (.one 11 (.take 12 (.one 13 .done))))) 10 (onc [0,5,11] (.take 12 (.one 13 .done))))) 9 (.three 0 (.two 4 (.two 5 (.one 10 (.one 11 (.take 12 (.one 13 .done)))) 10 (.one 5 (.one 11 (.take 12 (.one 13 .done))))) 10 (onc [4,5,11] (.take 12 (.one 13 .done)))) 4 (.two 0 (.two 5 (.one 10 (.one 11 (.take 12 (.one 13 .done)))) 10 (.one 5 (.one 11 (.take 12 (.one 13 .done))))) 10 (onc [0,5,11] (.take 12 (.one 13 .done)))) 10 (.two 0 (onc [4,5,11] (.take 12 (.one 13 .done))) 4 (onc [0,5,11] (.take 12 (.one 13 .done))))))) [(3,9980)] xA ae ae ae ae (λRz=>?_);(conv=>whnf);intro bp0 up0;(conv=>whnf))
  repeat'(first|refine awz ?_|(refine⟨0,k,rfl,rfl,Nat.zero_le _,au,?_⟩;conv=>whnf;rw[e1])|(refine⟨k+1,n.cuts.length,rfl,(by simp[zI]),ac,ah,?_⟩;conv=>whnf;rw[e2])|((first|refine aW (by first|(intro y hy;obtain⟨a,_,rfl⟩:=List.mem_map.1 hy;rfl)|(simp;done)) ?_|refine a7 ak ?_|refine aaH ac ac ?_|fail)<;>conv=>whnf)|refine tW ?_ ?_|fail)
  all_goals exact⟨(⟨n.flight,n.cuts.take k++n.cuts.drop (k+1)⟩,true),WL hn k,by show _=AR.tup [.agg [.own 41,.d (.sl ((n.cuts.take k++n.cuts.drop (k+1)).map dJ.ds))],_];first|(rw[eq3];done)|(rw[eq3];rfl),rfl,rfl,trivial⟩
def Gu(l:List Int)(a n:Int):Bool:=aJ a 0 5&&tOk n&&decide (l.getD a.toNat 0+n<=1000000)
theorem nj{l:List Int}(h:cY l=true):l.length=6/\∀x∈l,0<=x/\x<=1000000:=by
 simp only[cY,and_eq_true,decide_eq_true_eq,List.all_eq_true,tOk,aJ]at h;exact h
theorem oQ(l:List Int)(h:cY l=true):aN av 282 [.one (.sl (l.map eI))] (rB true):=by
 obtain⟨h6,hr⟩:=nj h;have q:(((l.map eI).length:Int) !=6)=false:=by simp[h6]
 refine pO func282 call282 ntmps282 results282 λS=>?_;conv=>whnf
 repeat'(first|refine awz ?_|fail)
 refine aaK (λk:Nat=>k<=l.length) (2::3::rg 7 12) (λk=>[(3,vI .i64 (k:Int))]) (λk=>[]) (λk=>l.length-k) 0 (Nat.zero_le _) ?_ aaE (λk hk=>?_)<;>(conv=>whnf)
 ·exact whd
 ·by_cases hlt:k<l.length
  ·have hc:decide ((k:Int)<((l.map eI).length:Int))=true:=al;have ct:=db l[k];rw[show aJ l[k] 0 1000000=true from ia (hr _ (List.getElem_mem hlt))]at ct;repeat'((first|refine awz ?_|refine aaM hlt ?_|refine cP (ct) ?_|refine aaH ac ac ?_|fail)<;>conv=>whnf)
   all_goals
    refine a8.mk ⟨k+1,hlt,ac,?_,aaE⟩;exact hds
  ·have e:k=l.length:=ac;subst e;have hc:decide ((l.length:Int)<((l.map eI).length:Int))=false:=ah;repeat'(first|refine awz ?_|exact rZ|fail)
theorem Sn(l:List Int)(a n:Int)(h:cY l=true)(ht:Gu l a n=false):aN av 193 [.one (.sl (l.map eI)),pI a,pI n] (.tup [.one (.sl (l.map eI)),.one (dB false)]):=by
 obtain⟨h6,hr⟩:=nj h;have c1:=oQ l h;have c2:=AL l ac;have c3:=iE a;have c4:=db n;cases h1:aJ a 0 5 with
 |false=>
  rw[h1]at c3;refine pO func193 call193 ntmps193 results193 λS=>?_;conv=>whnf
  repeat'((first|refine awz ?_|refine cP (c1) ?_|refine cP (c2) ?_|refine cP (c3) ?_|exact rZ|fail)<;>conv=>whnf)
 |true=>
  rw[h1]at c3;cases h2:aJ n 0 1000000 with
  |false=>
   rw[h2]at c4;refine pO func193 call193 ntmps193 results193 λS=>?_;conv=>whnf
   repeat'((first|refine awz ?_|refine cP (c1) ?_|refine cP (c2) ?_|refine cP (c3) ?_|refine cP (c4) ?_|exact rZ|fail)<;>conv=>whnf)
  |true=>
   rw[h2]at c4;simp only[aJ,and_eq_true,decide_eq_true_eq]at h1 h2;obtain⟨k,rfl⟩:∃k:Nat,a=(k:Int):=⟨a.toNat,ac⟩;have hk:k<l.length:=ac;have hx:=hr _ (List.getElem_mem hk);have q:decide (l[k]+n>1000000)=true:=by
    simp only[Gu,aJ,tOk,Bool.and_eq_false_iff,decide_eq_false_iff_not,Int.toNat_natCast,List.getD_eq_getElem?_getD,List.getElem?_eq_getElem hk,Option.getD_some]at ht;simp only[decide_eq_true_eq];omega
   refine pO func193 call193 ntmps193 results193 λS=>?_;conv=>whnf
   repeat'((first|refine awz ?_|refine cP (c1) ?_|refine cP (c2) ?_|refine cP (c3) ?_|refine cP (c4) ?_|refine aaM hk ?_|refine aaH ac ac ?_|exact rZ|fail)<;>conv=>whnf)
theorem Sm(l:List Int)(k:Nat)(n:Int)(h:cY l=true)(ht:Gu l k n=true):dd av 193 [.one (.d (.sl (l.map eI))),.one (.d (dI (k:Int))),.one (.d (dI n))] [] [(42,.row 2 1 ((l.set k (l.getD k 0+n)).map eI))] [] (.tup [.one (.own 42),.one (.d (dB true))]):=by
 obtain⟨h6,hr⟩:=nj h;have hs:l.length<=1048576:=ac;have c1:=oQ l h;have c3:=iE (k:Int);have c4:=db n;simp only[Gu,tOk,and_eq_true,decide_eq_true_eq,Int.toNat_natCast]at ht;obtain⟨⟨h1,h2⟩,h3⟩:=ht;rw[h1]at c3;rw[h2]at c4;simp only[aJ,and_eq_true,decide_eq_true_eq]at h1 h2;have hk:k<l.length:=ac;have hx:=hr _ (List.getElem_mem hk);rw[List.getD_eq_getElem?_getD,List.getElem?_eq_getElem hk,Option.getD_some]at h3⊢;have q:decide (l[k]+n>1000000)=false:=al;have es:(l.set k (l[k]+n)).map eI=(l.map eI).set k (eI (l[k]+n)):=List.map_set ..;rw[es];refine cH aM func193 rfl call193 ntmps193 (ace results193) rfl λS pv=>?_;conv=>whnf
 repeat'((first|refine awz ?_|refine cP (c1) ?_|refine aaI (Ne l hs) [(3,42)] rfl rfl ?_|refine cP (c3) ?_|refine cP (c4) ?_|refine aaM hk ?_|refine aaH ac ac ?_|exact rZ|fail)<;>conv=>whnf)
def Fb(a n:Int):Bool:=aJ a 0 5&&tOk n
theorem Sb(l:List Int)(a n:Int)(h:cY l=true)(ht:Fb a n=false):aN av 194 [.one (.sl (l.map eI)),pI a,pI n] (.tup [.one (.sl (l.map eI)),.one (dB false)]):=by
 obtain⟨h6,hr⟩:=nj h;have c1:=oQ l h;have c2:=AL l ac;have c3:=iE a;have c4:=db n;cases h1:aJ a 0 5 with
 |false=>
  rw[h1]at c3;refine pO func194 call194 ntmps194 results194 λS=>?_;conv=>whnf
  repeat'((first|refine awz ?_|refine cP (c1) ?_|refine cP (c2) ?_|refine cP (c3) ?_|exact rZ|fail)<;>conv=>whnf)
 |true=>
  rw[h1]at c3;have h2:aJ n 0 1000000=false:=by simpa[Fb,h1,tOk]using ht
  rw[h2]at c4;refine pO func194 call194 ntmps194 results194 λS=>?_;conv=>whnf
  repeat'((first|refine awz ?_|refine cP (c1) ?_|refine cP (c2) ?_|refine cP (c3) ?_|refine cP (c4) ?_|exact rZ|fail)<;>conv=>whnf)
theorem Sa(l:List Int)(k:Nat)(n:Int)(h:cY l=true)(ht:Fb k n=true):dd av 194 [.one (.d (.sl (l.map eI))),.one (.d (dI (k:Int))),.one (.d (dI n))] [] [(42,.row 2 1 ((l.set k n).map eI))] [] (.tup [.one (.own 42),.one (.d (dB true))]):=by
 obtain⟨h6,hr⟩:=nj h;have hs:l.length<=1048576:=ac;have c1:=oQ l h;have c3:=iE (k:Int);have c4:=db n;simp only[Fb,tOk,and_eq_true]at ht;obtain⟨h1,h2⟩:=ht;rw[h1]at c3;rw[h2]at c4;simp only[aJ,and_eq_true,decide_eq_true_eq]at h1 h2;have hk:k<l.length:=ac;have es:(l.set k n).map eI=(l.map eI).set k (eI n):=List.map_set ..;rw[es];refine cH aM func194 rfl call194 ntmps194 (ace results194) rfl λS pv=>?_;conv=>whnf
 repeat'((first|refine awz ?_|refine cP (c1) ?_|refine aaI (Ne l hs) [(3,42)] rfl rfl ?_|refine cP (c3) ?_|refine cP (c4) ?_|refine aaM hk ?_|exact rZ|fail)<;>conv=>whnf)
end Go.Proofs.YthgkdhnlehneeaaGreatDoor
