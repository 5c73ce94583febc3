/- KC -/
import Derived.Test.YthgkdhnlehneeaaGreatDoorAvFC
import Derived.Test.YthgkdhnlehneeaaGreatDoorWA4
import Derived.Test.YthgkdhnlehneeaaGreatDoorAvFO
import Derived.Test.YthgkdhnlehneeaaGreatDoorAvDT
import Derived.Test.YthgkdhnlehneeaaGreatDoorAwx
import Derived.Test.YthgkdhnlehneeaaGreatDoorWA1
set_option maxHeartbeats 8000000
set_option linter.unusedVariables false
set_option linter.unusedSimpArgs false
set_option maxRecDepth 100000
open List (length_append length_cons length_nil)
open Bool (and_eq_true)
namespace Go.Proofs.YthgkdhnlehneeaaGreatDoor
section
open Go.ChangeShapes Go.WideShapes Go.RowKit
variable {slot:Int}{s:Int×bf}{l:List (List Int)}{r:List Int}{p:Nat}{d:bD}
def vV(l:List br):List Int:=(l.length:Int)::l.flatMap λp=>[p.key,p.value]
def Cp(l:List bo):List Int:=(l.length:Int)::l.flatMap λj=>[j.id,j.due,j.key,j.value,j.fired]
def cJ(s:bf):List Int:=[s.index,s.time]++(vV s.pairs++(Cp s.jobs++[s.lease.holder,s.lease.epoch,s.lease.til]))
def eY(l:List Int):List br:=(List.range (l.length/2)).map λk=>⟨l.getD (2*k) 0,l.getD (2*k+1) 0⟩
def fZ(l:List Int):List bo:=(List.range (l.length/5)).map λk=>⟨l.getD (5*k) 0,l.getD (5*k+1) 0,l.getD (5*k+2) 0,l.getD (5*k+3) 0,l.getD (5*k+4) 0⟩
theorem Fe(l:List Int):(eY l).length=l.length/2:=by simp[eY]
theorem Rx(l:List Int):(fZ l).length=l.length/5:=by simp[fZ]
theorem vW(l:List br):(l.flatMap λp=>[p.key,p.value]).length=2*l.length:=by
 induction l with
 |nil=>rfl
 |cons p r ih=>simp only[List.flatMap_cons,length_append,ih,length_cons,length_nil];omega
theorem yb(l:List bo):(l.flatMap λj=>[j.id,j.due,j.key,j.value,j.fired]).length=5*l.length:=by
 induction l with
 |nil=>rfl
 |cons p r ih=>simp only[List.flatMap_cons,length_append,ih,length_cons,length_nil];omega
theorem Gs(s:bf):(cJ s).length=7+2*s.pairs.length+5*s.jobs.length:=by
 simp only[cJ,vV,Cp,length_append,length_cons,length_nil,vW,yb];omega
def vP(l:List Int):Bool:=decide (7<=l.length)&&aJ (l.getD 2 0) 0 10&&decide (3+2*l.getD 2 0<l.length)&&aJ (l.getD (3+2*l.getD 2 0).toNat 0) 0 8&&decide (3+2*l.getD 2 0+1+5*l.getD (3+2*l.getD 2 0).toNat 0+3=l.length)
def vQ(l:List Int):bf:=⟨l.getD 0 0,l.getD 1 0,eY ((l.drop 3).take (2*l.getD 2 0).toNat),fZ ((l.drop (3+2*l.getD 2 0).toNat).tail.take (5*l.getD (3+2*l.getD 2 0).toNat 0).toNat),⟨l.getD (l.length-3) 0,l.getD (l.length-2) 0,l.getD (l.length-1) 0⟩⟩
def i7(l:List Int):Option bf:=if vP l&&bB (vQ l)then some (vQ l)else none
theorem Mc{l:List Int}{s:bf}(h:i7 l=some s):bB s=true:=by
 unfold i7 at h;split at h
 ·rename_i hc;injection h with h
  subst h;simp only[and_eq_true]at hc;exact hc.2
 ·cases h
def gm(s:Int×bf):Bool:=aJ s.1 1 1000000000&&bB s.2&&s.2.index !=0
def fe(n:Nat):Nat:=(n+19)/20
def ed(s:Int×bf)(p:Nat):List Int:=[s.1,s.2.index,(p:Int),((cJ s.2).length:Int)]++(((cJ s.2).drop (20*p)).take 20++[s.2.index,s.1])
def bV(s:Int×bf):List (List Int):=if gm s then(List.range (fe (cJ s.2).length)).map λp=>f0 (ed s p)else []
theorem jm{l:List br}(h:bS l=true):l.length<=10:=by
 simp only[bS,and_eq_true,List.all_eq_true]at h;obtain⟨h1,h2⟩:=h;have key:∀(k:Nat) (hk:k<l.length),(k:Int)<=l[k].key:=by
  intro k;induction k with
  |zero=>intro hk;have:=h1 _ (List.getElem_mem hk);simp only[dU,aJ,and_eq_true,decide_eq_true_eq]at this;omega
  |succ k ih=>
   intro hk;have:=jK h2 hk;simp only[gP,decide_eq_true_eq]at this;have:=ih ac;omega
 by_cases hl:l.length<=10
 ·exact hl
 ·have h10:10<l.length:=ac;have:=key 10 h10;have:=h1 _ (List.getElem_mem h10);simp only[dU,aJ,and_eq_true,decide_eq_true_eq]at this;omega
theorem cK{s:bf}(h:bB s=true):(0<=s.index/\s.index<=2000)/\(0<=s.time/\s.time<=1000000)/\bS s.pairs=true/\bO s.jobs=true/\d9 s.lease=true:=by
 simp only[bB,tOk,and_eq_true]at h;refine⟨?_,?_,h.1.1.1.2,h.1.1.2,h.1.2⟩
 ·have:=h.1.1.1.1.1;simp only[aJ,and_eq_true,decide_eq_true_eq]at this;exact this
 ·have:=h.1.1.1.1.2;simp only[aJ,and_eq_true,decide_eq_true_eq]at this;exact this
theorem l7{s:bf}(h:bB s=true):7<=(cJ s).length/\(cJ s).length<=67:=by
 obtain⟨_,_,h3,h4,_⟩:=cK h;have h5:=jm h3;have h6:s.jobs.length<=8:=by simp only[bO,and_eq_true,decide_eq_true_eq]at h4;exact h4.1.1.1
 rw[Gs];omega
theorem Ps{s:bf}(h:bB s=true):∀x∈cJ s,0<=x/\x<=1000000000:=by
 have hm:=l7 h;rw[Gs]at hm;obtain⟨h1,h2,h3,h4,h5⟩:=cK h;intro x hx;simp only[cJ,vV,Cp,List.mem_append,List.mem_cons,List.not_mem_nil,or_false,List.mem_flatMap]at hx;rcases hx with hx|(hx|⟨p,hp,hx⟩)|(hx|⟨j,hj,hx⟩)|hx
 ·omega
 ·omega
 ·simp only[bS,and_eq_true,List.all_eq_true]at h3;have:=h3.1 p hp;simp only[dU,aJ,and_eq_true,decide_eq_true_eq]at this;omega
 ·omega
 ·simp only[bO,and_eq_true,List.all_eq_true]at h4;have:=h4.1.1.2 j hj;simp only[iN,tOk,aJ,and_eq_true,decide_eq_true_eq]at this;omega
 ·simp only[d9,ft,aJ,Bool.or_eq_true,and_eq_true,decide_eq_true_eq,beq_iff_eq]at h5;rcases h5 with h5|h5
  ·rw[h5]at hx;simp at hx;omega
  ·omega
theorem lm(h:gm s=true):(1<=s.1/\s.1<=1000000000)/\bB s.2=true/\s.2.index≠0:=by
 simp only[gm,aJ,and_eq_true,decide_eq_true_eq,bne_iff_ne]at h;exact⟨h.1.1,h.1.2,h.2⟩
theorem wm(hp:p<fe (cJ s.2).length):7<=(ed s p).length/\(ed s p).length<=26:=by
 have h1:20*p<(cJ s.2).length:=by unfold fe at hp;omega
 simp only[ed,length_append,length_cons,length_nil,List.length_take,List.length_drop];omega
theorem yZ(h:gm s=true)(hp:p<fe (cJ s.2).length):bQ (ed s p)=true/\(ed s p).length<48:=by
 obtain⟨h1,h2,h3⟩:=lm h;obtain⟨l1,l2⟩:=wm hp;obtain⟨m1,m2⟩:=l7 h2;have hr:=Ps h2;obtain⟨i1,_⟩:=cK h2;refine⟨qw ⟨ac,λx hx=>?_⟩,ac⟩;have hp':p<67:=by unfold fe at hp;omega
 simp only[ed,List.mem_append,List.mem_cons,List.not_mem_nil,or_false]at hx;rcases hx with hx|hx|hx
 ·omega
 ·exact hr x (List.mem_of_mem_drop (List.mem_of_mem_take hx))
 ·omega
theorem jq(h:gm s=true):(bV s).length=fe (cJ s.2).length/\1<=fe (cJ s.2).length/\fe (cJ s.2).length<=4:=by
 obtain⟨h1,h2,h3⟩:=lm h;obtain⟨m1,m2⟩:=l7 h2;refine⟨by simp[bV,h],?_,?_⟩<;>(unfold fe;omega)
theorem sw(h:gm s=true)(hp:p<(bV s).length):(bV s)[p]=f0 (ed s p):=by
 simp[bV,h]
def Qb:List (List Int)->Option (List Int)
 |[]=>some []
 |r::l=>match lL r with
  |some x=>if 6<=x.length then(Qb l).map λy=>(x.drop 4).take (x.length-6)++y else none
  |none=>none
def eN(rows:List (List Int)):Option (Int×bf):=match Qb rows with
 |some l=>match i7 l with
  |some s=>if bV ((rows.getD 0 []).getD 0 0,s)==rows&& !rows.isEmpty then some ((rows.getD 0 []).getD 0 0,s)else none
  |none=>none
 |none=>none
theorem me{rows:List (List Int)}(h:eN rows=some s):gm s=true/\bV s=rows:=by
 unfold eN at h;split at h
 ·split at h
  ·split at h
   ·rename_i hc;injection h with h
    subst h;simp only[and_eq_true,beq_iff_eq,Bool.not_eq_true']at hc;refine⟨?_,hc.1⟩;cases ho:gm ((rows.getD 0 []).getD 0 0,_)with
    |true=>rfl
    |false=>
     have e:=hc.1;simp only[bV,ho]at e;rw[<-e]at hc;simp at hc
   ·cases h
  ·cases h
 ·cases h
theorem Gb(h:gm s=true)(e:bV s=r::l):4<=r.length/\r.getD 3 0=((cJ s.2).length:Int)/\r.getD 0 0=s.1:=by
 obtain⟨hl,h1,h2⟩:=jq h;have h0:0<(bV s).length:=ac;have:=sw h h0;simp only[e,List.getElem_cons_zero]at this;rw[this];simp[f0,ed]
theorem GT(h:eN (r::l)=some s):4<=r.length/\(7<=r.getD 3 0/\r.getD 3 0<=67)/\l.length+1=fe (r.getD 3 0).toNat:=by
 obtain⟨ho,hr⟩:=me h;obtain⟨f1,f2,_⟩:=Gb ho hr;obtain⟨h1,h2,h3⟩:=lm ho;obtain⟨m1,m2⟩:=l7 h2;have:=(jq ho).1;rw[hr]at this;refine⟨f1,ac,?_⟩;rw[f2];simpa using this
def eV(d:bD)(slot:Int)(n:Nat):List (List Int):=(List.range n).map λi:Nat=>oO d (slot*4+(i:Int))
def qD(d:bD)(slot:Int):List Int:=oO d (slot*4)
def AH(d:bD)(slot:Int):Nat:=fe ((qD d slot).getD 3 0).toNat
def Ga(d:bD)(slot:Int):Bool:=decide (4<=(qD d slot).length)&&aJ ((qD d slot).getD 3 0) 1 80
def od(d:bD)(slot:Int):Option (Int×bf):=if Ga d slot then eN (eV d slot (AH d slot))else none
theorem G9(d:bD)(slot:Int)(n:Nat):∃l,eV d slot (n+1)=qD d slot::l/\l.length=n:=by
 refine⟨(List.range n).map λi=>oO d (slot*4+((i+1:Nat):Int)),?_,by simp⟩;simp only[eV,qD,List.range_succ_eq_map,List.map_cons,List.map_map];congr 1;simp
theorem Ha{n:Nat}(h:eN (eV d slot n)=some s):Ga d slot=true/\n=AH d slot:=by
 cases n with
 |zero=>
  obtain⟨ho,hr⟩:=me h;have:=(jq ho);rw[hr]at this;simp only[eV,List.range_zero,List.map_nil,length_nil]at this;omega
 |succ n=>
  obtain⟨l,e,hl⟩:=G9 d slot n;rw[e]at h;obtain⟨f1,f2,f3⟩:=GT h;refine⟨?_,by unfold AH;omega⟩;simp only[Ga,aJ,and_eq_true,decide_eq_true_eq];omega
def pp(d:bD):Option (Int×bf)×Int:=match od d 0,od d 1 with
 |some a,some b=>if a.1<b.1 then(some b,1)else(some a,0)
 |some a,none=>(some a,0)
 |none,some b=>(some b,1)
 |none,none=>(none,0)
theorem xh(h:od d slot=some s):gm s=true:=by
 unfold od at h;split at h
 ·exact(me h).1
 ·cases h
theorem RF{k:Int}(h:pp d=(some s,k)):gm s=true/\(k=0\/k=1):=by
 unfold pp at h;split at h
 ·rename_i a b ha hb;split at h<;>(injection h with h1 h2;injection h1 with h1;subst h1 h2)
  ·exact⟨xh hb,.inr rfl⟩
  ·exact⟨xh ha,.inl rfl⟩
 ·rename_i a ha hb;injection h with h1 h2;injection h1 with h1;subst h1 h2;exact⟨xh ha,.inl rfl⟩
 ·rename_i b ha hb;injection h with h1 h2;injection h1 with h1;subst h1 h2;exact⟨xh hb,.inr rfl⟩
 ·injection h with h1;cases h1
def AY(k:List (List Int))(slot:Int):Nat->List (List Int)
 |0=>k
 |n+1=>(AY k slot n).set (slot*4+n).toNat []
def AZ(d:bD)(slot:Int):bD:=⟨AY (va d.kept d.wait) slot 4,[]⟩
theorem BQ(k:List (List Int))(slot:Int):∀n,(AY k slot n).length=k.length
 |0=>rfl
 |n+1=>by simp[AY,BQ k slot n]
theorem Ns{k:List (List Int)}(h:∀y∈k,bQ y=true):∀n,∀y∈AY k slot n,bQ y=true
 |0,y,hy=>h y hy
 |n+1,y,hy=>by
  rcases List.mem_or_eq_of_mem_set hy with hy|rfl
  ·exact Ns h n y hy
  ·rfl
theorem A0(h:dw d=true)(slot:Int):dw (AZ d slot)=true:=by
 simp only[dw,and_eq_true,decide_eq_true_eq]at h⊢;obtain⟨f1,f2,f3,f4,f5⟩:=dq (kw h.1);refine⟨kx ⟨?_,?_,by simp[AZ],Ns f4 4,by simp[AZ]⟩,?_⟩<;>simp only[AZ,BQ,iA]<;>omega
def gi (s : bK) : Option bK := if dw s.disk && s.disk.wait.isEmpty then some (match pp s.disk with
 |(some h,k)=>⟨AZ s.disk (1-k),h.2,h.1,h.2.index,0⟩
 |(none,_)=>⟨AZ (AZ s.disk 0) 1,fT,0,0,0⟩)else none
theorem GS{s m:bK}(h:gi s=some m):storeOk m=true:=by
 unfold gi at h;split at h
 ·rename_i hc;simp only[and_eq_true]at hc;injection h with h
  subst h;split
  ·rename_i x k hn;obtain⟨h1,h2⟩:=RF hn;obtain⟨g1,g2,g3⟩:=lm h1;obtain⟨i1,_⟩:=cK g2;simp only[storeOk,A0 hc.1,g2,aJ,and_eq_true,Bool.or_eq_true,decide_eq_true_eq,beq_iff_eq,true_and];refine⟨⟨⟨ac,ac⟩,?_⟩,.inl trivial⟩;have e1:(x.1==0)=false:=al;have e2:(x.2.index==0)=false:=by simpa using g3
   rw[e1,e2]
  ·simp only[storeOk,A0 (A0 hc.1 0) 1,Bool.true_and];rfl
 ·cases h
end
open Go.Proofs.Tryz
open Go.ChangeShapes Go.WideShapes Go.RowKit
theorem F4(l:List Int)(h:bQ l=true):aN av 281 [.one (.sl (l.map eI))] (.val (pI (kM l))):=by
 have hn:(!bQ l)=false:=by rw[h];rfl
 obtain⟨hl,hx⟩:=hH h;refine pO func281 call281 ntmps281 results281 λS=>?_;conv=>whnf
 repeat'(first|refine awz ?_|(refine cP (cM l) ?_;conv=>whnf)|fail)
 refine aaK (λk:Nat=>k<=l.length) (3::4::rg 8 15) (λk=>[(3,vI .i64 (kM (l.take k))),(4,vI .i64 (k:Int))]) (λk=>[]) (λk=>l.length-k) 0 ac ?_ aaE (λk hR=>?_)<;>(conv=>whnf)
 ·exact whd
 ·by_cases hlt:k<l.length
  ·have hr:=AT hx k hR;have hr2:=AT hx (k+1) hlt;have hxk:=hx _ (List.getElem_mem hlt);have hs:=SA hlt;have hc:decide ((k:Int)<((l.map eI).length:Int))=true:=al;unfold xn at hs;repeat'((first|refine awz ?_|refine aaM hlt ?_|refine And.intro ai ?_|refine aaH ac ac ?_|fail)<;>conv=>whnf)
   refine a8.mk ⟨k+1,hlt,ac,?_,aaE⟩;rw[hs];exact hds
  ·have e:k=l.length:=ac;subst e;have hc:decide ((l.length:Int)<((l.map eI).length:Int))=false:=ah;rw[List.take_length];repeat'(first|refine awz ?_|exact rr|fail)
theorem Sq(l:List Int)(hl:l.length<=1048576):dd av 121 [.one (.d (.sl (l.map eI)))] [] [(3,.row 2 1 (l.map eI))] [] (.val (.one (.own 3))):=by
 refine cH aM func121 rfl call121 ntmps121 (ace results121) rfl λS pv=>?_;conv=>whnf
 repeat'((first|refine awz ?_|refine aW (by first|(intro y hy;obtain⟨a,_,rfl⟩:=List.mem_map.1 hy;rfl)|(simp;done)) ?_|refine a7 aq ?_|exact rr|fail)<;>conv=>whnf)
theorem dN(l:List Int)(hl:l.length<=1048576):aN av 121 [.one (.sl (l.map eI))] (.val (.one (.sl (l.map eI)))):=by
 refine pO func121 call121 ntmps121 results121 λS=>?_;conv=>whnf
 repeat'((first|refine awz ?_|refine aW (by first|(intro y hy;obtain⟨a,_,rfl⟩:=List.mem_map.1 hy;rfl)|(simp;done)) ?_|refine a7 aq ?_|fail)<;>conv=>whnf)
 rfl
theorem oc(l:List Int)(h:bQ l=true)(h48:l.length<48):aN av 341 [.one (.sl (l.map eI))] (.val (.one (.sl ((l++[kM l]).map eI)))):=by
 have hn:(!bQ l)=false:=by rw[h];rfl
 have hc:decide ((48:Int)<=((l.map eI).length:Int))=false:=al;refine pO func341 call341 ntmps341 results341 λS=>?_;conv=>whnf
 repeat'((first|refine awz ?_|refine cP (cM l) ?_|refine cP (F4 l h) ?_|refine aaI (Sq l ac) [(3,903)] rfl rfl ?_|refine a7 aq ?_|fail)<;>conv=>whnf)
 all_goals(simp;rfl)
def uA:List (List Nat):=bC [0,1,0,3,0,324,6,7,8,33346,0x289207185103081,0xa2481c61440c204a28b]
def uB:List (List Nat):=bC [0,1,0,3,0,324,6,7,0,9,0,714,12,13,14,968,16,62530,0x49140f38d30b289207185103081,0x124503ce34c2ca2481c61440c2052493]
def xt:List (List Nat):=bC [0,1,0,0,4,323,6,20930,35671935824001,0x81c61440c2048209]
def lE:List (List Nat):=bC [0,1,0,3,0,5,389,138580611463,35671935565890]
def iI:List (List Nat):=dW 7 [2178,2179,2114,2123,80,161,404]
theorem qF(x:bD)(hs:aaY 1048576 x):dd av 175 [.agg (x.ds.map .d)] [] [(23,.row 67 1 (x.kept.map dO)),(49,.row 256 2 (x.wait.map cz.ds))] [] (.val (.agg [.own 23,.own 49])):=by
 obtain⟨h1,h2,h3,h4⟩:=(show x.kept.length<=1048576/\(∀y∈x.kept,y.length<=1048576)/\x.wait.length<=1048576/\(∀y∈x.wait,abg 1048576 y)from hs);refine cH aM func175 rfl call175 ntmps175 (ace results175) rfl λS pv=>?_;conv=>whnf
 repeat'(first|refine awz ?_|fail)
 refine aa1 3 0 23 67 1 ai ?_;conv=>whnf
 repeat'(first|refine awz ?_|fail)
 refine aaK (λk:Nat=>k<=x.kept.length) (4::rg 7 18) (λk=>[(4,vI .i64 (k:Int))]) (λk=>[(9999,.frame (dC []) pv),(1,.cells 30 (x.ds.map .d)),(2,.cells 30 [.nil,.nil]),(3,.cells 30 [.own 23,.nil]),(23,.row 67 1 ((x.kept.take k).map dO))]) (λk=>x.kept.length-k) 0 (Nat.zero_le _) ?_ sbW (λk hk=>?_)<;>(conv=>whnf)
 ·exact whd
 ·repeat'(first|refine awz ?_|refine tW ?_ ?_|(intro h;conv=>whnf))
  ·have hlt:k<x.kept.length:=ari;have hy:=h2 _ (List.getElem_mem hlt);(refine aaL aM 5 (tkc [0,2,3,4,5,6] (.two 1 (onc [7,8,9] (.take 10 (.one 11 .done))) 7 (.two 1 (.one 8 (.one 9 (.take 10 (.one 11 .done)))) 8 (.one 1 (.one 9 (.take 10 (.one 11 .done))))))) [(1,9980)] uA ae ae ae ae (λRz=>?_);(conv=>whnf);intro bp0 up0;(conv=>whnf))
   repeat'((first|refine awz ?_|refine aaM hlt ?_|refine cP (dN x.kept[k] hy) ?_|refine a7 aq ?_|refine aaH ari ari ?_|refine tW ?_ ?_|fail)<;>conv=>whnf)
   all_goals
    refine a8.mk ⟨k+1,hlt,ac,?_,aaC rfl (aaC rfl (aaC rfl (aaC rfl (aaC (congrArg some (congrArg (AO.row 67 1) (ir dO hlt).symm)) aaE))))⟩;exact hds
  ·have e:k=x.kept.length:=ari;subst e;rw[List.take_length];refine aa1 3 1 49 256 2 ai ?_;conv=>whnf
   repeat'(first|refine awz ?_|fail)
   refine aaK (λk:Nat=>k<=x.wait.length) (5::rg 25 26) (λk=>[(5,vI .i64 (k:Int))]) (λk=>[(9999,.frame (dC []) pv),(1,.cells 30 (x.ds.map .d)),(2,.cells 30 [.nil,.nil]),(3,.cells 30 [.own 23,.own 49]),(23,.row 67 1 (x.kept.map dO)),(49,.row 256 2 ((x.wait.take k).map cz.ds))]) (λk=>x.wait.length-k) 0 (Nat.zero_le _) ?_ sbW (λj hj=>?_)<;>(conv=>whnf)
   ·exact whd
   ·repeat'(first|refine awz ?_|refine tW ?_ ?_|(intro h;conv=>whnf))
    ·have hlt:j<x.wait.length:=ari;have hy:x.wait[j].row.length<=1048576:=h4 _ (List.getElem_mem hlt);(refine aaL aM 9 (tkc [0,2,3,4,5,6,7,8,9,10,11,12,13] (.two 1 (onc [14,15,16,17] (.take 18 (.one 19 .done))) 14 (.two 1 (onc [15,16,17] (.take 18 (.one 19 .done))) 15 (.two 1 (.one 16 (.one 17 (.take 18 (.one 19 .done)))) 16 (.one 1 (.one 17 (.take 18 (.one 19 .done)))))))) [(1,9980)] uB ae ae ae ae (λRz=>?_);(conv=>whnf);intro bp0 up0;(conv=>whnf))
     repeat'((first|refine awz ?_|refine aaM hlt ?_|refine cP (dN x.wait[j].row hy) ?_|refine a7 aq ?_|refine aaH ari ari ?_|refine tW ?_ ?_|fail)<;>conv=>whnf)
     all_goals
      refine a8.mk ⟨j+1,hlt,ac,?_,aaC rfl (aaC rfl (aaC rfl (aaC rfl (aaC rfl (aaC (congrArg some (congrArg (AO.row 256 2) (ir cz.ds hlt).symm)) aaE)))))⟩;exact hds
    ·have e:j=x.wait.length:=ari;subst e;rw[List.take_length];repeat'(first|refine awz ?_|exact rr|fail)
theorem AE(d:bD)(a:Int)(r:List Int)(h:cG d=true)(hw:d.wait.length<60)(ha:aJ a 0 ((d.kept.length:Int)-1)=true)(hr:bQ r=true):aN av 342 [.agg d.ds,pI a,.one (.sl (r.map eI))] (.tup [.agg (lx d a r).ds,.one (dB true)]):=by
 have hs:=eF h;have h40:=(dq h).2.1;have h48:=eM hr;have n1:(!cG d)=false:=by rw[h];rfl
 have n2:(!aJ a 0 ((d.kept.length:Int)-1))=false:=by rw[ha];rfl
 have n3:(!bQ r)=false:=by rw[hr];rfl
 have n4:decide ((60:Int)<=((d.wait.map cz.ds).length:Int))=false:=al;refine pO func342 call342 ntmps342 results342 λS=>?_;conv=>whnf
 repeat'((first|refine awz ?_|refine cP (dz d) ?_|refine cP (eT d a h40) ?_|refine cP (cM r) ?_|refine aaI (qF d hs) [(23,923),(49,949)] rfl rfl ?_|fail)<;>conv=>whnf)
 (refine aaL aM 6 (tkc [0,2,3] (.two 1 (onc [4,5,6,7] (.take 8 (.one 9 .done))) 4 (.two 1 (onc [5,6,7] (.take 8 (.one 9 .done))) 5 (.two 1 (.one 6 (.one 7 (.take 8 (.one 9 .done)))) 6 (.one 1 (.one 7 (.take 8 (.one 9 .done)))))))) [] xt ae ae ae ae (λRz=>?_);(conv=>whnf))
 repeat'((first|refine awz ?_|refine cP (dN r ac) ?_|refine a7 aq ?_|refine tW ?_ ?_|fail)<;>conv=>whnf)
 all_goals(simp[lx,bD.ds,cz.ds];done)
theorem St(d:bD)(h:cG d=true):dd av 382 [.agg (d.ds.map .d),.one (.own 1001),.one (.d (dB true))] [(1001,.row 2 1 [])] [(1001,.row 2 1 [])] [] (.val (.agg [.d (.sl ((gZ d).kept.map dO)),.nil])):=by
 have hs:=eF h;obtain⟨h1,h2,h3,h4,h5⟩:=dq h;refine cH aM func382 rfl call382 ntmps382 (ace results382) rfl λS pv=>?_;conv=>whnf
 repeat'(first|refine awz ?_|(refine aaI (qF d hs) [(23,923),(49,949)] rfl rfl ?_;conv=>whnf)|fail)
 refine aaK (λk:Nat=>k<=d.wait.length) (8::9::10::rg 15 51) (λk=>[(8,vI .i64 (k:Int))]) (λk=>[(9999,.frame (dC []) pv),(1001,.row 2 1 []),(3,.cells 30 (d.ds.map .d)),(6,.cells 30 [.nil,.nil]),(7,.cells 30 [.own 923,.nil]),(923,.row 67 1 ((va d.kept (d.wait.take k)).map dO))]) (λk=>d.wait.length-k) 0 (Nat.zero_le _) ?_ sbW (λk hk=>?_)<;>(conv=>whnf)
 ·exact whd
 ·by_cases hlt:k<d.wait.length
  ·have hc:decide ((k:Int)<((d.wait.map cz.ds).length:Int))=true:=al;have hw:=(iF (h5 _ (List.getElem_mem hlt)));have hlen:=iA (d.wait.take k) d.kept;have hsx:=EJ (k:=d.kept) hlt;have h48:=eM hw.2;have hn:decide ((k:Int)<0)=false:=ah;repeat'(first|refine awz ?_|(refine aaM hlt ?_;conv=>whnf)|fail)
   (refine aaJ aM 10 7 lE iI ae ae ae rfl ?_;conv=>whnf)
   repeat'((first|refine awz ?_|refine AIx.int hw.1.1 ac ?_|refine cP (dN d.wait[k].row ac) ?_|fail)<;>conv=>whnf)
   refine aaM ac ?_;conv=>whnf
   repeat'(first|refine awz ?_|(refine aaH ari ari ?_;conv=>whnf)|fail)
   refine a8.mk ⟨k+1,hlt,ac,?_,aaC rfl (aaC rfl (aaC rfl (aaC rfl (aaC rfl (aaC (by rw[hsx,List.map_set];rfl) aaE)))))⟩;exact hds
  ·have e:k=d.wait.length:=ac;subst e;have hc:decide ((d.wait.length:Int)<((d.wait.map cz.ds).length:Int))=false:=ah;rw[List.take_length];repeat'(first|refine awz ?_|exact rr|fail)
   all_goals(first|rfl|exact⟨rfl,whd⟩)
end Go.Proofs.YthgkdhnlehneeaaGreatDoor
