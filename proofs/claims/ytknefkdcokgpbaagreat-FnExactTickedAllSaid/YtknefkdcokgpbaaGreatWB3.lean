/- WB3 -/
import Derived.Test.YtknefkdcokgpbaaGreatAwx
import Derived.Test.YtknefkdcokgpbaaGreatWA4
import Derived.Test.YtknefkdcokgpbaaGreatWG
set_option maxHeartbeats 8000000
set_option linter.unusedVariables false
set_option linter.unusedSimpArgs false
set_option maxRecDepth 100000
open List (length_append length_cons length_nil)
open Bool (and_eq_true or_eq_true)
namespace Go.Proofs.YtknefkdcokgpbaaGreat
section
open Go.Proofs.Tryz
open Go.ChangeShapes Go.WideShapes Go.RowKit
variable {s:DState}
def rc:List (List Nat):=bZ [0,1,0,8259,1060930,84414660,0,7,26666395521543]
def rx:List (List Nat):=fB 8 [5850,5851,5840,5845,5872,5953,728,1457]
theorem FU(h:(aK s.index 0 2000&&tOk s.time&&cM s.pairs&&cW s.jobs&&ii s.lease)=false):cn s=false:=by simp only[cn,h,Bool.false_and]
theorem FV{k:Nat}(hk:k<s.jobs.length)(h:decide (s.jobs[k].fired<=s.index)=false):cn s=false:=by
  have:=pS (p:=λj:DJob=>decide (j.fired<=s.index)) hk h;simp only[cn,this,Bool.and_false]
theorem zE(h:(aK s.index 0 2000&&tOk s.time&&cM s.pairs&&cW s.jobs&&ii s.lease)=true)(hj:s.jobs.all (λj=>decide (j.fired<=s.index))=true):cn s=true:=by simp only[cn,h,hj,Bool.and_self]
theorem MX{l:List DJob}(h:cW l=true):l.length<=8:=by
  simp only[cW,Bool.and_eq_true,decide_eq_true_eq]at h;exact h.1.1.1
theorem ig(s:DState)(hs:s.pairs.length<=9223372036854775806):aM av 371 [.agg s.ds] (rB (cn s)):=by
  refine pO func371 call371 ntmps371 results371 λS=>?_;conv=>whnf
  repeat'((first|refine awz ?_|refine cP (be _ _ _) ?_|refine cP (da _) ?_|refine cP (k9 s.pairs hs) ?_|refine cP (mC s.jobs) ?_|refine cP (BU s.lease) ?_|refine tB ?_ ?_|intro h)<;>conv=>whnf)
  all_goals first
    |(rw[FU (by first|(simp_all[tOk];done)|(exfalso;assumption))];done)
    |skip
  have hyes:(aK s.index 0 2000&&tOk s.time&&cM s.pairs&&cW s.jobs&&ii s.lease)=true:=by simp_all[tOk]
  have h8:s.jobs.length<=8:=MX aq;refine X5 (λk:Nat=>k<=s.jobs.length/\∀(j:Nat) (hj:j<k) (hl:j<s.jobs.length),decide (s.jobs[j].fired<=s.index)=true) (2::4::rg 36 10) (λk=>[(36,vI .i64 (k:Int))]) (λ_=>[(1,.cells 85 (s.ds.map .d))]) (λk=>s.jobs.length-k) 0 ⟨ac,ac⟩ ?_ sbW (λk hR=>?_)<;>(conv=>whnf)
  · exact whd
  · obtain⟨hk,hall⟩:=hR;repeat'((first|refine awz ?_|refine Yc ari (λhlt=>?_)|refine X3 ari ari ?_|refine tB ?_ ?_|intro h)<;>conv=>whnf)
    all_goals first
      |(rw[FV (k:=k) ari ax];done)
      | (refine bd.mk ⟨k + 1, ⟨ari, gq (p := fun j : DJob => decide (j.fired ≤ s.index)) hall ari aq⟩, ari, ?_, sbW⟩
         exact hds)
      |(rw[zE hyes (iG (p:=λj:DJob=>decide (j.fired<=s.index)) hall ari)])
theorem eN(s:DState)(hs:s.pairs.length<=9223372036854775806):aM av 226 [.agg s.ds] (rB (cn s)):=by
  refine pO func226 call226 ntmps226 results226 λS=>?_;conv=>whnf
  repeat'((first|refine awz ?_|refine cP (bg _ _ _) ?_|refine cP (qC _) ?_|refine cP (gy s.pairs) ?_|refine cP (iA s.jobs) ?_|refine cP (iT s.lease) ?_|refine tB ?_ ?_|intro h)<;>conv=>whnf)
  all_goals first
    |(rw[FU (by first|(simp_all[tOk];done)|(exfalso;assumption))];done)
    |skip
  have hyes:(aK s.index 0 2000&&tOk s.time&&cM s.pairs&&cW s.jobs&&ii s.lease)=true:=by simp_all[tOk]
  have h8:s.jobs.length<=8:=MX aq;refine X5 (λk:Nat=>k<=s.jobs.length/\∀(j:Nat) (hj:j<k) (hl:j<s.jobs.length),decide (s.jobs[j].fired<=s.index)=true) (2::3::rg 32 16) (λk=>[(3,vI .i64 (k:Int))]) (λ_=>[(1,.cells 85 (s.ds.map .d))]) (λk=>s.jobs.length-k) 0 ⟨ac,ac⟩ ?_ sbW (λk hR=>?_)<;>(conv=>whnf)
  · exact whd
  · obtain⟨hk,hall⟩:=hR;repeat'((first|refine awz ?_|refine X9 aN 6 8 rc rx ae ae ae rfl ?_|refine Yc ari (λhlt=>?_)|refine X3 ari ari ?_|refine tB ?_ ?_|intro h)<;>conv=>whnf)
    all_goals first
      |(rw[FV (k:=k) ari ax];done)
      | (refine bd.mk ⟨k + 1, ⟨ari, gq (p := fun j : DJob => decide (j.fired ≤ s.index)) hall ari aq⟩, ari, ?_, sbW⟩
         exact hds)
      |(rw[zE hyes (iG (p:=λj:DJob=>decide (j.fired<=s.index)) hall ari)])
theorem wV(a b:List DPair)(ha:a.length<=9223372036854775806)(hb:b.length<=9223372036854775806):aM av 373 [.one (.sl (a.map DPair.ds)),.one (.sl (b.map DPair.ds))] (rB (cM a&&cM b&&decide (a=b))):=by
  refine pO func373 call373 ntmps373 results373 λS=>?_;conv=>whnf
  repeat'((first|refine awz ?_|refine cP (k9 a ha) ?_|refine cP (k9 b hb) ?_|refine cP (Dg a b ha) ?_|refine tB ?_ ?_|intro h)<;>conv=>whnf)
  all_goals
    refine bJ ?_;simp_all
theorem yS(a b:List DJob)(ha:a.length<=9223372036854775806):aM av 374 [.one (.sl (a.map DJob.ds)),.one (.sl (b.map DJob.ds))] (rB (cW a&&cW b&&decide (a=b))):=by
  refine pO func374 call374 ntmps374 results374 λS=>?_;conv=>whnf
  repeat'((first|refine awz ?_|refine cP (mC a) ?_|refine cP (mC b) ?_|refine cP (FP a b ha) ?_|refine tB ?_ ?_|intro h)<;>conv=>whnf)
  all_goals
    refine bJ ?_;simp_all
theorem xq(a b:List DPair)(ha:a.length<=9223372036854775806):aM av 324 [.one (.sl (a.map DPair.ds)),.one (.sl (b.map DPair.ds))] (rB (cM a&&cM b&&decide (a=b))):=by
  refine pO func324 call324 ntmps324 results324 λS=>?_;conv=>whnf
  repeat'((first|refine awz ?_|refine cP (gy a) ?_|refine cP (gy b) ?_|refine tB ?_ ?_|intro h)<;>conv=>whnf)
  · refine bJ ?_;have e:cM a=false:=aq;rw[e];rfl
  · refine bJ ?_;have e:cM b=false:=aq;rw[e,Bool.and_false];rfl
  · rw[mb ap,Bool.and_false]
  · have hlen:a.length=b.length:=ap;have ea:cM a=true:=aq;have eb:cM b=true:=aq;rw[ea,eb];refine X5 (λk:Nat=>k<=a.length/\∀(j:Nat) (hj:j<k) (h1:j<a.length) (h2:j<b.length),a[j]=b[j]) (4::5::rg 21 15) (λk=>[(5,vI .i64 (k:Int))]) (λ_=>[]) (λk=>a.length-k) 0 ⟨ac,ac⟩ ?_ X4 (λk hR=>?_)<;>(conv=>whnf)
    · exact whd
    · obtain⟨hk,hall⟩:=hR;repeat'((first|refine awz ?_|refine X9 aN 6 8 aW aU ae ae ae rfl ?_|refine Yc ari (λhlt=>?_)|refine X3 ari ari ?_|refine YF (qo _ _) rfl rfl rfl rfl rfl ?_|refine tB ?_ ?_|intro h)<;>conv=>whnf)
      all_goals first
        |(rw[qM (k:=k) ari ari (by first|(simpa using h)|(exfalso;assumption)),Bool.and_false];done)
        | (refine bd.mk ⟨k + 1, ⟨ari, jz hall fun h1 h2 => by simpa using h⟩, ari, ?_, X4⟩
           exact hds)
        | (have hkk : k = a.length := ari
           rw[l0 hlen λj h1 h2=>hall j ac h1 h2];rfl)
theorem zw(a b:List DJob)(ha:a.length<=9223372036854775806):aM av 325 [.one (.sl (a.map DJob.ds)),.one (.sl (b.map DJob.ds))] (rB (cW a&&cW b&&decide (a=b))):=by
  refine pO func325 call325 ntmps325 results325 λS=>?_;conv=>whnf
  repeat'((first|refine awz ?_|refine cP (iA a) ?_|refine cP (iA b) ?_|refine tB ?_ ?_|intro h)<;>conv=>whnf)
  · refine bJ ?_;have e:cW a=false:=aq;rw[e];rfl
  · refine bJ ?_;have e:cW b=false:=aq;rw[e,Bool.and_false];rfl
  · rw[mb ap,Bool.and_false]
  · have hlen:a.length=b.length:=ap;have ea:cW a=true:=aq;have eb:cW b=true:=aq;rw[ea,eb];refine X5 (λk:Nat=>k<=a.length/\∀(j:Nat) (hj:j<k) (h1:j<a.length) (h2:j<b.length),a[j]=b[j]) (4::5::rg 21 15) (λk=>[(5,vI .i64 (k:Int))]) (λ_=>[]) (λk=>a.length-k) 0 ⟨ac,ac⟩ ?_ X4 (λk hR=>?_)<;>(conv=>whnf)
    · exact whd
    · obtain⟨hk,hall⟩:=hR;repeat'((first|refine awz ?_|refine X9 aN 6 8 aW aU ae ae ae rfl ?_|refine Yc ari (λhlt=>?_)|refine X3 ari ari ?_|refine YF (ug _ _) rfl rfl rfl rfl rfl ?_|refine tB ?_ ?_|intro h)<;>conv=>whnf)
      all_goals first
        |(rw[qM (k:=k) ari ari (by first|(simpa using h)|(exfalso;assumption)),Bool.and_false];done)
        | (refine bd.mk ⟨k + 1, ⟨ari, jz hall fun h1 h2 => by simpa using h⟩, ari, ?_, X4⟩
           exact hds)
        | (have hkk : k = a.length := ari
           rw[l0 hlen λj h1 h2=>hall j ac h1 h2];rfl)
theorem hC(h:cn s=true):cM s.pairs=true/\cW s.jobs=true:=by
  simp only[cn,Bool.and_eq_true]at h;exact⟨h.1.1.1.2,h.1.1.2⟩
theorem wW(a b:DState)(ha:a.pairs.length<=9223372036854775806)(hb:b.pairs.length<=9223372036854775806)(hj:a.jobs.length<=9223372036854775806):aM av 283 [.agg a.ds,.agg b.ds] (rB (cn a&&cn b&&decide (a=b))):=by
  refine pO func283 call283 ntmps283 results283 λS=>?_;conv=>whnf
  repeat'((first|refine awz ?_|refine cP (ig a ha) ?_|refine cP (ig b hb) ?_|refine cP (wV a.pairs b.pairs ha hb) ?_|refine cP (yS a.jobs b.jobs hj) ?_|refine YF (nK a.lease b.lease) rfl rfl rfl rfl rfl ?_|refine tB ?_ ?_|intro h)<;>conv=>whnf)
  all_goals
    refine bJ ?_;obtain⟨i1,t1,p1,j1,l1⟩:=a;obtain⟨i2,t2,p2,j2,l2⟩:=b;first
      | (have q1 := hC (s := ⟨i1, t1, p1, j1, l1⟩) ai
         have q2:=hC (s:=⟨i2,t2,p2,j2,l2⟩) ai;simp_all[DState.mk.injEq];done)
      | (have q1 := hC (s := ⟨i1, t1, p1, j1, l1⟩) ai
         have q2:=hC (s:=⟨i2,t2,p2,j2,l2⟩) ai;simp_all[DState.mk.injEq];rw[Bool.eq_iff_iff];simp;done)
      |(simp_all[DState.mk.injEq];done)
      |(simp_all[DState.mk.injEq];rw[Bool.eq_iff_iff];simp;done)
theorem xr(a b:DState)(ha:a.pairs.length<=9223372036854775806)(hb:b.pairs.length<=9223372036854775806)(hj:a.jobs.length<=9223372036854775806):aM av 228 [.agg a.ds,.agg b.ds] (rB (cn a&&cn b&&decide (a=b))):=by
  refine pO func228 call228 ntmps228 results228 λS=>?_;conv=>whnf
  repeat'((first|refine awz ?_|refine cP (eN a ha) ?_|refine cP (eN b hb) ?_|refine cP (xq a.pairs b.pairs ha) ?_|refine cP (zw a.jobs b.jobs hj) ?_|refine YF (nK a.lease b.lease) rfl rfl rfl rfl rfl ?_|refine tB ?_ ?_|intro h)<;>conv=>whnf)
  all_goals
    refine bJ ?_;obtain⟨i1,t1,p1,j1,l1⟩:=a;obtain⟨i2,t2,p2,j2,l2⟩:=b;first
      | (have q1 := hC (s := ⟨i1, t1, p1, j1, l1⟩) ai
         have q2:=hC (s:=⟨i2,t2,p2,j2,l2⟩) ai;simp_all[DState.mk.injEq];done)
      | (have q1 := hC (s := ⟨i1, t1, p1, j1, l1⟩) ai
         have q2:=hC (s:=⟨i2,t2,p2,j2,l2⟩) ai;simp_all[DState.mk.injEq];rw[Bool.eq_iff_iff];simp;done)
      |(simp_all[DState.mk.injEq];done)
      |(simp_all[DState.mk.injEq];rw[Bool.eq_iff_iff];simp;done)
theorem zu:aM av 229 [] (.val (.agg gV.ds)):=by
  refine pO func229 call229 ntmps229 results229 λS=>?_;conv=>whnf
  repeat'(first|refine awz ?_|fail)
  all_goals rfl
theorem FY{s:DStore}{b:Bool}(h:(dg s.disk&&cn s.state&&aK s.num 0 1000000000&&aK s.last 0 s.state.index&&((s.num==0)==(s.last==0))&&(s.busy==0||(decide (s.num<1000000000)&&decide (s.last<s.busy)&&decide (s.busy<=s.state.index))))=b):b=storeOk s:=h.symm
theorem mZ(s:DStore)(hs:s.state.pairs.length<=9223372036854775806):aM av 281 [.agg s.ds] (rB (storeOk s)):=by
  refine pO func281 call281 ntmps281 results281 λS=>?_;conv=>whnf
  repeat'((first|refine awz ?_|refine cP (qc s.disk) ?_|refine cP (ig s.state hs) ?_|refine cP (be _ _ _) ?_|refine tB ?_ ?_|intro h)<;>conv=>whnf)
  all_goals
    refine bJ (FY ?_);first
      |(simp_all;done)
      |(simp_all;omega)
theorem nw(s:DStore)(hs:s.state.pairs.length<=9223372036854775806):aM av 135 [.agg s.ds] (rB (storeOk s)):=by
  refine pO func135 call135 ntmps135 results135 λS=>?_;conv=>whnf
  repeat'((first|refine awz ?_|refine X3 (by simp_all[aK,cn];omega) (by simp_all[aK,cn];omega) ?_|refine cP (nv s.disk) ?_|refine cP (eN s.state hs) ?_|refine cP (bg _ _ _) ?_|refine tB ?_ ?_|intro h)<;>conv=>whnf)
  all_goals
    refine bJ (FY ?_);first
      |(simp_all;done)
      |(simp_all;omega)
      |(simp_all[aK];rw[Bool.eq_iff_iff];simp;omega)
end
section
open Go.ChangeShapes Go.WideShapes Go.RowKit
variable {s:Int×DState}{l:List (List Int)}{r:List Int}{p:Nat}
def jk(l:List DPair):List Int:=(l.length:Int)::l.flatMap λp=>[p.key,p.value]
def m9(l:List DJob):List Int:=(l.length:Int)::l.flatMap λj=>[j.id,j.due,j.key,j.value,j.fired]
def bH(s:DState):List Int:=[s.index,s.time]++(jk s.pairs++(m9 s.jobs++[s.lease.holder,s.lease.epoch,s.lease.til]))
def di(l:List Int):List DPair:=(List.range (l.length/2)).map λk=>⟨l.getD (2*k) 0,l.getD (2*k+1) 0⟩
def d4(l:List Int):List DJob:=(List.range (l.length/5)).map λk=>⟨l.getD (5*k) 0,l.getD (5*k+1) 0,l.getD (5*k+2) 0,l.getD (5*k+3) 0,l.getD (5*k+4) 0⟩
theorem qi(l:List Int):(di l).length=l.length/2:=by simp[di]
theorem Fe(l:List Int):(d4 l).length=l.length/5:=by simp[d4]
theorem np(l:List DPair):(l.flatMap λp=>[p.key,p.value]).length=2*l.length:=by
 induction l with
 |nil=>rfl
 |cons p r ih=>simp only[List.flatMap_cons,length_append,ih,length_cons,length_nil];omega
theorem oC(l:List DJob):(l.flatMap λj=>[j.id,j.due,j.key,j.value,j.fired]).length=5*l.length:=by
 induction l with
 |nil=>rfl
 |cons p r ih=>simp only[List.flatMap_cons,length_append,ih,length_cons,length_nil];omega
theorem Dn(s:DState):(bH s).length=7+2*s.pairs.length+5*s.jobs.length:=by
 simp only[bH,jk,m9,length_append,length_cons,length_nil,np,oC];omega
def qt(l:List Int):Bool:=decide (7<=l.length)&&aK (l.getD 2 0) 0 10&&decide (3+2*l.getD 2 0<l.length)&&aK (l.getD (3+2*l.getD 2 0).toNat 0) 0 8&&decide (3+2*l.getD 2 0+1+5*l.getD (3+2*l.getD 2 0).toNat 0+3=l.length)
def oD(l:List Int):DState:=⟨l.getD 0 0,l.getD 1 0,di ((l.drop 3).take (2*l.getD 2 0).toNat),d4 ((l.drop (3+2*l.getD 2 0).toNat).tail.take (5*l.getD (3+2*l.getD 2 0).toNat 0).toNat),⟨l.getD (l.length-3) 0,l.getD (l.length-2) 0,l.getD (l.length-1) 0⟩⟩
def fG(l:List Int):Option DState:=if qt l&&cn (oD l)then some (oD l)else none
theorem zc{l:List Int}{s:DState}(h:fG l=some s):cn s=true:=by
 unfold fG at h;split at h
 ·rename_i hc;injection h with h
  subst h;simp only[and_eq_true]at hc;exact hc.2
 ·cases h
def eO(s:Int×DState):Bool:=aK s.1 1 1000000000&&cn s.2&&s.2.index !=0
def cA(n:Nat):Nat:=(n+19)/20
def dh(s:Int×DState)(p:Nat):List Int:=[s.1,s.2.index,(p:Int),((bH s.2).length:Int)]++(((bH s.2).drop (20*p)).take 20++[s.2.index,s.1])
def aV(s:Int×DState):List (List Int):=if eO s then(List.range (cA (bH s.2).length)).map λp=>iL (dh s p)else []
theorem jY{l:List DPair}(h:cM l=true):l.length<=10:=by
 simp only[cM,and_eq_true,List.all_eq_true]at h;obtain⟨h1,h2⟩:=h;have key:∀(k:Nat) (hk:k<l.length),(k:Int)<=l[k].key:=by
  intro k;induction k with
  |zero=>intro hk;have:=h1 _ (List.getElem_mem hk);simp only[fx,aK,and_eq_true,decide_eq_true_eq]at this;omega
  |succ k ih=>
   intro hk;have:=j8 h2 hk;simp only[jG,decide_eq_true_eq]at this;have:=ih ac;omega
 by_cases hl:l.length<=10
 ·exact hl
 ·have h10:10<l.length:=ac;have:=key 10 h10;have:=h1 _ (List.getElem_mem h10);simp only[fx,aK,and_eq_true,decide_eq_true_eq]at this;omega
theorem dm{s:DState}(h:cn s=true):(0<=s.index/\s.index<=2000)/\(0<=s.time/\s.time<=1000000)/\cM s.pairs=true/\cW s.jobs=true/\ii s.lease=true:=by
 simp only[cn,tOk,and_eq_true]at h;refine⟨?_,?_,h.1.1.1.2,h.1.1.2,h.1.2⟩
 ·have:=h.1.1.1.1.1;simp only[aK,and_eq_true,decide_eq_true_eq]at this;exact this
 ·have:=h.1.1.1.1.2;simp only[aK,and_eq_true,decide_eq_true_eq]at this;exact this
theorem jH{s:DState}(h:cn s=true):7<=(bH s).length/\(bH s).length<=67:=by
 obtain⟨_,_,h3,h4,_⟩:=dm h;have h5:=jY h3;have h6:s.jobs.length<=8:=by simp only[cW,and_eq_true,decide_eq_true_eq]at h4;exact h4.1.1.1
 rw[Dn];omega
theorem Mp{s:DState}(h:cn s=true):∀x∈bH s,0<=x/\x<=1000000000:=by
 have hm:=jH h;rw[Dn]at hm;obtain⟨h1,h2,h3,h4,h5⟩:=dm h;intro x hx;simp only[bH,jk,m9,List.mem_append,List.mem_cons,List.not_mem_nil,or_false,List.mem_flatMap]at hx;rcases hx with hx|(hx|⟨p,hp,hx⟩)|(hx|⟨j,hj,hx⟩)|hx
 ·omega
 ·omega
 ·simp only[cM,and_eq_true,List.all_eq_true]at h3;have:=h3.1 p hp;simp only[fx,aK,and_eq_true,decide_eq_true_eq]at this;omega
 ·omega
 ·simp only[cW,and_eq_true,List.all_eq_true]at h4;have:=h4.1.1.2 j hj;simp only[m8,tOk,aK,and_eq_true,decide_eq_true_eq]at this;omega
 ·simp only[ii,d8,aK,Bool.or_eq_true,and_eq_true,decide_eq_true_eq,beq_iff_eq]at h5;rcases h5 with h5|h5
  ·rw[h5]at hx;simp at hx;omega
  ·omega
theorem kD(h:eO s=true):(1<=s.1/\s.1<=1000000000)/\cn s.2=true/\s.2.index≠0:=by
 simp only[eO,aK,and_eq_true,decide_eq_true_eq,bne_iff_ne]at h;exact⟨h.1.1,h.1.2,h.2⟩
theorem tz(hp:p<cA (bH s.2).length):7<=(dh s p).length/\(dh s p).length<=26:=by
 have h1:20*p<(bH s.2).length:=by unfold cA at hp;omega
 simp only[dh,length_append,length_cons,length_nil,List.length_take,List.length_drop];omega
theorem nA(h:eO s=true)(hp:p<cA (bH s.2).length):cE (dh s p)=true/\(dh s p).length<48:=by
 obtain⟨h1,h2,h3⟩:=kD h;obtain⟨l1,l2⟩:=tz hp;obtain⟨m1,m2⟩:=jH h2;have hr:=Mp h2;obtain⟨i1,_⟩:=dm h2;refine⟨CP ⟨ac,λx hx=>?_⟩,ac⟩;have hp':p<67:=by unfold cA at hp;omega
 simp only[dh,List.mem_append,List.mem_cons,List.not_mem_nil,or_false]at hx;rcases hx with hx|hx|hx
 ·omega
 ·exact hr x (List.mem_of_mem_drop (List.mem_of_mem_take hx))
 ·omega
theorem eR(h:eO s=true):(aV s).length=cA (bH s.2).length/\1<=cA (bH s.2).length/\cA (bH s.2).length<=4:=by
 obtain⟨h1,h2,h3⟩:=kD h;obtain⟨m1,m2⟩:=jH h2;refine⟨by simp[aV,h],?_,?_⟩<;>(unfold cA;omega)
theorem qA(h:eO s=true)(hp:p<(aV s).length):(aV s)[p]=iL (dh s p):=by
 simp[aV,h]
def gO:List (List Int)->Option (List Int)
 |[]=>some []
 |r::l=>match iW r with
  |some x=>if 6<=x.length then(gO l).map λy=>(x.drop 4).take (x.length-6)++y else none
  |none=>none
def cF(rows:List (List Int)):Option (Int×DState):=match gO rows with
 |some l=>match fG l with
  |some s=>if aV ((rows.getD 0 []).getD 0 0,s)==rows&& !rows.isEmpty then some ((rows.getD 0 []).getD 0 0,s)else none
  |none=>none
 |none=>none
theorem oF{rows:List (List Int)}(h:cF rows=some s):eO s=true/\aV s=rows:=by
 unfold cF at h;split at h
 ·split at h
  ·split at h
   ·rename_i hc;injection h with h
    subst h;simp only[and_eq_true,beq_iff_eq,Bool.not_eq_true']at hc;refine⟨?_,hc.1⟩;cases ho:eO ((rows.getD 0 []).getD 0 0,_)with
    |true=>rfl
    |false=>
     have e:=hc.1;simp only[aV,ho]at e;rw[<-e]at hc;simp at hc
   ·cases h
  ·cases h
 ·cases h
theorem C4(h:eO s=true)(e:aV s=r::l):4<=r.length/\r.getD 3 0=((bH s.2).length:Int)/\r.getD 0 0=s.1:=by
 obtain⟨hl,h1,h2⟩:=eR h;have h0:0<(aV s).length:=ac;have:=qA h h0;simp only[e,List.getElem_cons_zero]at this;rw[this];simp[iL,dh]
theorem DR(h:cF (r::l)=some s):4<=r.length/\(7<=r.getD 3 0/\r.getD 3 0<=67)/\l.length+1=cA (r.getD 3 0).toNat:=by
 obtain⟨ho,hr⟩:=oF h;obtain⟨f1,f2,_⟩:=C4 ho hr;obtain⟨h1,h2,h3⟩:=kD ho;obtain⟨m1,m2⟩:=jH h2;have:=(eR ho).1;rw[hr]at this;refine⟨f1,ac,?_⟩;rw[f2];simpa using this
def dr(d:DDisk)(slot:Int)(n:Nat):List (List Int):=(List.range n).map λi:Nat=>pn d (slot*4+(i:Int))
def mJ(d:DDisk)(slot:Int):List Int:=pn d (slot*4)
def fa(d:DDisk)(slot:Int):Nat:=cA ((mJ d slot).getD 3 0).toNat
def py(d:DDisk)(slot:Int):Bool:=decide (4<=(mJ d slot).length)&&aK ((mJ d slot).getD 3 0) 1 80
def im(d:DDisk)(slot:Int):Option (Int×DState):=if py d slot then cF (dr d slot (fa d slot))else none
theorem D1(d:DDisk)(slot:Int)(n:Nat):∃l,dr d slot (n+1)=mJ d slot::l/\l.length=n:=by
 refine⟨(List.range n).map λi=>pn d (slot*4+((i+1:Nat):Int)),?_,by simp⟩;simp only[dr,mJ,List.range_succ_eq_map,List.map_cons,List.map_map];congr 1;simp
theorem D2{d:DDisk}{slot:Int}{n:Nat}(h:cF (dr d slot n)=some s):py d slot=true/\n=fa d slot:=by
 cases n with
 |zero=>
  obtain⟨ho,hr⟩:=oF h;have:=(eR ho);rw[hr]at this;simp only[dr,List.range_zero,List.map_nil,length_nil]at this;omega
 |succ n=>
  obtain⟨l,e,hl⟩:=D1 d slot n;rw[e]at h;obtain⟨f1,f2,f3⟩:=DR h;refine⟨?_,by unfold fa;omega⟩;simp only[py,aK,and_eq_true,decide_eq_true_eq];omega
def eX(d:DDisk):Option (Int×DState)×Int:=match im d 0,im d 1 with
 |some a,some b=>if a.1<b.1 then(some b,1)else(some a,0)
 |some a,none=>(some a,0)
 |none,some b=>(some b,1)
 |none,none=>(none,0)
end
section
open Go.ChangeShapes Go.WideShapes Go.RowKit
section
variable {α:Type} {Q:α->α->Bool}
theorem Fm(tr:∀x y z,Q x y=true->Q y z=true->Q x z=true):∀{l:List α},jh Q l=true->l.Pairwise λx y=>Q x y=true
 |[],_=> .nil
 |[x],_=>by simp
 |x::y::r,h=>by
  simp only[jh,Bool.and_eq_true]at h;have ih:=Fm tr (l:=y::r) h.2;refine List.pairwise_cons.2 ⟨λz hz=>?_,ih⟩;rcases List.mem_cons.1 hz with rfl|hz
  ·exact h.1
  ·exact tr x y z h.1 ((List.pairwise_cons.1 ih).1 z hz)
end
theorem lL{n:DNet}(h:fd n=true):n.flight.length<=60/\n.cuts.length<=15/\(∀m∈n.flight,fM m=true)/\(∀x∈n.cuts,eW x=true)/\jh ju n.cuts=true:=by
 simp only[fd,Bool.and_eq_true,decide_eq_true_eq,List.all_eq_true]at h;exact⟨h.1.1.1.1,h.1.1.1.2,h.1.1.2,h.1.2,h.2⟩
theorem QC{n:DNet}(h:n.flight.length<=60/\n.cuts.length<=15/\(∀m∈n.flight,fM m=true)/\(∀x∈n.cuts,eW x=true)/\jh ju n.cuts=true):fd n=true:=by
 simp only[fd,Bool.and_eq_true,decide_eq_true_eq,List.all_eq_true];exact⟨⟨⟨⟨h.1,h.2.1⟩,h.2.2.1⟩,h.2.2.2.1⟩,h.2.2.2.2⟩
theorem Ub{n:DNet}{m:DMsg}(h:fd n=true)(hm:fM m=true)(hl:n.flight.length≠60):fd ⟨n.flight++[m],n.cuts⟩=true:=by
 obtain⟨h1,h2,h3,h4,h5⟩:=lL h;refine QC ⟨by simp;omega,h2,λx hx=>?_,h4,h5⟩;rcases List.mem_append.1 hx with hx|hx
 ·exact h3 x hx
 ·rw[List.mem_singleton.1 hx];exact hm
end
section
open Go.ChangeShapes Go.WideShapes Go.RowKit
variable {c:DClient}{d:DDisk}{s:DStore}
structure KJ (c:DClient):Prop where
 id:c.id=4\/c.id=5
 todo:∀x∈c.todo,iC x=true
 len:c.todo.length<=12
 gl:c.gots.length<=c.todo.length
 got:∀k,k<c.gots.length->u9 (c.todo.getD k ⟨0,op0,0⟩) (c.gots.getD k ⟨0,0,0,0⟩) ((k:Int)+1) (ne c.gots k)=true
 last:c.last=ne c.gots c.gots.length
theorem PK(h:dp c=true):KJ c:=by
 simp only[dp,and_eq_true,decide_eq_true_eq,or_eq_true,beq_iff_eq,List.all_eq_true]at h;exact⟨h.1.1.1.1.1,h.1.1.1.1.2,h.1.1.1.2,h.1.1.2,λk hk=>PF h.1.2 hk,h.2⟩
theorem KJ.ok(h:KJ c):dp c=true:=by
 simp only[dp,and_eq_true,decide_eq_true_eq,or_eq_true,beq_iff_eq,List.all_eq_true];exact⟨⟨⟨⟨⟨h.id,h.todo⟩,h.len⟩,h.gl⟩,Ik h.got⟩,h.last⟩
structure Ak (s:DSched):Prop where
 id:s.id=2\/s.id=3
 seq:0<=s.seq/\s.seq<=2000
 jobs:eE s.view.jobs=true
 index:0<=s.index/\s.index<=2000
 idle:s.busy=false->s.op=op0
 busy:s.busy=true->s.seq≠0/\v7 s.op=true/\(s.op.kind=4\/s.op.kind=5)
theorem CZ{s:DSched}(h:d9 s=true):Ak s:=by
 simp only[d9,d8,aK,and_eq_true,decide_eq_true_eq,or_eq_true,beq_iff_eq]at h;refine⟨h.1.1.1.1,h.1.1.1.2,h.1.1.2,h.1.2,λhb=>?_,λhb=>?_⟩
 ·have:=h.2;rw[hb]at this;simpa using this
 ·have:=h.2;rw[hb]at this;simp at this;exact⟨this.1.1,this.1.2,this.2⟩
theorem Ak.ok{s:DSched}(h:Ak s):d9 s=true:=by
 simp only[d9,d8,aK,and_eq_true,decide_eq_true_eq,or_eq_true,beq_iff_eq];refine⟨⟨⟨⟨h.id,h.seq⟩,h.jobs⟩,h.index⟩,?_⟩;cases hb:s.busy with
 |false=>simpa using h.idle hb
 |true=>
  have:=h.busy hb;simpa using⟨⟨this.1,this.2.1⟩,this.2.2⟩
structure Al (s:DStore):Prop where
 disk:dg s.disk=true
 state:cn s.state=true
 num:0<=s.num/\s.num<=1000000000
 last:0<=s.last/\s.last<=s.state.index
 zero:s.num=0↔s.last=0
 busy:s.busy=0\/(s.num<1000000000/\s.last<s.busy/\s.busy<=s.state.index)
theorem zS(h:storeOk s=true):Al s:=by
 simp only[storeOk,aK,and_eq_true,decide_eq_true_eq,or_eq_true,beq_iff_eq]at h;refine⟨h.1.1.1.1.1,h.1.1.1.1.2,h.1.1.1.2,h.1.1.2,?_,?_⟩
 ·have:=h.1.2;rw[Bool.eq_iff_iff]at this;simpa using this
 ·have:=h.2;omega
theorem Al.ok(h:Al s):storeOk s=true:=by
 simp only[storeOk,aK,and_eq_true,decide_eq_true_eq,or_eq_true,beq_iff_eq];refine⟨⟨⟨⟨⟨h.disk,h.state⟩,h.num⟩,h.last⟩,?_⟩,?_⟩
 ·rw[Bool.eq_iff_iff];simpa using h.zero
 ·have:=h.busy;omega
theorem PG(h:Al s)(hd:dg d=true)(hb:s.busy=0)(hg:s.last+4<=s.state.index)(hn:s.num<1000000000):Al {s with disk:=d,busy:=s.state.index}:=
 ⟨hd,h.state,h.num,h.last,h.zero,.inr ⟨hn,by show s.last<s.state.index;omega,Int.le_refl _⟩⟩
theorem HO(h:dg d=true):dg (lE d)=true:=by
 simp only[dg,and_eq_true,decide_eq_true_eq]at h⊢;exact⟨sB h.1,by rw[lE,i6];exact h.2⟩
theorem OQ(h:Al s)(hb:s.busy≠0):Al {s with disk:=lE s.disk,num:=s.num+1,last:=s.busy,busy:=0}:=by
 have h1:=h.num;have h2:=h.last;have h3:=h.busy.resolve_left hb;exact⟨HO h.disk,h.state,by show 0<=s.num+1/\s.num+1<=1000000000;omega,by show 0<=s.busy/\s.busy<=s.state.index;omega,by show s.num+1=0↔s.busy=0;omega,.inl rfl⟩
theorem DY{a:Int}{r:List Int}(h:dg d=true)(hw:d.wait.length<60)(ha:0<=a/\a<=7)(hr:cE r=true):dg (nG d a r)=true:=by
 simp only[dg,and_eq_true,decide_eq_true_eq]at h⊢;exact⟨GO h.1 hw (by simp[aK];omega) hr,h.2⟩
end
end Go.Proofs.YtknefkdcokgpbaaGreat
