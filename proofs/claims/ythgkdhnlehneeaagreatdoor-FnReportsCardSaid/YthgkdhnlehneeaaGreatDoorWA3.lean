/- WA3 -/
import Derived.Test.YthgkdhnlehneeaaGreatDoorAwx
import Derived.Test.YthgkdhnlehneeaaGreatDoorWA1
set_option maxHeartbeats 8000000
set_option linter.unusedVariables false
set_option linter.unusedSimpArgs false
set_option maxRecDepth 100000
open List (all_eq_true filter_cons filter_sublist find?_cons find?_eq_none foldl_cons mem_cons mem_filter pairwise_cons)
open Bool (and_eq_true)
namespace Go.Proofs.YthgkdhnlehneeaaGreatDoor
section
open Go.Proofs.Tryz
open Go.ChangeShapes Go.WideShapes Go.RowKit
def uW:List (List Nat):=bC [0,1,129,12354,12354,1318979,4328796549,486506500228,35461415067975,12354,2629699,0x91c51830421082ca,0xc108c28b2041851c9]
def vm:List (List Nat):=dW 11 [0,1,4,158125,157531,157612,157828,158557,160744,19669,39352]
theorem wW{n:Int}(h1: -9223372036854775808<=n)(h2:n<=9223372036854775807):(Lit.int .i64 n).wf=true:=by
  simp[Lit.wf,IntKind.min,IntKind.max,IntKind.signed,IntKind.bits];omega
theorem GB{n lo hi:Int}(h:(!aJ n lo hi)=false)(h1: -9223372036854775808<=lo)(h2:hi<=9223372036854775807):(Lit.int .i64 n).wf=true:=by
  have:aJ n lo hi=true:=by simpa using h
  simp only[aJ,Bool.and_eq_true,decide_eq_true_eq]at this;exact wW ac ac
theorem Nu(w:World):(zeroValue 4).run Tryz.prog w= .ok (.bool false) w:=by kernel_rfl
def lN(l:List Int)(x:Int):Option Value:=if x∈l then some (.bool true)else none
theorem SH:lN []=λ_=>none:=by funext x;simp[lN]
theorem PB(l:List Int)(n:Int):uf (lN l) n (some (.bool true))=lN (l++[n]):=by
  funext x;unfold uf lN;by_cases h:x=n
  · simp[h]
  · simp[h]
theorem Jc(l:List Int)(n:Int):(lN l n).getD (.bool false)= .bool (decide (n∈l)):=by
  unfold lN;by_cases h:n∈l<;>simp[h]
section
variable {S:bZ} {o:Oper} {st:ASt} {K:ASt->Prop}
theorem abl{t:TypeId}{d:Tmp}(ho:o.op= .makeMap t none)(hd:o.dst=some d)(hk:C8 st d (ji Tryz.prog 2 0 (lN [])) λst=>fa st (some d) (.one (.own d)) K):AOp av S o st K:=
  AOp.makeMap 2 ho hd (by rw[SH]at hk;exact hk)
theorem abk{x i:Operand}{id:Nat}{n:Int}{N:Nat}{l:List Int}(ho:o.op= .lookup 399 x i false)(hx:aEv st x λv=>v= .one (.own id))(hi:aEv st i λv=>v=vI .i64 n)(hob:aOb st.ob id λo=>o=ji Tryz.prog 2 N (lN l))(hn:(Lit.int .i64 n).wf=true)
    (hK:fa st o.dst (vB (decide (n∈l))) K):AOp av S o st K:=
  abE (E:=av) ho underlying399 underlying2 Nu hx hi hob hn (vB (decide (n∈l))) (λZ w ρ=>by rw[Jc];exact cQ rfl) hK
theorem abt{K:AV->Prop}{x i:Operand}{id:Nat}{n:Int}{N:Nat}{l:List Int}(ho:o.op= .lookup 399 x i false)(hx:aEv st x λv=>v= .one (.own id))(hi:aEv st i λv=>v=vI .i64 n)(hob:aOb st.ob id λo=>o=ji Tryz.prog 2 N (lN l))(hn:(Lit.int .i64 n).wf=true)
    (hK:K (vB (decide (n∈l)))):nC av o st K:=
  ab5 (E:=av) ho underlying399 underlying2 Nu hx hi hob hn (vB (decide (n∈l))) (λZ w ρ=>by rw[Jc];exact cQ rfl) hK
theorem abq{x i:Operand}{id:Nat}{n:Int}{N:Nat}{l:List Int}(ho:o.op= .mapUpdate 399 x i (.const (.bool true)))(hN:N<9223372036854775807)(hx:aEv st x λv=>v= .one (.own id))(hi:aEv st i λv=>v=vI .i64 n)(hob:aOb st.ob id λo=>o=ji Tryz.prog 2 N (lN l))(hn:(Lit.int .i64 n).wf=true)
    (hK:ju id (ji Tryz.prog 2 (N+1) (lN (l++[n]))) st.ob λob=>fa ⟨st.tm,ob⟩ o.dst (.one .und) K):AOp av S o st K:=by
  refine abF (E:=av) (u:= .bool true) ho underlying399 underlying2 hN hx hi hob hn (show∀Z w ρ y,cu Z w ρ (vB true) y->y= .bool true from λZ w ρ y h=>cF h) ?_;rw[PB];exact hK
end
theorem Uv{s:List aT}{k:Nat}(hlt:k<s.length):((s.take k).map (·.index))++[s[k].index]=(s.take (k+1)).map (·.index):=(ir (λm:aT=>m.index) hlt).symm
theorem AF{s:List aT}{k:Nat}(hk:k<s.length)(h:cC fq j8 s k hk=false):seenOk s=false:=by
  have:=pQ hk h;simp only[seenOk,this,Bool.false_and]
theorem F7{s:List aT}{j k:Nat}(hj:j<k)(hk:k<s.length)(h:(s[j]'(ac)).index=s[k].index):seenOk s=false:=by
  have:=uM (R:=rM) hj hk (by simp[rM,h]);simp only[seenOk,this,Bool.and_false]
theorem M7{s:List aT}{k:Nat}(hk:k<s.length)(h:decide (s[k].index∈(s.take k).map (·.index))=true):seenOk s=false:=by
  obtain⟨m,hm,e⟩:=List.mem_map.1 (of_decide_eq_true h);obtain⟨j,hj,rfl⟩:=List.getElem_of_mem hm;simp at hj e;exact F7 (j:=j) ac hk e
theorem F8{s:List aT}(h:∀(j:Nat) (hl:j<s.length),cC fq j8 s j hl=true)(hd:∀(i j:Nat) (hi:i<j) (hl:j<s.length),(s[i]'(ac)).index≠s[j].index):seenOk s=true:=by
  have h1:=HL h;have h2:=mY (R:=rM) (l:=s) λi j hi hl=>by simpa[rM]using hd i j hi hl
  simp only[seenOk,h1,h2,Bool.and_self]
theorem VP{s:List aT}{k:Nat}(hk:k<s.length)(h:decide (s[k].index∈(s.take k).map (·.index))=false){i:Nat}(hi:i<k):(s[i]'(ac)).index≠s[k].index:=by
  have:=of_decide_eq_false h;intro e;refine this (List.mem_map.2 ⟨s[i],?_,e⟩);rw[List.mem_take_iff_getElem];exact⟨i,ac,rfl⟩
theorem Ni{s:List aT}{k:Nat}(hlt:k<s.length)(hd:∀(i j:Nat) (hi:i<j) (hj:j<k) (hl:j<s.length),(s[i]'(ac)).index≠s[j].index)(h:∀(i:Nat) (hi:i<k),(s[i]'(ac)).index≠s[k].index):∀(i j:Nat) (hi:i<j) (hj:j<k+1) (hl:j<s.length),(s[i]'(ac)).index≠s[j].index:=by
  intro i j hi hj hl;by_cases hjk:j=k
  · subst hjk;exact h i hi
  · exact hd i j hi ac hl
theorem eO{s:List aT}(h:seenOk s=true):s.length<=4:=by
  simp only[seenOk,Bool.and_eq_true]at h;obtain⟨⟨h1,h2⟩,_⟩:=h;have key:∀(j:Nat) (hj:j<s.length),(2:Int)+j<=s[j].client:=by
    intro j;induction j with
    |zero=>
      intro hj;have:=wL h1 hj;simp only[fq,aJ,Bool.and_eq_true,decide_eq_true_eq]at this;omega
    |succ j ih=>
      intro hj;have:=jK h2 hj;simp only[j8,decide_eq_true_eq]at this;have:=ih ac;omega
  rcases Nat.lt_or_ge 4 s.length with hl|hl
  · have h5:=key 4 hl;have:=wL h1 hl;simp only[fq,aJ,Bool.and_eq_true,decide_eq_true_eq]at this;omega
  · exact hl
theorem nq(s:List aT)(hs:s.length<=9223372036854775806):aN av 292 [.one (.sl (s.map aT.ds))] (rB (seenOk s)):=by
  refine pO func292 call292 ntmps292 results292 λS=>?_;conv=>whnf
  repeat'(first|refine awz ?_|(refine abl rfl rfl ?_;conv=>whnf)|fail)
  refine aaK (λk:Nat=>k<=s.length/\(∀(j:Nat) (hj:j<k) (hl:j<s.length),cC fq j8 s j hl=true)/\∀(i j:Nat) (hi:i<j) (hj:j<k) (hl:j<s.length),(s[i]'(ac)).index≠s[j].index) (2::4::5::rg 9 44) (λk=>[(9,vI .i64 (k:Int))]) (λk=>[(6,ji Tryz.prog 2 k (lN ((s.take k).map (·.index))))]) (λk=>s.length-k) 0 ⟨ac,ac,ac⟩ ?_ sbW (λk hR=>?_)<;>(conv=>whnf)
  · exact whd
  · obtain⟨hk,hall,hdup⟩:=hR;repeat'((first|refine awz ?_|refine aaJ aM 7 11 uW vm ae ae ae rfl ?_|refine aaO ari (λhlt=>?_)|refine aa3 ari ari (λhpv=>?_)|refine aaH (n:=_-_) ari ari ?_|refine aaH ari ari ?_|refine cP (rC _) ?_|refine cP (zU _) ?_|refine cP (rH _) ?_|refine abk (id:=6) (N:=k) rfl rfl rfl rfl (GB aj ai ai) ?_|refine abq (id:=6) (N:=k) rfl ac rfl rfl rfl (GB aj ai ai) ?_|refine tB ?_ ?_|intro h)<;>conv=>whnf)
    all_goals first
      |(rw[AF hlt (by first|(refine bX _ ?_;simp_all[fq];done)|(rw[bq _ ari];simp_all[fq,j8];done)|(rw[bu _ ari];simp_all[fq];done))];done)
      |(rw[M7 hlt aj];done)
      | (refine a8.mk ⟨k + 1, ⟨hlt, fU hall hlt (by first | (refine bX _ ?_; simp_all [fq]; done) | (rw [bq _ ari]; simp_all [fq, j8]; done) | (rw [bu _ ari]; simp_all [fq]; done)), Ni hlt hdup fun i hi => VP hlt aj hi⟩,ac, ?_, aaC (congrArg some (congrArg (fun l => ji Tryz.prog 2 (k + 1) (lN l)) (Uv hlt))) aaE⟩
         exact hds)
      | (refine bE ?_
         have hkk:k=s.length:=ari;rw[F8 (λj hl=>hall j ac hl) (λi j hi hl=>hdup i j hi ac hl)])
end
open Go.ChangeShapes Go.WideShapes Go.RowKit
def mU(s:List aT):Prop:=s.Pairwise λx y=>x.client<y.client
theorem Eu:∀{s:List aT},hE j8 s=true->mU s
 |[],_=>List.Pairwise.nil
 |[x],_=>List.pairwise_singleton _ _
 |x::y::r,h=>by
  simp only[hE,and_eq_true]at h;have ih:=Eu (s:=y::r) h.2;have hxy:x.client<y.client:=by simpa[j8]using h.1
  refine pairwise_cons.2 ⟨λz hz=>?_,ih⟩;rcases mem_cons.1 hz with rfl|hz
  ·exact hxy
  ·have:=(pairwise_cons.1 ih).1 z hz;omega
theorem Gq:∀{s:List aT},mU s->hE j8 s=true
 |[],_=>rfl
 |[x],_=>rfl
 |x::y::r,h=>by
  have h1:=pairwise_cons.1 h;simp only[hE,and_eq_true];exact⟨by simpa[j8]using h1.1 y ah,Gq h1.2⟩
theorem oU{s:List aT}(h:seenOk s=true):mU s:=by
 simp only[seenOk,and_eq_true]at h;exact Eu h.1.2
theorem xg{s:List aT}(h:seenOk s=true){m:aT}(hm:m∈s):fq m=true:=by
 simp only[seenOk,and_eq_true]at h;exact all_eq_true.1 h.1.1 m hm
theorem zB{s:List aT}{c:Int}(h:∀m∈s,c<=m.client):s.filter (λx=>decide (x.client<c))=[]:=by
 rw[List.filter_eq_nil_iff];intro m hm;have:=h m hm;simp;omega
theorem HT{c:Int}:∀{s:List aT},mU s->s.filter (λx=>decide (x.client<c+1))=s.filter (λx=>decide (x.client<c))++(s.find? λx=>x.client==c).toList
 |[],_=>rfl
 |x::r,h=>by
  obtain⟨h1,h2⟩:=pairwise_cons.1 h;have ih:=HT (c:=c) h2;rcases Int.lt_trichotomy x.client c with hx|hx|hx
  ·have e1:decide (x.client<c+1)=true:=al;have e2:decide (x.client<c)=true:=al;have e3:(x.client==c)=false:=al;simp only[filter_cons,e1,e2,if_true,find?_cons,e3,ih,List.cons_append]
  ·have e1:decide (x.client<c+1)=true:=al;have e2:decide (x.client<c)=false:=al;have e3:(x.client==c)=true:=al;simp only[filter_cons,e1,e2,if_true,find?_cons,e3];rw[zB (λm hm=>by have:=h1 m hm;omega),zB (λm hm=>by have:=h1 m hm;omega)];rfl
  ·have e1:decide (x.client<c+1)=false:=al;have e2:decide (x.client<c)=false:=al;have e3:(x.client==c)=false:=al;simp only[filter_cons,e1,e2,find?_cons,e3,ih];rfl
theorem Lk{s:List aT}(h:seenOk s=true):s.filter (λx=>decide (x.client<6))=s:=by
 rw[List.filter_eq_self];intro m hm;have:=xg h hm;simp only[fq,aJ,and_eq_true,decide_eq_true_eq]at this;simp;omega
theorem Ri{s:List aT}(h:seenOk s=true):s.filter (λx=>decide (x.client<2))=[]:=zB λm hm=>by
 have:=xg h hm;simp only[fq,aJ,and_eq_true,decide_eq_true_eq]at this;omega
theorem OD{s:List aT}(h:mU s)(m:aT):mU (putMark s m):=by
 unfold putMark mU;rw[List.pairwise_append];refine⟨h.sublist filter_sublist,pairwise_cons.2 ⟨λz hz=>?_,h.sublist filter_sublist⟩,λa ha b hb=>?_⟩
 ·have:=(mem_filter.1 hz).2;simpa using this
 ·have h1:=(mem_filter.1 ha).2;simp only[decide_eq_true_eq]at h1;rcases mem_cons.1 hb with rfl|hb
  ·exact h1
  ·have:=(mem_filter.1 hb).2;simp only[decide_eq_true_eq]at this;omega
theorem Qy{s:List aT}{m x:aT}(h:x∈putMark s m):x=m\/x∈s:=by
 unfold putMark at h;rcases List.mem_append.1 h with h|h
 ·exact .inr (mem_filter.1 h).1
 ·rcases mem_cons.1 h with h|h
  ·exact .inl h
  ·exact .inr (mem_filter.1 h).1
theorem wQ{α:Type}(p q:α->Bool):∀l:List α,(l.filter p).find? q=l.find? λa=>p a&&q a
 |[]=>rfl
 |x::r=>by
  rw[filter_cons,find?_cons];cases hp:p x with
  |true=>
   simp only[if_true,find?_cons,Bool.true_and];cases q x with
   |true=>rfl
   |false=>exact wQ p q r
  |false=>
   simp only[Bool.false_and];exact wQ p q r
theorem Ue(s:List aT)(m:aT)(d:Int):(putMark s m).find? (λx=>x.client==d)=if d=m.client then some m else s.find? (λx=>x.client==d):=by
 unfold putMark;rw[List.find?_append,find?_cons,wQ,wQ];by_cases hd:d=m.client
 ·subst hd;have e:s.find? (λa=>decide (a.client<m.client)&&a.client==m.client)=none:=by
   rw[find?_eq_none];intro x _;simp;omega
  rw[e];simp
 ·have e0:(m.client==d)=false:=al;rw[if_neg hd,e0];rcases Int.lt_or_gt_of_ne hd with h|h
  ·have e1:(λa:aT=>decide (a.client<m.client)&&a.client==d)=λa=>a.client==d:=by
    funext a;by_cases ha:a.client=d
    ·simp[ha,h]
    ·simp[ha]
   have e2:s.find? (λa=>decide (m.client<a.client)&&a.client==d)=none:=by
    rw[find?_eq_none];intro x _;simp;omega
   rw[e1];simp only[e2];simp
  ·have e1:(λa:aT=>decide (m.client<a.client)&&a.client==d)=λa=>a.client==d:=by
    funext a;by_cases ha:a.client=d
    ·simp[ha];omega
    ·simp[ha]
   have e2:s.find? (λa=>decide (a.client<m.client)&&a.client==d)=none:=by
    rw[find?_eq_none];intro x _;simp;omega
   rw[e1,e2];simp
theorem rK(x0:Int):∀s:List aT,(∀m∈s,m.index<=s.foldl (λx m=>if m.index>x then m.index else x) x0)/\x0<=s.foldl (λx m=>if m.index>x then m.index else x) x0/\(s.foldl (λx m=>if m.index>x then m.index else x) x0=x0\/∃m∈s,m.index=s.foldl (λx m=>if m.index>x then m.index else x) x0)
 |[]=>⟨by simp,by simp,.inl rfl⟩
 |y::r=>by
  obtain⟨h1,h2,h3⟩:=rK (if y.index>x0 then y.index else x0) r;simp only[foldl_cons];have hy:y.index<=(if y.index>x0 then y.index else x0)/\x0<=(if y.index>x0 then y.index else x0):=by split<;>omega
  refine⟨λm hm=>?_,ac,?_⟩
  ·rcases mem_cons.1 hm with rfl|hm
   ·omega
   ·exact h1 m hm
  ·rcases h3 with h3|⟨m,hm,h3⟩
   ·by_cases hc:y.index>x0
    ·rw[if_pos hc]at h3⊢;exact .inr ⟨y,by simp,h3.symm⟩
    ·rw[if_neg hc]at h3⊢;exact .inl h3
   ·exact .inr ⟨m,by simp[hm],h3⟩
theorem JX{s:List aT}{m:aT}(h:m∈s):m.index<=bR s:=(rK 0 s).1 m h
theorem LX(s:List aT):0<=bR s:=(rK 0 s).2.1
theorem U7{s:List aT}{x:Int}(h1:∀m∈s,m.index<=x)(h2:∃m∈s,m.index=x)(h0:0<=x):bR s=x:=by
 obtain⟨m,hm,e⟩:=h2;have h3:=JX hm;rcases(rK 0 s).2.2 with h|⟨y,hy,h⟩
 ·have h:bR s=0:=h;omega
 ·have h:y.index=bR s:=h;have:=h1 y hy;omega
theorem LY{s:List aT}{m:aT}(h:bR s<m.index):bR (putMark s m)=m.index:=by
 have h0:=LX s;refine U7 (λx hx=>?_) ⟨m,by simp[putMark],rfl⟩ ac;rcases Qy hx with rfl|hx
 ·exact Int.le_refl _
 ·have:=JX hx;omega
theorem N0{e:aO}(h:bL e=true):fq e.mark=true:=by
 simp only[bL,and_eq_true]at h;simp only[fq,aO.mark,and_eq_true];exact⟨⟨h.1.1.2,h.1.2⟩,h.1.1.1.1⟩
theorem Kd{s:List aT}{R:aT->aT->Prop}(h:s.Pairwise R){i j:Nat}(hi:i<j)(hj:j<s.length):R (s[i]'(ac)) s[j]:=List.pairwise_iff_getElem.1 h i j ac hj hi
theorem Ew:∀{s:List aT},fH rM s=true->s.Pairwise λx y=>x.index≠y.index
 |[],_=>List.Pairwise.nil
 |x::r,h=>by
  simp only[fH,and_eq_true]at h;refine pairwise_cons.2 ⟨λy hy=>?_,Ew h.2⟩;have:=all_eq_true.1 h.1 y hy;simpa[rM]using this
theorem Fx:∀{s:List aT},(s.Pairwise λx y=>x.index≠y.index)->fH rM s=true
 |[],_=>rfl
 |x::r,h=>by
  obtain⟨h1,h2⟩:=pairwise_cons.1 h;simp only[fH,and_eq_true];refine⟨all_eq_true.2 λy hy=>?_,Fx h2⟩;have:=h1 y hy;simpa[rM]using this
theorem Uf{s:List aT}{m:aT}(h:seenOk s=true)(hm:fq m=true)(hl:bR s<m.index):seenOk (putMark s m)=true:=by
 have hs:=oU h;have hx:∀x∈s,x.index≠m.index:=λx hx=>by have:=JX hx;omega
 have hp:s.Pairwise λx y=>x.index≠y.index:=by
  simp only[seenOk,and_eq_true]at h;exact Ew h.2
 simp only[seenOk,and_eq_true];refine⟨⟨all_eq_true.2 λx hx=>?_,Gq (OD hs m)⟩,Fx ?_⟩
 ·rcases Qy hx with rfl|hx
  ·exact hm
  ·exact xg h hx
 ·unfold putMark;rw[List.pairwise_append];refine⟨hp.sublist filter_sublist,pairwise_cons.2 ⟨λz hz=>(hx z (mem_filter.1 hz).1).symm,hp.sublist filter_sublist⟩,λa ha b hb=>?_⟩;have h1:=mem_filter.1 ha;simp only[decide_eq_true_eq]at h1;rcases mem_cons.1 hb with rfl|hb
  ·exact hx a h1.1
  ·have h2:=mem_filter.1 hb;simp only[decide_eq_true_eq]at h2;obtain⟨i,hi,rfl⟩:=List.getElem_of_mem h1.1;obtain⟨j,hj,rfl⟩:=List.getElem_of_mem h2.1;rcases Nat.lt_trichotomy i j with hij|hij|hij
   ·exact Kd hp hij hj
   ·subst hij;omega
   ·exact(Kd hp hij hi).symm
theorem vK{s s':List aT}{e:aO}(h:seenOk s=true)(hm:dt s e=some s'):seenOk s'=true/\bR s'=e.index:=by
 unfold dt at hm;split at hm
 ·rename_i hc;simp only[and_eq_true,decide_eq_true_eq]at hc;injection hm with hm
  subst hm;exact⟨Uf h (N0 hc.1.1) hc.2,LY hc.2⟩
 ·cases hm
theorem iX(s:List aT):∀(a b:List aO),bU s (a++b)=(bU s a).bind λs'=>bU s' b
 |[],b=>rfl
 |e::a,b=>by
  simp only[List.cons_append,bU];cases dt s e with
  |none=>rfl
  |some s'=>exact iX s' a b
theorem nn:∀{l:List aO} {s s':List aT},seenOk s=true->bU s l=some s'->seenOk s'=true
 |[],s,s',h,hf=>by simp only[bU,Option.some.injEq]at hf;subst hf;exact h
 |e::r,s,s',h,hf=>by
  simp only[bU]at hf;cases hm:dt s e with
  |none=>rw[hm]at hf;cases hf
  |some s1=>rw[hm]at hf;exact nn (vK h hm).1 hf
theorem wV{s c:List aT}{l:List aO}{k:Nat}(hk:k<l.length)(h:bU s (l.take k)=some c):bU s (l.take (k+1))=dt c l[k]:=by
 rw[List.take_succ_eq_append_getElem hk,iX,h];simp only[Option.bind_some,bU];cases dt c l[k]<;>rfl
theorem wT{s c:List aT}{l:List aO}{k:Nat}(hk:k<l.length)(h:bU s (l.take k)=some c)(hn:dt c l[k]=none):bU s l=none:=by
 have e:l=l.take (k+1)++l.drop (k+1):=(List.take_append_drop _ _).symm;rw[e,iX,wV hk h,hn];rfl
def aT.v(m:aT):Value:= .agg #[.int .i64 m.client,.int .i64 m.seq,.int .i64 m.index]
def iJ(s:List aT)(c:Int):Option Value:=(s.find? λm=>m.client==c).map aT.v
theorem Oh(s:List aT)(m:aT):uf (uf (iJ s) m.client none) m.client (some m.v)=iJ (putMark s m):=by
 funext d;unfold uf iJ;rw[Ue];by_cases h:d=m.client
 ·simp[h]
 ·simp[h]
theorem L6{s:List aT}(h:mU s){k:Nat}(hk:k<s.length):uf (iJ (s.take k)) s[k].client (some s[k].v)=iJ (s.take (k+1)):=by
 funext d;unfold uf iJ;rw[List.take_succ_eq_append_getElem hk,List.find?_append];by_cases hd:d=s[k].client
 ·have:(s.take k).find? (λm=>m.client==d)=none:=by
   rw[find?_eq_none];intro m hm;obtain⟨i,hi,rfl⟩:=List.getElem_of_mem hm;simp at hi;have:=Kd h (i:=i) (j:=k) ac hk;simp only[List.getElem_take];simp;omega
  rw[this];simp[hd]
 ·have e:(s[k].client==d)=false:=al;simp[hd,e]
theorem Fn(s:List aT)(c:Int):(iJ s c).getD (aT.v ⟨0,0,0⟩)=(bI s c).v:=by
 unfold iJ bI;cases s.find? λm=>m.client==c<;>rfl
def gt(x:aT)(p:List aT×Bool)(m:aT):List aT×Bool:=
 let q:=if(!p.2&&decide (m.client>=x.client))=true then(p.1++[x],true)else p
 if(m.client !=x.client)=true then(q.1++[m],q.2)else q
theorem wz(x:aT):∀(r:List aT) (out:List aT),(∀m∈r,x.client<m.client)->r.foldl (gt x) (out,true)=(out++r,true)
 |[],out,_=>by simp
 |m::r,out,h=>by
  have hm:=h m ah;have e:(m.client !=x.client)=true:=al;rw[foldl_cons];have:gt x (out,true) m=(out++[m],true):=by simp[gt,e]
  rw[this,wz x r _ λy hy=>h y (by simp[hy])];simp
theorem I7(x:aT):∀(s:List aT) (out:List aT),mU s->(let p:=s.foldl (gt x) (out,false);if p.2 then p.1 else p.1++[x])=out++putMark s x
 |[],out,_=>by simp[putMark]
 |m::r,out,h=>by
  obtain⟨h1,h2⟩:=pairwise_cons.1 h;rw[foldl_cons];rcases Int.lt_trichotomy m.client x.client with hx|hx|hx
  ·have e:gt x (out,false) m=(out++[m],false):=by
    have e1:(m.client !=x.client)=true:=al;have e2:decide (m.client>=x.client)=false:=al;simp[gt,e1,e2]
   rw[e];have:=I7 x r (out++[m]) h2;simp only at this⊢;rw[this];have e1:decide (m.client<x.client)=true:=al;have e2:decide (x.client<m.client)=false:=al;simp[putMark,filter_cons,e1,e2]
  ·have e:gt x (out,false) m=(out++[x],true):=by
    have e1:(m.client !=x.client)=false:=al;have e2:decide (m.client>=x.client)=true:=al;simp[gt,e1,e2]
   rw[e,wz x r _ λy hy=>by have:=h1 y hy;omega];have e1:decide (m.client<x.client)=false:=al;have e2:decide (x.client<m.client)=false:=al;have e3:=zB (s:=r) (c:=x.client) λy hy=>by have:=h1 y hy;omega
   have e4:r.filter (λy=>decide (x.client<y.client))=r:=List.filter_eq_self.2 λy hy=>by have:=h1 y hy;simp;omega
   simp[putMark,filter_cons,e1,e2,e3,e4]
  ·have e:gt x (out,false) m=(out++[x]++[m],true):=by
    have e1:(m.client !=x.client)=true:=al;have e2:decide (m.client>=x.client)=true:=al;simp[gt,e1,e2]
   rw[e,wz x r _ λy hy=>by have:=h1 y hy;omega];have e1:decide (m.client<x.client)=false:=al;have e2:decide (x.client<m.client)=true:=al;have e3:=zB (s:=r) (c:=x.client) λy hy=>by have:=h1 y hy;omega
   have e4:r.filter (λy=>decide (x.client<y.client))=r:=List.filter_eq_self.2 λy hy=>by have:=h1 y hy;simp;omega
   simp[putMark,filter_cons,e1,e2,e3,e4]
end Go.Proofs.YthgkdhnlehneeaaGreatDoor
