/- IW5 -/
import Derived.Test.YtknefkdcokgpbaaGreatIW1
import Derived.Test.YtknefkdcokgpbaaGreatRA3
import Derived.Test.YtknefkdcokgpbaaGreatMkA
import Derived.Test.YtknefkdcokgpbaaGreatWOw
set_option maxHeartbeats 8000000
set_option linter.unusedVariables false
set_option linter.unusedSimpArgs false
set_option maxRecDepth 100000
open List (getD_eq_getElem?_getD getElem?_eq_getElem getElem?_map)
namespace Go.Proofs.YtknefkdcokgpbaaGreat
section
open Go.Proofs.Tryz
open Go.ChangeShapes Go.WideShapes Go.RowKit
variable {d:DDisk}{C:List AD}{i k n:Nat}{ix:Nat->Nat}
theorem z5(R:Nat->(Nat->Prop)->World->Value->Prop){zs:List (List AD)}:∀{ds:List AD} {k i:Nat},ds[i]? =some (.sl zs)->(bS R k ds)[i]? =some (.x (R (k+i)))
 |[],_,_,h=>by simp at h
 |d::r,k,0,h=>by simp at h;subst h;rfl
 |d::r,k,i+1,h=>by
  have:=z5 R (ds:=r) (k:=k+1) (i:=i) (by simpa using h);rw[show k+1+i=k+(i+1)by omega]at this;cases d<;>simpa[bS]using this
def tj(C:List AD)(ix:Nat->Nat)(n:Nat):List (List AD):=(List.range n).map λi=>[C.getD (ix i) (dI 0)]
theorem pk(C:List AD)(ix:Nat->Nat)(n:Nat):(tj C ix n).length=n:=by simp[tj]
theorem pj(h:i<n):(tj C ix n)[i]? =some [C.getD (ix i) (dI 0)]:=by simp[tj,h]
theorem Ou{a j:Nat}{c:AD}(hc:C[j]? =some c):(tj C ix n).set a [c]=tj C (λi=>if i=a then j else ix i) n:=by
 refine List.ext_getElem? λi=>?_;rw[List.getElem?_set,pk];by_cases hi:i<n
 ·rw[pj hi];by_cases ha:a=i
  ·subst ha;rw[if_pos rfl,if_pos hi,pj hi];simp[getD_eq_getElem?_getD,hc]
  ·have hia:¬i=a:=λe=>ha e.symm;rw[if_neg ha,pj hi];simp[hia]
 ·rw[List.getElem?_eq_none (by rw[pk];omega)];rw[List.getElem?_eq_none (l:=tj C _ n) (by rw[pk];omega)];split
  ·rw[if_neg ac]
  ·rfl
def QX(l:List Int):AD:= .sl (l.map eI)
theorem ue(k:List (List Int)):(k.map bM).flatten=k.map QX:=wP QX k
def lB(d:DDisk):List AD:=(d.kept.map bM).flatten++(d.wait.map DWrite.ds).flatten
theorem Bu(hi:i<d.kept.length):(lB d)[i]? =some (QX d.kept[i]):=by
 rw[lB,ue,List.getElem?_append_left (by simpa using hi),getElem?_map,getElem?_eq_getElem hi];rfl
theorem Bv(hk:k<d.wait.length):(lB d)[d.kept.length+(k*2+1)]? =some (QX d.wait[k].row):=by
 rw[lB,ue,List.getElem?_append_right aj,List.length_map,Nat.add_sub_cancel_left];have hs:∀u∈d.wait.map DWrite.ds,u.length=2:=alW;rw[dy hs (u:=DWrite.ds d.wait[k]) (by rw[getElem?_map,getElem?_eq_getElem hk];rfl) ac];rfl
structure Gk (d:DDisk) (k:Nat) (ix:Nat->Nat):Prop where
 lt:∀i,i<d.kept.length->ix i<d.kept.length+k*2
 inj:∀i j,i<d.kept.length->j<d.kept.length->ix i=ix j->i=j
 eq:∀i,i<d.kept.length->(lB d)[ix i]? =some (QX ((o3 d.kept (d.wait.take k)).getD i []))
theorem Gk.zero(d:DDisk):Gk d 0 id:=by
 refine⟨λi hi=>by simpa using hi,λi j _ _ h=>h,λi hi=>?_⟩;rw[show id i=i from rfl,Bu hi];simp[o3,getD_eq_getElem?_getD,hi]
theorem Gk.succ(h:Gk d k ix)(hk:k<d.wait.length):Gk d (k+1) λi=>if i=d.wait[k].at_.toNat then d.kept.length+(k*2+1)else ix i:=by
 refine⟨λi hi=>?_,λi j hi hj e=>?_,λi hi=>?_⟩
 ·show(if i=_ then _ else _)<_;split
  ·omega
  ·have:=h.lt i hi;omega
 ·have e:(if i=_ then _ else ix i)=(if j=_ then _ else ix j):=e;split at e<;>split at e
  ·omega
  ·have:=h.lt j hj;omega
  ·have:=h.lt i hi;omega
  ·exact h.inj i j hi hj e
 ·show(lB d)[if i=_ then _ else ix i]? =_;rw[BC hk,getD_eq_getElem?_getD,List.getElem?_set];have hl:(o3 d.kept (d.wait.take k)).length=d.kept.length:=i6 _ _;split
  ·rename_i e;rw[if_pos e.symm,if_pos ac,Bv hk];rfl
  ·rename_i e;rw[if_neg (λe2=>e e2.symm),h.eq i hi,getD_eq_getElem?_getD]
theorem Gk.fam{lo hi:Nat}(h:Gk d k ix){R:Nat->(Nat->Prop)->World->Value->Prop}(F:cJ lo hi (bS R 0 (lB d)) (lB d)):cJ lo hi (tj (bS R 0 (lB d)) ix d.kept.length).flatten ((o3 d.kept (d.wait.take k)).map bM).flatten:=by
 have hl:(o3 d.kept (d.wait.take k)).length=d.kept.length:=i6 _ _;rw[ue,tj,wP (λi=>(bS R 0 (lB d)).getD (ix i) (dI 0))];refine F.sel ix (by simp[hl]) (λi hi=>?_) λi j hi hj e=>h.inj i j (by simpa using hi) (by simpa using hj) e;have hi':i<d.kept.length:=by simpa using hi
 have he:=h.eq i hi';have ho:=z5 R (k:=0) (show(lB d)[ix i]? =some (.sl _)from he);refine⟨?_,?_⟩
 ·rw[getElem?_map,List.getElem?_range hi',ho];simp[getD_eq_getElem?_getD,ho]
 ·rw[getElem?_map,he,getElem?_eq_getElem ac,getD_eq_getElem?_getD,getElem?_eq_getElem ac];rfl
theorem QK(R:Nat->(Nat->Prop)->World->Value->Prop)(d:DDisk):dx R 0 (d.kept.map bM)=tj (bS R 0 (lB d)) id d.kept.length:=by
 refine List.ext_getElem? λi=>?_;rw[th R (s:=1) alW];by_cases hi:i<d.kept.length
 ·rw[pj hi,getElem?_map,getElem?_eq_getElem hi];have ho:=z5 R (k:=0) (show(lB d)[i]? =some (.sl _)from Bu hi);simp only[Nat.mul_one,Nat.zero_add]at ho⊢;simp[getD_eq_getElem?_getD,ho,bM,bS]
 ·rw[List.getElem?_eq_none (by simpa using hi),List.getElem?_eq_none (by rw[pk];omega)];rfl
theorem Oi(k:List (List Int)):(k.map bM).flatten.length=k.length:=by rw[ue];simp
theorem yb(d:DDisk)(h:cG d=true):ce av 384 [.agg d.ds] (.agg (lE d).ds):=by
 have hs:=dT h;obtain⟨f1,f2,f3,f4,f5⟩:=dc h;have dk:=fS d;rw[h]at dk;have hne:d.kept.map bM≠ []:=by
  intro e;rw[List.map_eq_nil_iff]at e;rw[e]at f1;simp at f1
 refine mz aN func384 rfl call384 ntmps384 (aaK results384) λS=>?_;conv=>whnf
 repeat'(first|refine awz ?_|(refine cP (dk) ?_;conv=>whnf)|fail)
 refine Z1 900 1 (d.kept.map bM) (d.wait.map DWrite.ds) (jU d hs) rfl rfl ah hne alW λR lo hi e m1 m2 F=>?_;conv=>whnf
 have hWl:=eY R (d.wait.map DWrite.ds) (d.kept.map bM).flatten.length;have hWg:∀(k:Nat) (hk:k<d.wait.length),(dx R (d.kept.map bM).flatten.length (d.wait.map DWrite.ds))[k]? =some [dI d.wait[k].at_,.x (R (d.kept.length+(k*2+1)))]:=λk hk=>by
  rw[th R (s:=2) alW,Oi,getElem?_map,getElem?_eq_getElem hk];rfl
 generalize dx R (d.kept.map bM).flatten.length (d.wait.map DWrite.ds)=W at hWl hWg⊢;rw[List.length_map]at hWl;have F:cJ lo hi (bS R 0 (lB d)) (lB d):=F;repeat'(first|refine awz ?_|fail)
 refine X5 (λg:Nat×(Nat->Nat)=>g.1<=d.wait.length/\Gk d g.1 g.2) (5::rg 15 12) (λg=>[(15,vI .i64 (g.1:Int))]) (λg=>[(9997,cH S.w0.heap.size hi),(1,.cells 69 (d.ds.map .d)),(2,.cells 69 [.nil,.nil]),(3,.cells 69 [.own 900,.d (.sl W)]),(900,.row e 1 (tj (bS R 0 (lB d)) g.2 d.kept.length))]) (λg=>d.wait.length-g.1) (0,id) ⟨Nat.zero_le _,Gk.zero d⟩ ?_ (X0 rfl (X0 rfl (X0 rfl (X0 rfl (X0 (congrArg some (congrArg (AO.row e 1) (QK R d))) X4))))) (λg hR=>?_)<;>(conv=>whnf)
 ·exact whd
 ·obtain⟨k,ix⟩:=g;obtain⟨hk,hP⟩:=hR;simp only at hk hP;by_cases hlt:k<d.wait.length
  ·have hc:decide ((k:Int)<(W.length:Int))=true:=by simp only[decide_eq_true_eq];omega
   have hw:=gC (f5 _ (List.getElem_mem hlt));have hat:d.wait[k].at_.toNat<d.kept.length:=ac;have ho:=z5 R (k:=0) (show(lB d)[d.kept.length+(k*2+1)]? =some (.sl _)from Bv hlt);rw[Nat.zero_add]at ho;have hset:=Ou (ix:=ix) (n:=d.kept.length) (a:=d.wait[k].at_.toNat) ho;repeat'((first|refine awz ?_|refine X8 k _ rfl (hWg k hlt) ?_|refine X8 d.wait[k].at_.toNat _ ac (pj hat) ?_|refine X3 ac ac ?_|fail)<;>conv=>whnf)
   refine bd.mk ⟨(k+1,λi=>if i=d.wait[k].at_.toNat then d.kept.length+(k*2+1)else ix i),⟨hlt,hP.succ hlt⟩,by simp only;omega,?_,X0 rfl (X0 rfl (X0 rfl (X0 rfl (X0 (congrArg some (congrArg (AO.row e 1) hset)) X4))))⟩;exact hds
  ·have e1:k=d.wait.length:=ac;subst e1;have hc:decide ((d.wait.length:Int)<(W.length:Int))=false:=by simp only[decide_eq_false_iff_not];omega
   have hF:=hP.fam F;rw[List.take_length]at hF;repeat'(first|refine awz ?_|fail)
   refine⟨by simp[pk,lE,i6],alW,.inl rfl,lo,hi,m1,?_⟩;rw[List.append_nil,List.append_nil];exact hF.fam
end
open Go.Proofs.Tryz
open Go.ChangeShapes Go.WideShapes Go.RowKit
theorem FJ(n:DNet)(hs:Yz 1048576 n):aM av 333 [.agg n.ds] (.val (.agg n.ds)):=d5.data (FI n hs) rfl rfl
theorem Ne(n:DNet)(m:DMsg)(hn:fd n=true)(hm:fM m=true)(hl:n.flight.length=60):aM av 248 [.agg n.ds,.agg m.ds] (.tup [.agg n.ds,.one (dB false)]):=by
 have hs:=nW hn;have c1:=tv n;have c2:=tu m;rw[hn]at c1;rw[hm]at c2;have hc:((((n.flight.map DMsg.ds).length:Nat):Int)==60)=true:=al;refine pO func248 call248 ntmps248 results248 λS=>?_;conv=>whnf
 repeat'((first|refine awz ?_|refine cP (c1) ?_|refine cP (c2) ?_|refine cP (FJ n hs) ?_|exact rZ|fail)<;>conv=>whnf)
theorem Nd(n:DNet)(m:DMsg)(hn:fd n=true)(hm:fM m=false):aM av 248 [.agg n.ds,.agg m.ds] (.tup [.agg (⟨[],[]⟩:DNet).ds,.one (dB false)]):=by
 have c1:=tv n;have c2:=tu m;rw[hn]at c1;rw[hm]at c2;refine pO func248 call248 ntmps248 results248 λS=>?_;conv=>whnf
 repeat'((first|refine awz ?_|refine cP (c1) ?_|refine cP (c2) ?_|exact rZ|fail)<;>conv=>whnf)
theorem wF{α:Type}{f:α->Nat}{c:Nat}:∀{l:List α},(∀y∈l,f y<=c)->jn f l<=l.length*(1+c)
 |[],_=>Nat.zero_le _
 |x::r,h=>by
  have h1:=h x (List.mem_cons_self);have h2:=wF (l:=r) (λy hy=>h y (List.mem_cons_of_mem _ hy));simp only[jn,List.length_cons,Nat.add_mul];omega
theorem QW{r:List Int}(h:cE r=true):r.length<=48:=by
 simp only[cE,Bool.and_eq_true,decide_eq_true_eq]at h;exact h.1
theorem xW{d:DDisk}(h:cG d=true):d.cnt<=5000:=by
 obtain⟨_,h1,h2,h3,h4⟩:=dc h;have k1:=wF (f:=λl:List Int=>l.length) (l:=d.kept) (c:=48) (λy hy=>QW (h3 y hy));have k2:=wF (f:=DWrite.cnt) (l:=d.wait) (c:=48) (λy hy=>by have:=h4 y hy;simp only[fy,Bool.and_eq_true]at this;exact QW this.2);unfold DDisk.cnt;omega
theorem Uc{x:DWorld}(hw:dN x=true):x.cnt<=30000000:=by
 have f:=rK hw;obtain⟨⟨_,hd,nx,bk,sn,ow⟩,⟨_,s1,s2⟩,le,ri,⟨a1,a2⟩,⟨b1,b2⟩,⟨n1,n2,n3⟩,cl,up⟩:=d6 hw;have ht:j4 x.log.two=true:=by
  have h:=f.log;split at h
  ·exact(ja (Qq h).two).1
  ·simp only[kv,Bool.and_eq_true]at h;exact h.1
 have hs:cG x.store.disk=true:=by
  have h:=f.store;split at h
  ·have:=(zS h).disk;simp only[dg,Bool.and_eq_true]at this;exact this.1
  ·simp only[fV,Bool.and_eq_true]at h;exact h.1
 have c1:=xW (hE ht).1;have c2:=xW (hE ht).2.1;have c3:=xW hs;have nf:=lL f.net;have c4:=wF (f:=DMsg.cnt) (l:=x.net.flight) (c:=48) (λy hy=>by have:=nf.2.2.1 y hy;simp only[fM,Bool.and_eq_true]at this;exact QW this.2);have c5:=nf.1;simp only[Yo,Yx,Yr,YC,YE]at hd nx bk le ri;simp only[DWorld.cnt,DLogNode.cnt,DTwo.cnt,DHead.cnt,DBook.cnt,DStore.cnt,DState.cnt,DSched.cnt,DView.cnt,DJobs.cnt,DClient.cnt,DNet.cnt];omega
end Go.Proofs.YtknefkdcokgpbaaGreat
