/- WR4 -/
import Derived.Test.YtlmoekpinpafeaaGreatQJ
import Derived.Test.YtlmoekpinpafeaaGreatAvJ3
import Derived.Test.YtlmoekpinpafeaaGreatWB8
import Derived.Test.YtlmoekpinpafeaaGreatAvFC
import Derived.Test.YtlmoekpinpafeaaGreatRA9
import Derived.Test.YtlmoekpinpafeaaGreatAvMD
set_option maxHeartbeats 8000000
set_option linter.unusedVariables false
set_option linter.unusedSimpArgs false
set_option maxRecDepth 100000
open List (length_cons length_map map_append)
namespace Go.Proofs.YtlmoekpinpafeaaGreat
section
open Go.Proofs.Tryz
open Go.ChangeShapes Go.WideShapes Go.RowKit
variable {s:Nat}{α:Type}
def fO:List (List Nat):=a8 [0,1,129,12354,12354,1318979,4328796549,486506500228,35461415067975,12354,12354,168300747,13070241930,904124445388,0x2471460c108420e30b28d,0x30423cd28b30e2041851c9]
def fR:List (List Nat):=dN 14 [0,1,4,4763947,4763353,4763434,4763650,4764379,4766566,137767,59035,98401,275548,806989]
def iZ:List (List Nat):=a8 [0,0,0,131,16578,1319108,0,0,456,37383,2650633,0x1840c214b2481ca,0xc2872092c5083106,0x13461030852c920728c,0x38c2872092c5083106341]
def i6:List (List Nat):=dN 13 [1594320,176438,176426,176432,176459,176540,5102,2186,3644,10205,29888,88574,265721]
theorem vT{l:List α}{enc:α->List AD}(h:∀a,(enc a).length=s):∀y∈l.map enc,y.length=s:=λy hy=>by
 obtain⟨a,_,rfl⟩:=List.mem_map.1 hy;exact h a
theorem Eo{l:List α}{enc:α->List AD}{a b:Nat}(h:∀a,(enc a).length=s):∀y∈((l.map enc).take b).drop a,y.length=s:=λy hy=>
 vT h y (List.mem_of_mem_take (List.mem_of_mem_drop hy))
def opK(out:List DDue)(d:Int):Nat->Nat
 |0=>0
 |k+1=>if(out.getD k ⟨0,0⟩).due>d then opK out d k else k+1
theorem NG(out:List DDue)(d:Int):∀k,opK out d k<=k
 |0=>Nat.le_refl _
 |k+1=>by
  simp only[opK];split
  ·exact Nat.le_succ_of_le (NG out d k)
  ·exact Nat.le_refl _
def ue(out:List DDue)(j:DJob):List DDue:=(out.take (opK out j.due out.length)++[⟨j.id,j.due⟩])++out.drop (opK out j.due out.length)
def sA(l:List DJob):List DDue:=l.foldl (λout j=>if j.fired>0 then out else ue out j) []
theorem At(l:List DJob){k:Nat}(hk:k<l.length):sA (l.take (k+1))=if l[k].fired>0 then sA (l.take k)else ue (sA (l.take k)) l[k]:=by
 unfold sA;rw[JX hk,List.foldl_append];rfl
theorem LU(out:List DDue)(j:DJob):(ue out j).length=out.length+1:=by
 have:=NG out j.due out.length;simp[ue];omega
theorem xb(l:List DJob):∀k,k<=l.length->(sA (l.take k)).length<=k
 |0,_=>by simp[sA]
 |k+1,hk=>by
  have h:=xb l k ac;rw[At l ac];split
  ·omega
  ·rw[LU];omega
theorem PP{l:List DJob}(h:bu l=true):l.length<=8:=by
 simp only[bu,Bool.and_eq_true,decide_eq_true_eq]at h;omega
theorem VK{n:Int}{K:Int->Prop}(c:Int)(e:n=c)(h1: -9223372036854775808<=c)(h2:c<=9223372036854775807)(hk:K c):AW .i64 n K:=by
 subst e;exact Tz h1 h2 hk
theorem Ei(out:List DDue)(d:DJob)(j:Nat)(hj:opK out d.due out.length=j):
  (([]++((out.map DDue.ds).take j).drop 0)++[[dI d.id,dI d.due]])++((out.map DDue.ds).take (out.map DDue.ds).length).drop j=(ue out d).map DDue.ds:=by
 subst hj;simp[ue,List.map_append,List.map_take,List.map_drop];exact⟨rfl,by rw[List.take_of_length_le ai]⟩
theorem G8(l:List DJob)(h:bu l=true):aM av 283 [.one (.sl (l.map DJob.ds))] (.val (.one (.sl ((sA l).map DDue.ds)))):=by
 have hn:(!bu l)=false:=by rw[h];rfl
 have h8:=PP h;refine pO func283 call283 ntmps283 results283 λS=>?_;conv=>whnf
 repeat'((first|refine aw0 ?_|refine awx ?_|refine cP (dH l) ?_|exact rr|refine And.intro rfl ?_|fail)<;>conv=>whnf)
 refine AWP.freeze 7 335 2 [] rfl ?_;conv=>whnf
 refine TE (λk:Nat=>k<=l.length) (3::4::5::6::rg 12 56) (λk=>[(3,.one (.d (.sl ((sA (l.take k)).map DDue.ds)))),(4,vI .i64 (k:Int))]) (λ_=>[]) (λk=>l.length-k) 0 ac ?_ Tx (λk hR=>?_)<;>(conv=>whnf)
 ·exact whd
 ·by_cases hlt:k<l.length
  ·have hlen:=xb l k ac;have hc:decide ((k:Int)<((l.map DJob.ds).length:Int))=true:=al;have hsn:=At l hlt;generalize hout:sA (l.take k)=out at hlen hsn⊢;cases hf:decide (l[k].fired>0)with
   |true=>
    rw[if_pos (of_decide_eq_true hf)]at hsn;repeat'((first|refine aw0 ?_|refine awx ?_|refine TJ hlt ?_|refine Tz ac ac ?_|exact rr|refine And.intro rfl ?_|fail)<;>conv=>whnf)
    refine aW.mk ⟨k+1,hlt,ac,?_,Tx⟩;simp only[hsn];exact hds
   |false=>
    rw[if_neg (of_decide_eq_false hf)]at hsn;repeat'((first|refine aw0 ?_|refine awx ?_|refine TJ hlt ?_|refine Tz ac ac ?_|exact rr|refine And.intro rfl ?_|fail)<;>conv=>whnf)
    have hm:(out.map DDue.ds).length=out.length:=ai;refine TE (λj:Nat=>j<=(out.map DDue.ds).length/\opK out l[k].due out.length=opK out l[k].due j) (5::rg 26 18) (λj=>[(5,vI .i64 (j:Int))]) (λ_=>[]) (λj=>j) (out.map DDue.ds).length ⟨Nat.le_refl _,by rw[hm]⟩ ?_ Tx (λj hJ=>?_)<;>(conv=>whnf)
    ·exact whd
    ·obtain⟨hj,hk⟩:=hJ;rcases j with _|m
     ·have b1:decide (((0:Nat):Int)>0)=false:=rfl;have hk0:opK out l[k].due out.length=0:=hk;repeat'(first|(refine aw0 ?_;conv=>whnf)|fail)
      (refine TB aL 9 14 fO fR ae ae ae rfl ?_;conv=>whnf)
      repeat'((first|refine AWP.freeze 44 335 2 ((ue out l[k]).map DDue.ds) (congrArg (AO.row 335 2) (Ei out l[k] 0 hk0)) ?_|refine aw0 ?_|refine awx ?_|refine⟨0,0,rfl,rfl,Nat.zero_le _,hj,vT (λ_=>rfl),?_⟩|refine⟨0,(out.map DDue.ds).length,rfl,rfl,hj,Nat.le_refl _,vT (λ_=>rfl),?_⟩|refine aP (Eo (λ_=>rfl)) ?_|refine aP ai ?_|refine aQ (by simp<;>omega) ?_|refine TJ hlt ?_|refine Tz ac ac ?_|exact rr|refine And.intro rfl ?_|fail)<;>conv=>whnf)
      (refine TB aL 12 13 iZ i6 ae ae ae rfl ?_;conv=>whnf)
      repeat'((first|refine AWP.freeze 44 335 2 ((ue out l[k]).map DDue.ds) (congrArg (AO.row 335 2) (Ei out l[k] 0 hk0)) ?_|refine aw0 ?_|refine awx ?_|refine⟨0,0,rfl,rfl,Nat.zero_le _,hj,vT (λ_=>rfl),?_⟩|refine⟨0,(out.map DDue.ds).length,rfl,rfl,hj,Nat.le_refl _,vT (λ_=>rfl),?_⟩|refine aP (Eo (λ_=>rfl)) ?_|refine aP ai ?_|refine aQ (by simp<;>omega) ?_|refine TJ hlt ?_|refine Tz ac ac ?_|exact rr|refine And.intro rfl ?_|fail)<;>conv=>whnf)
      refine aW.mk ⟨k+1,hlt,ac,?_,Tx⟩;simp only[hsn];exact hds
     ·have b1:decide (((m+1:Nat):Int)>0)=true:=by simp<;>omega
      have hmo:m<out.length:=ac;have hget:out.getD m ⟨0,0⟩=out[m]:=by simp[List.getD_eq_getElem?_getD,hmo]
      cases b2:decide (out[m].due>l[k].due)with
      |true=>
       have hk2:opK out l[k].due out.length=opK out l[k].due m:=by
        rw[hk];simp only[opK,hget];rw[if_pos (of_decide_eq_true b2)]
       repeat'(first|(refine aw0 ?_;conv=>whnf)|fail)
       (refine TB aL 9 14 fO fR ae ae ae rfl ?_;conv=>whnf)
       repeat'((first|refine aw0 ?_|refine awx ?_|refine TJ hmo ?_|refine TJ hlt ?_|refine VK (m:Int) ac ac ac ?_|exact rr|refine And.intro rfl ?_|fail)<;>conv=>whnf)
       refine aW.mk ⟨m,⟨ac,hk2⟩,ac,?_,Tx⟩;exact hds
      |false=>
       have hk2:opK out l[k].due out.length=m+1:=by
        rw[hk];simp only[opK,hget];rw[if_neg (of_decide_eq_false b2)]
       repeat'(first|(refine aw0 ?_;conv=>whnf)|fail)
       (refine TB aL 9 14 fO fR ae ae ae rfl ?_;conv=>whnf)
       repeat'((first|refine aw0 ?_|refine awx ?_|refine TJ hmo ?_|refine TJ hlt ?_|refine VK (m:Int) ac ac ac ?_|exact rr|refine And.intro rfl ?_|fail)<;>conv=>whnf)
       repeat'((first|refine AWP.freeze 44 335 2 ((ue out l[k]).map DDue.ds) (congrArg (AO.row 335 2) (Ei out l[k] (m+1) hk2)) ?_|refine aw0 ?_|refine awx ?_|refine⟨0,(m+1),rfl,rfl,Nat.zero_le _,hj,vT (λ_=>rfl),?_⟩|refine⟨(m+1),(out.map DDue.ds).length,rfl,rfl,hj,Nat.le_refl _,vT (λ_=>rfl),?_⟩|refine aP (Eo (λ_=>rfl)) ?_|refine aP ai ?_|refine aQ (by simp<;>omega) ?_|refine TJ hlt ?_|refine Tz ac ac ?_|exact rr|refine And.intro rfl ?_|fail)<;>conv=>whnf)
       (refine TB aL 12 13 iZ i6 ae ae ae rfl ?_;conv=>whnf)
       repeat'((first|refine AWP.freeze 44 335 2 ((ue out l[k]).map DDue.ds) (congrArg (AO.row 335 2) (Ei out l[k] (m+1) hk2)) ?_|refine aw0 ?_|refine awx ?_|refine⟨0,(m+1),rfl,rfl,Nat.zero_le _,hj,vT (λ_=>rfl),?_⟩|refine⟨(m+1),(out.map DDue.ds).length,rfl,rfl,hj,Nat.le_refl _,vT (λ_=>rfl),?_⟩|refine aP (Eo (λ_=>rfl)) ?_|refine aP ai ?_|refine aQ (by simp<;>omega) ?_|refine TJ hlt ?_|refine Tz ac ac ?_|exact rr|refine And.intro rfl ?_|fail)<;>conv=>whnf)
       refine aW.mk ⟨k+1,hlt,ac,?_,Tx⟩;simp only[hsn];exact hds
  ·have hc:decide ((k:Int)<((l.map DJob.ds).length:Int))=false:=by simp[show k=l.length by omega]
   have e:l.take k=l:=List.take_of_length_le ac;repeat'((first|refine aw0 ?_|refine awx ?_|exact rr|refine And.intro rfl ?_|fail)<;>conv=>whnf)
   all_goals rw[e]
end
open Go.Proofs.Tryz
open Go.ChangeShapes Go.WideShapes Go.RowKit
def tM:List (List Nat):=a8 [0,1,129,0,4,324,0,7,0,9,0,11,0,13,909,62286,0xc108610520728930b40e34f,0x113cd3902cc24a1c8144182043]
def tQ:List (List Nat):=dN 16 [43046694,43046695,43046698,43046018,43046045,43046126,43040888,43041617,42994232,43000793,42574328,42633377,531440,1062881,2657204,7440173]
def k6:List (List Nat):=a8 [0,1,0,3,0,5,389,0,8,0,0x811031c518920a,0xb2882461470c4042,0x3020440c714624828b]
def lc:List (List Nat):=dN 10 [59040,59041,58976,58985,56942,57023,57266,41552,43739,19682]
theorem KW(b:Bool):aM av 281 [.one (dB b)] (.val (pI (if b then 1 else 0))):=by
  cases b with
  |false=>
    refine pO func281 call281 ntmps281 results281 λS=>?_;conv=>whnf
    repeat'(first|refine awz ?_|exact rZ|fail)
  |true=>
    refine pO func281 call281 ntmps281 results281 λS=>?_;conv=>whnf
    repeat'(first|refine awz ?_|exact rZ|fail)
theorem Mg(s:DStore)(h:storeOk s=true):bq av 229 [.agg s.ds] (λy:DJobs=>y.opens.length<=8) (λy=> .val (.agg y.ds)):=by
  have hs:=eK h;have c1:=fV s (by have:=hs.2.1;omega);rw[h]at c1;have hj:=(bJ (E8 h).state).2.2.2.1;have c2:=G8 s.state.jobs hj;have hl:=(cN hj).1;have ho:(sA s.state.jobs).length<=8:=by have:=xb s.state.jobs s.state.jobs.length (Nat.le_refl _);rw[List.take_length]at this;omega
  refine aO aL func229 rfl call229 ntmps229 (WA results229) λS=>?_;conv=>whnf
  repeat'(first|refine awz ?_|(refine cP (c1) ?_;conv=>whnf)|fail)
  (refine TB aL 4 16 tM tQ ae ae ae rfl ?_;conv=>whnf)
  repeat'(first|refine awz ?_|(refine cP (c2) ?_;conv=>whnf)|fail)
  all_goals exact⟨⟨_,_,_,_,_,sA s.state.jobs⟩,ho,rfl⟩
theorem Mj(s:DStore)(r:yV)(h:storeOk s=true):bq av 225 [.agg s.ds,.agg r.ds] (λ_:DB×Bool=>True) (λy=> .tup [.agg y.1.ds,.one (dB y.2)]):=by
  have hs:=eK h;have c1:=fV s (by have:=hs.2.1;omega);rw[h]at c1;have hp:=(bJ (E8 h).state).2.2.1;have c2:=ol r;have c3:=uX s.state.pairs r.key hp;cases hf:s.state.pairs.find? (rY r.key)with
  |none=>
    rw[hf]at c3;have c4:=KW false;refine aO aL func225 rfl call225 ntmps225 (WA results225) λS=>?_;conv=>whnf
    repeat'((first|refine awz ?_|refine cP (c1) ?_|refine cP (c2) ?_|refine cP (c3) ?_|refine tW ?_ ?_|intro h)<;>conv=>whnf)
    all_goals first
      |exact⟨(⟨_,_,_,_,_⟩,_),trivial,rfl⟩
      | ((refine TB aL 4 10 k6 lc ae ae ae rfl ?_; conv => whnf)
         repeat'(first|refine awz ?_|(refine cP (c4) ?_;conv=>whnf)|fail)
         all_goals exact⟨(⟨_,_,_,_,_⟩,_),trivial,rfl⟩)
  |some x=>
    rw[hf]at c3;have c4:=KW true;refine aO aL func225 rfl call225 ntmps225 (WA results225) λS=>?_;conv=>whnf
    repeat'((first|refine awz ?_|refine cP (c1) ?_|refine cP (c2) ?_|refine cP (c3) ?_|refine tW ?_ ?_|intro h)<;>conv=>whnf)
    all_goals first
      |exact⟨(⟨_,_,_,_,_⟩,_),trivial,rfl⟩
      | ((refine TB aL 4 10 k6 lc ae ae ae rfl ?_; conv => whnf)
         repeat'(first|refine awz ?_|(refine cP (c4) ?_;conv=>whnf)|fail)
         all_goals exact⟨(⟨_,_,_,_,_⟩,_),trivial,rfl⟩)
def J4(y:xu):Prop:=y.ents.length<=20
theorem GU(n:DLogNode)(i:Int)(f:kx n):bq av 219 [.agg n.ds,pI i] J4 (λy=> .val (.agg y.ds)):=by
 have hsh:=f.short;have c1:=l4 n (by have:=hsh.h1;omega) (by have:=hsh.ow;omega) (by have:=hsh.sn;omega) (by have:=hsh.h2;omega);rw[f.ok]at c1;have h20:=(bh f.book).2.2.2.1;have c2:=aN i 1 2001;cases hi:aI i 1 2001 with
 |false=>
  rw[hi]at c2;refine aO aL func219 rfl call219 ntmps219 (WA results219) λS=>?_;conv=>whnf
  repeat'((first|refine awz ?_|refine cP (c1) ?_|refine cP (c2) ?_|fail)<;>conv=>whnf)
  all_goals exact⟨⟨0,0,[]⟩,by simp[J4],rfl⟩
 |true=>
  rw[hi]at c2;have c3:=l9 n.book i n.durable h20;have hpl:(jE n.book i n.durable).length<=20:=by
   have:(jE n.book i n.durable).length<=n.book.entries.length:=List.length_filter_le _ _;omega
  generalize jE n.book i n.durable=p at c3 hpl;by_cases h3:3<p.length
  ·have q:decide (((p.map DEntry.ds).length:Int)>3)=true:=al;refine aO aL func219 rfl call219 ntmps219 (WA results219) λS=>?_;conv=>whnf
   repeat'((first|refine awz ?_|refine cP (c1) ?_|refine cP (c2) ?_|refine cP (c3) ?_|refine⟨0,3,by simp[F9],by simp[rW],ac,by simp;omega,?_⟩|refine And.intro (λx hx=>by obtain⟨a,_,rfl⟩:=List.mem_map.1 hx;rfl) ?_|fail)<;>conv=>whnf)
   all_goals exact⟨⟨n.head.base,n.durable,p.take 3⟩,by simp[J4];omega,by simp[xu.ds]⟩
  ·have q:decide (((p.map DEntry.ds).length:Int)>3)=false:=al;refine aO aL func219 rfl call219 ntmps219 (WA results219) λS=>?_;conv=>whnf
   repeat'((first|refine awz ?_|refine cP (c1) ?_|refine cP (c2) ?_|refine cP (c3) ?_|fail)<;>conv=>whnf)
   all_goals exact⟨⟨n.head.base,n.durable,p⟩,hpl,rfl⟩
def rb:List (List Nat):=a8 [0,0,2,0,259,5,6,0,8,0,649,11,12,839,897,0xf38d30b2892071851030813cf]
def rA:List (List Nat):=a8 [0,1,129,0,4,324,3238551813,0,35670845825091]
def rL:List (List Nat):=dN 8 [5076,5077,5080,4400,4427,4508,4738,2186]
def rc:List (List Nat):=a8 [0,1,0,0,259,5,0,0,8,583,10,710,12,834,0x38d30b289207185103081,0xe34c2ca2481c61440c204e38f]
def L3(l:List Int):Prop:=l.length<=1000
theorem GO(e:DEntry):bq av 275 [.agg e.ds] (λl:List Int=>l.length<=9) (λl=> .val (.one (.sl (l.map eI)))):=by
 cases h:bn e with
 |true=>
  have c:aM av 275 [.agg e.ds] (.val (.one (.sl ((uG e).map eI)))):=cV.data (x8 e h) rfl rfl;exact c.q (uG e) (by simp[uG,opL]) rfl
 |false=>
  have c1:=ba e;rw[h]at c1;refine aO aL func275 rfl call275 ntmps275 (WA results275) λS=>?_;conv=>whnf
  repeat'(first|refine awz ?_|(refine cP (c1) ?_;conv=>whnf)|fail)
  all_goals exact⟨[],by simp,rfl⟩
theorem Jh(f:xu)(hf:J4 f):bq av 218 [.agg f.ds] L3 (λl=> .val (.one (.sl (l.map eI)))):=by
 have hf:f.ents.length<=20:=hf;refine aO aL func218 rfl call218 ntmps218 (WA results218) λS=>?_;conv=>whnf
 repeat'((first|refine awz ?_|refine aG.q (xl f ac) rfl λb _=>?_|refine tW ?_ ?_|intro h)<;>conv=>whnf)
 ·exact⟨[],by simp[L3],rfl⟩
 ·refine TE (λg:Nat×List Int=>g.1<=f.ents.length/\g.2.length<=3+9*g.1) (13::[3,4,14,15,16,17,18,19,20,21,22,23,24,25,26,27,28]) (λg=>[(3,.one (.own 13)),(4,vI .i64 (g.1:Int))]) (λg=>[(1,.cells 270 (f.ds.map .d)),(13,.row 2 1 (g.2.map eI))]) (λg=>f.ents.length-g.1) (0,[4,f.base,f.last]) ⟨Nat.zero_le _,by simp⟩ ?_ sbW (λg hg=>?_)<;>(conv=>whnf)
  ·exact whd
  ·obtain⟨k,l⟩:=g;obtain⟨hk,hl⟩:=hg;simp only at hk hl;by_cases hlt:k<f.ents.length
   ·have hc:decide ((k:Int)<((f.ents.map DEntry.ds).length:Int))=true:=al;repeat'((first|refine awz ?_|refine TJ hlt ?_|refine aG.q (GO f.ents[k]) rfl λy hy=>?_|refine aP (by first|(intro y hy;obtain⟨a,_,rfl⟩:=List.mem_map.1 hy;rfl)|(simp;done)) ?_|refine aQ ak ?_|refine Tz ac ac ?_|fail)<;>conv=>whnf)
    all_goals
     refine aW.mk ⟨(k+1,l++y),⟨hlt,by simp;omega⟩,by show f.ents.length-(k+1)<f.ents.length-k;omega,?_,Tu rfl (Tu (by rw[map_append];rfl) Tx)⟩;exact hds
   ·have e:k=f.ents.length:=ac;subst e;have hc:decide ((f.ents.length:Int)<((f.ents.map DEntry.ds).length:Int))=false:=ai;repeat'(first|refine awz ?_|fail)
    all_goals exact⟨l,by unfold L3;omega,rfl⟩
theorem Jo(j:DJobs)(hj:j.opens.length<=8):bq av 228 [.agg j.ds] L3 (λl=> .val (.one (.sl (l.map eI)))):=by
 refine aO aL func228 rfl call228 ntmps228 (WA results228) λS=>?_;conv=>whnf
 repeat'((first|refine awz ?_|refine cP (kb j) ?_|refine tW ?_ ?_|intro h)<;>conv=>whnf)
 ·exact⟨[],by simp[L3],rfl⟩
 ·refine TE (λg:Nat×List Int=>g.1<=j.opens.length/\g.2.length<=6+2*g.1) (19::[3,4,20,21,22,23,24,25,26,27,28,29,30,31,32,33,34,35,36,37,38,39,40,41]) (λg=>[(3,.one (.own 19)),(4,vI .i64 (g.1:Int))]) (λg=>[(1,.cells 61 (j.ds.map .d)),(19,.row 2 1 (g.2.map eI))]) (λg=>j.opens.length-g.1) (0,[9,j.index,j.time,j.holder,j.epoch,j.til]) ⟨Nat.zero_le _,by simp⟩ ?_ sbW (λg hg=>?_)<;>(conv=>whnf)
  ·exact whd
  ·obtain⟨k,l⟩:=g;obtain⟨hk,hl⟩:=hg;simp only at hk hl;by_cases hlt:k<j.opens.length
   ·have hc:decide ((k:Int)<((j.opens.map DDue.ds).length:Int))=true:=al;repeat'(first|refine awz ?_|(refine TD aL 7 (tkc [0,1,2,3,4,5,6,7,8,9,10,11,12] (.one 13 (.one 14 (.take 15 .done)))) [(1,9980)] rb ae ae ae ae (λRz=>?_);(conv=>whnf);intro bp0 up0;(conv=>whnf))|((first|refine TJ hlt ?_|refine aQ ak ?_|refine Tz ac ac ?_|fail)<;>conv=>whnf))
    all_goals
     refine aW.mk ⟨(k+1,l++[j.opens[k].id,j.opens[k].due]),⟨hlt,by simp;omega⟩,by show j.opens.length-(k+1)<j.opens.length-k;omega,?_,Tu rfl (Tu (by rw[map_append];rfl) Tx)⟩;exact hds
   ·have e:k=j.opens.length:=ac;subst e;have hc:decide ((j.opens.length:Int)<((j.opens.map DDue.ds).length:Int))=false:=ai;repeat'(first|refine awz ?_|fail)
    all_goals exact⟨l,by unfold L3;omega,rfl⟩
theorem K7{l:List Int}{m c:Nat}:((((l.map eI).length:Nat):Int).tmod (m:Int) !=(c:Int))= !decide (l.length % m=c):=by
 rw[length_map,Int.tmod_eq_emod_of_nonneg ac,Bool.eq_iff_iff];simp;omega
theorem Js(l:List Int):bq av 222 [.one (.sl (l.map eI))] (λy:xu×Bool=>y.1.ents.length<=1000) (λy=> .tup [.agg y.1.ds,.one (dB y.2)]):=by
 rcases l with _|⟨a,r⟩
 ·refine aO aL func222 rfl call222 ntmps222 (WA results222) λS=>?_;conv=>whnf
  repeat'(first|refine awz ?_|fail)
  all_goals exact⟨(⟨0,0,[]⟩,false),by simp,rfl⟩
 ·have hm:=K7 (l:=a::r) (m:=9) (c:=3);have e0:(((a::r).map eI).length:Int)=((a::r).length:Int):=by rw[length_map]
  have hne:(9:Int)≠0:=ah;by_cases h1:(a::r).length<3
  ·have q1:decide ((((a::r).map eI).length:Int)<3)=true:=by rw[e0,decide_eq_true_eq];omega
   refine aO aL func222 rfl call222 ntmps222 (WA results222) λS=>?_;conv=>whnf
   repeat'(first|refine awz ?_|fail)
   all_goals exact⟨(⟨0,0,[]⟩,false),by simp,rfl⟩
  ·have q1:decide ((((a::r).map eI).length:Int)<3)=false:=by rw[e0,decide_eq_false_iff_not];omega
   by_cases h2:(a::r).length>30
   ·have q2:decide ((((a::r).map eI).length:Int)>30)=true:=by rw[e0,decide_eq_true_eq];omega
    refine aO aL func222 rfl call222 ntmps222 (WA results222) λS=>?_;conv=>whnf
    repeat'(first|refine awz ?_|fail)
    all_goals exact⟨(⟨0,0,[]⟩,false),by simp,rfl⟩
   ·have q2:decide ((((a::r).map eI).length:Int)>30)=false:=by rw[e0,decide_eq_false_iff_not];omega
    by_cases h3:(a::r).length % 9=3
    ·have q3:((((a::r).map eI).length:Int).tmod 9 !=3)=false:=by rw[show(9:Int)=((9:Nat):Int)from rfl,show(3:Int)=((3:Nat):Int)from rfl,hm];simpa using h3
     obtain⟨b,r2,rfl,_⟩:=aZ (l:=r) (n:=r.length-1) (by simp only[length_cons]at h1 h2 h3⊢;omega);obtain⟨c,r3,rfl,_⟩:=aZ (l:=r2) (n:=r2.length-1) (by simp only[length_cons]at h1 h2 h3⊢;omega);generalize hL:a::b::c::r3=L at*
     have g0:(L.map eI)[0]? =some (eI a):=by rw[<-hL];rfl
     have g1:(L.map eI)[1]? =some (eI b):=by rw[<-hL];rfl
     have g2:(L.map eI)[2]? =some (eI c):=by rw[<-hL];rfl
     refine aO aL func222 rfl call222 ntmps222 (WA results222) λS=>?_;conv=>whnf
     repeat'((first|refine awz ?_|refine And.intro hne ?_|refine Ty 0 _ rfl g0 ?_|refine Ty 1 _ rfl g1 ?_|refine Ty 2 _ rfl g2 ?_|refine TB aL 3 8 rA rL ae ae ae rfl ?_|refine tW ?_ ?_|intro h)<;>conv=>whnf)
     ·exact⟨(⟨0,0,[]⟩,false),by simp,rfl⟩
     ·refine TZ 4 2 45 244 9 ah ?_;conv=>whnf
      repeat'(first|refine awz ?_|fail)
      refine TE (λg:Nat×List DEntry=>g.1 % 9=3/\g.1<=L.length/\g.2.length<=g.1) (3::5::6::7::rg 36 24) (λg=>[(5,vI .i64 (g.1:Int))]) (λg=>[(2,.cells 270 [.d (dI 0),.d (dI 0),.nil]),(4,.cells 270 [.d (dI b),.d (dI c),.own 45]),(45,.row 244 9 (g.2.map DEntry.ds))]) (λg=>L.length-g.1) (3,[]) ⟨rfl,by simp only;omega,by simp⟩ ?_ sbW (λg hg=>?_)<;>(conv=>whnf)
      ·exact whd
      ·have hL1:3<=L.length:=ac;obtain⟨k,es⟩:=g;obtain⟨hp,hk,hes⟩:=hg;simp only at hp hk hes;have e0:((L.map eI).length:Int)=(L.length:Int):=by rw[length_map]
       by_cases hlt:k<L.length
       ·have hc:decide ((k:Int)<((L.map eI).length:Int))=true:=by rw[e0,decide_eq_true_eq];omega
        have hcut:List.drop k (List.take (k+9) (L.map eI))=((L.drop k).take 9).map eI:=by
         rw[List.drop_take,show k+9-k=9 by omega,List.map_take,List.map_drop]
        have ce:=yj ((L.drop k).take 9);unfold xd at ce;generalize ((f9 ((L.drop k).take 9)).getD PK)=e at ce;repeat'((first|refine awz ?_|refine Tz ac ac ?_|(refine⟨k,k+9,rfl,rfl,ac,aj,(λx hx=>by obtain⟨a,_,rfl⟩:=List.mem_map.1 hx;rfl),?_⟩;rw[hcut])|refine cP (ce) ?_|refine aQ ak ?_|refine tW ?_ ?_|intro h)<;>conv=>whnf)
        ·exact⟨(⟨0,0,[]⟩,false),by simp,rfl⟩
        ·refine aW.mk ⟨(k+9,es++[e]),⟨by simp only;omega,by simp only;omega,by simp;omega⟩,by show L.length-(k+9)<L.length-k;omega,?_,Tu rfl (Tu rfl (Tu (by rw[map_append];rfl) Tx))⟩;exact hds
       ·have hc:decide ((k:Int)<((L.map eI).length:Int))=false:=by rw[e0,decide_eq_false_iff_not];omega
        repeat'(first|refine awz ?_|(refine aG.freeze 45 244 9 (es.map DEntry.ds) rfl ?_;(conv=>whnf);refine aG.q (xl ⟨b,c,es⟩ ao) rfl λy hy=>?_;conv=>whnf)|refine tW ?_ ?_|(intro h;conv=>whnf))
        all_goals first|exact⟨(⟨0,0,[]⟩,false),by simp,rfl⟩|exact⟨(⟨b,c,es⟩,true),by simp only;omega,rfl⟩
    ·have q3:((((a::r).map eI).length:Int).tmod 9 !=3)=true:=by rw[show(9:Int)=((9:Nat):Int)from rfl,show(3:Int)=((3:Nat):Int)from rfl,hm];simpa using h3
     refine aO aL func222 rfl call222 ntmps222 (WA results222) λS=>?_;conv=>whnf
     repeat'(first|refine awz ?_|(refine And.intro hne ?_;conv=>whnf)|fail)
     all_goals exact⟨(⟨0,0,[]⟩,false),by simp,rfl⟩
theorem Ju(l:List Int):bq av 286 [.one (.sl (l.map eI))] (λy:DJobs×Bool=>y.1.opens.length<=1000) (λy=> .tup [.agg y.1.ds,.one (dB y.2)]):=by
 rcases l with _|⟨a,r⟩
 ·refine aO aL func286 rfl call286 ntmps286 (WA results286) λS=>?_;conv=>whnf
  repeat'(first|refine awz ?_|fail)
  all_goals exact⟨(⟨0,0,0,0,0,[]⟩,false),by simp,rfl⟩
 ·have hm:=K7 (l:=a::r) (m:=2) (c:=0);have e0:(((a::r).map eI).length:Int)=((a::r).length:Int):=by rw[length_map]
  have hne:(2:Int)≠0:=ah;by_cases h1:(a::r).length<6
  ·have q1:decide ((((a::r).map eI).length:Int)<6)=true:=by rw[e0,decide_eq_true_eq];omega
   refine aO aL func286 rfl call286 ntmps286 (WA results286) λS=>?_;conv=>whnf
   repeat'(first|refine awz ?_|fail)
   all_goals exact⟨(⟨0,0,0,0,0,[]⟩,false),by simp,rfl⟩
  ·have q1:decide ((((a::r).map eI).length:Int)<6)=false:=by rw[e0,decide_eq_false_iff_not];omega
   by_cases h2:(a::r).length>22
   ·have q2:decide ((((a::r).map eI).length:Int)>22)=true:=by rw[e0,decide_eq_true_eq];omega
    refine aO aL func286 rfl call286 ntmps286 (WA results286) λS=>?_;conv=>whnf
    repeat'(first|refine awz ?_|fail)
    all_goals exact⟨(⟨0,0,0,0,0,[]⟩,false),by simp,rfl⟩
   ·have q2:decide ((((a::r).map eI).length:Int)>22)=false:=by rw[e0,decide_eq_false_iff_not];omega
    by_cases h3:(a::r).length % 2=0
    ·have q3:((((a::r).map eI).length:Int).tmod 2 !=0)=false:=by rw[show(2:Int)=((2:Nat):Int)from rfl,show(0:Int)=((0:Nat):Int)from rfl,hm];simpa using h3
     obtain⟨b,r2,rfl,_⟩:=aZ (l:=r) (n:=r.length-1) (by simp only[length_cons]at h1 h2 h3⊢;omega);obtain⟨c,r3,rfl,_⟩:=aZ (l:=r2) (n:=r2.length-1) (by simp only[length_cons]at h1 h2 h3⊢;omega);obtain⟨d,r4,rfl,_⟩:=aZ (l:=r3) (n:=r3.length-1) (by simp only[length_cons]at h1 h2 h3⊢;omega);obtain⟨e,r5,rfl,_⟩:=aZ (l:=r4) (n:=r4.length-1) (by simp only[length_cons]at h1 h2 h3⊢;omega);obtain⟨f,r6,rfl,_⟩:=aZ (l:=r5) (n:=r5.length-1) (by simp only[length_cons]at h1 h2 h3⊢;omega);generalize hL:a::b::c::d::e::f::r6=L at*
     have g0:(L.map eI)[0]? =some (eI a):=by rw[<-hL];rfl
     have g1:(L.map eI)[1]? =some (eI b):=by rw[<-hL];rfl
     have g2:(L.map eI)[2]? =some (eI c):=by rw[<-hL];rfl
     have g3:(L.map eI)[3]? =some (eI d):=by rw[<-hL];rfl
     have g4:(L.map eI)[4]? =some (eI e):=by rw[<-hL];rfl
     have g5:(L.map eI)[5]? =some (eI f):=by rw[<-hL];rfl
     refine aO aL func286 rfl call286 ntmps286 (WA results286) λS=>?_;conv=>whnf
     repeat'((first|refine awz ?_|refine And.intro hne ?_|refine Ty 0 _ rfl g0 ?_|refine Ty 1 _ rfl g1 ?_|refine Ty 2 _ rfl g2 ?_|refine Ty 3 _ rfl g3 ?_|refine Ty 4 _ rfl g4 ?_|refine Ty 5 _ rfl g5 ?_|refine TB aL 3 17 ie ii ae ae ae rfl ?_|refine tW ?_ ?_|intro h)<;>conv=>whnf)
     ·exact⟨(⟨0,0,0,0,0,[]⟩,false),by simp,rfl⟩
     ·refine TZ 4 5 45 335 2 ah ?_;conv=>whnf
      repeat'(first|refine awz ?_|fail)
      refine TE (λg:Nat×List DDue=>g.1 % 2=0/\g.1<=L.length/\g.2.length<=g.1) (5::rg 43 21) (λg=>[(5,vI .i64 (g.1:Int))]) (λg=>[(2,.cells 61 [.d (dI 0),.d (dI 0),.d (dI 0),.d (dI 0),.d (dI 0),.nil]),(4,.cells 61 [.d (dI b),.d (dI c),.d (dI d),.d (dI e),.d (dI f),.own 45]),(45,.row 335 2 (g.2.map DDue.ds))]) (λg=>L.length-g.1) (6,[]) ⟨rfl,by simp only;omega,by simp⟩ ?_ sbW (λg hg=>?_)<;>(conv=>whnf)
      ·exact whd
      ·obtain⟨k,es⟩:=g;obtain⟨hp,hk,hes⟩:=hg;simp only at hp hk hes;have e0:((L.map eI).length:Int)=(L.length:Int):=by rw[length_map]
       by_cases hlt:k<L.length
       ·have hc:decide ((k:Int)<((L.map eI).length:Int))=true:=by rw[e0,decide_eq_true_eq];omega
        have hk1:k+1<L.length:=ac;have gk:(L.map eI)[k]? =some (eI L[k]):=by rw[List.getElem?_map,List.getElem?_eq_getElem hlt];rfl
        have gk1:(L.map eI)[k+1]? =some (eI L[k+1]):=by rw[List.getElem?_map,List.getElem?_eq_getElem hk1];rfl
        repeat'(first|refine awz ?_|(refine TD aL 7 (tkc [0,2,3,4,5,6,7] (.two 1 (.one 8 (.take 9 (onc [10,11,12,13] (.take 14 (.one 15 .done))))) 8 (.take 9 (.two 1 (onc [10,11,12,13] (.take 14 (.one 15 .done))) 10 (.two 1 (onc [11,12,13] (.take 14 (.one 15 .done))) 11 (.two 1 (.one 12 (.one 13 (.take 14 (.one 15 .done)))) 12 (.one 1 (.one 13 (.take 14 (.one 15 .done)))))))))) [] rc ae ae ae ae (λRz=>?_);(conv=>whnf))|((first|refine Ty k _ rfl gk ?_|refine Ty (k+1) _ rfl gk1 ?_|refine aQ ak ?_|refine Tz ac ac ?_|fail)<;>conv=>whnf)|refine tW ?_ ?_|fail)
        all_goals
         refine aW.mk ⟨(k+2,es++[⟨L[k],L[k+1]⟩]),⟨by simp only;omega,by simp only;omega,by simp;omega⟩,by show L.length-(k+2)<L.length-k;omega,?_,Tu rfl (Tu rfl (Tu (by rw[map_append];rfl) Tx))⟩;exact hds
       ·have hc:decide ((k:Int)<((L.map eI).length:Int))=false:=by rw[e0,decide_eq_false_iff_not];omega
        repeat'(first|refine awz ?_|(refine aG.freeze 45 335 2 (es.map DDue.ds) rfl ?_;(conv=>whnf);refine Tt (kb ⟨b,c,d,e,f,es⟩) rfl ?_;conv=>whnf)|refine tW ?_ ?_|(intro h;conv=>whnf))
        all_goals first|exact⟨(⟨0,0,0,0,0,[]⟩,false),by simp,rfl⟩|exact⟨(⟨b,c,d,e,f,es⟩,true),by simp only;omega,rfl⟩
    ·have q3:((((a::r).map eI).length:Int).tmod 2 !=0)=true:=by rw[show(2:Int)=((2:Nat):Int)from rfl,show(0:Int)=((0:Nat):Int)from rfl,hm];simpa using h3
     refine aO aL func286 rfl call286 ntmps286 (WA results286) λS=>?_;conv=>whnf
     repeat'(first|refine awz ?_|(refine And.intro hne ?_;conv=>whnf)|fail)
     all_goals exact⟨(⟨0,0,0,0,0,[]⟩,false),by simp,rfl⟩
section
variable {Z Z':Nat->Prop}{ρ:Nat->Value}{v:Value}{w w':World}
def AD.anyC:AD->AC
 | .pv v=> .d (.pv v)
 |_=> .d (.x λ_ _ _=>True)
def AP1.anyV:AP1->AV
 | .one d=> .one d.anyC
 | .agg ds=> .agg (ds.map AD.anyC)
def AP.anyV:AP->AV
 | .val p=>p.anyV
 | .tup ps=> .tup (ps.map AP1.anyV)
theorem bK.anyC{d:AD}(h:bK Z w d v):dZ Z' w' ρ d.anyC v:=by
 have h1:=h.one;cases h with
 |pv _ h1=>exact bK.pv _ h1
 |_=>exact bK.x _ _ h1 λ_ _ _ _=>trivial
theorem dJ.anyV{p:AP1}(h:dJ Z w p v):bv Z' w' ρ p.anyV v:=by
 cases p with
 |one d=>exact .one _ _ (bK.anyC h)
 |agg ds=>
  obtain⟨us,rfl,hl,hr⟩:=h;refine .agg _ us (by simp[hl]) λi c u hc hu=>?_;rw[List.getElem?_map]at hc;obtain⟨d,hd,rfl⟩:=Option.map_eq_some_iff.1 hc;exact(hr i d u hd hu).anyC
theorem qR.anyV{p:AP}(h:qR Z w p v):bv Z' w' ρ p.anyV v:=by
 cases p with
 |val p=>exact dJ.anyV h
 |tup ps=>
  obtain⟨us,rfl,hl,hr⟩:=h;refine .tup _ us (by simp[hl]) λi x u hx hu=>?_;rw[List.getElem?_map]at hx;obtain⟨q,hq,rfl⟩:=Option.map_eq_some_iff.1 hx;exact(hr i q u hq hu).anyV
theorem T1{E:a6}{S:bj}{st:ASt}{f:FuncId}{args:List AV}{K:AV->ASt->Prop}{ps:List AP1}{res:AP}(hc:aM E f ps res)(hps:aRs st.ob args (· =ps))(hk:K res.anyV st):aG E S f args st K:=by
 refine⟨hc.enter,λZ ρ a w us hs hl hr=>?_⟩;obtain⟨ps',h1,h2,rfl⟩:=g8 hs.ws hl hr hps;refine(hc.run (g6 Z ρ st.ob) w us (g6.lt hs.ws) ?_ h1 h2).mono ?_
 ·obtain⟨w1,g1,g2,g3⟩:=hs.ws.g;exact⟨w1,g1,g2,λb hb=> .inl (g3 b hb)⟩
 ·rintro e w' ⟨v,Z',rfl,hb,hz,hz2,hv⟩;exact⟨v,res.anyV,st,Z,ρ,rfl,hs.grow (eJ hb) (λ_ h=>h) (λ_ h=> .inl h),hv.anyV,hk⟩
end
def oL:List (List Nat):=a8 [0,1,2,3,0,0,4,0,35671935824001,0,0xa2481c61440c204724a]
def uN:DWorld:=⟨pW ⟨⟨[],[]⟩,⟨[],[]⟩⟩,⟨⟨[],[]⟩,fb,0,0,0⟩,fW 0,fW 0,⟨0,[],[],0⟩,⟨0,[],[],0⟩,⟨[],[]⟩,[],[]⟩
theorem IO(ann bob:List DWant)(ha:ann.length<=1000)(hb:bob.length<=1000):DWorld.small 1048576 (pk ann bob):=by
 have c1:DClient.small 1048576 (dU 4 ann):=by
  unfold dU;simp only;split
  ·exact⟨by simp only;omega,by simp⟩
  ·exact⟨by simp,by simp⟩
 have c2:DClient.small 1048576 (dU 5 bob):=by
  unfold dU;simp only;split
  ·exact⟨by simp only;omega,by simp⟩
  ·exact⟨by simp,by simp⟩
 have d1:DDisk.small 1048576 it:=dd (iW (jn (pi ac) ah ah (fx vh ah)));have d2:DDisk.small 1048576 (fU 8):=dd (pi ac);refine⟨?_,?_,?_,?_,c1,c2,?_,?_⟩
 ·exact⟨⟨d1,d1⟩,by simp[pk,pW,d8,DHead.small],by simp[pk,pW,d8,DHead.small],by simp[pk,pW,DBook.small],by simp[pk,pW],by simp[pk,pW]⟩
 ·exact⟨d2,by simp[pk,vX,fb,DState.small]⟩
 ·simp[pk,fW,DSched.small,DView.small,DJobs.small]
 ·simp[pk,fW,DSched.small,DView.small,DJobs.small]
 ·simp[pk,DNet.small]
 ·simp[pk]
theorem BZ(x:DNet)(hs:DNet.small 1048576 x):cV av 83 [.agg (x.ds.map .d)] [] [(40,.row 120 3 (x.flight.map DMsg.ds))] [] (.val (.agg [.own 40,.d (.sl (x.cuts.map DLink.ds))])):=by
 obtain⟨h1,h2,h3⟩:=(show x.flight.length<=1048576/\(∀y∈x.flight,DMsg.small 1048576 y)/\x.cuts.length<=1048576 from hs);refine bL aL func83 rfl call83 ntmps83 (WA results83) rfl λS pv=>?_;conv=>whnf
 repeat'((first|refine awz ?_|refine aP (by first|(intro y hy;obtain⟨a,_,rfl⟩:=List.mem_map.1 hy;rfl)|(simp;done)) ?_|refine aQ ak ?_|fail)<;>conv=>whnf)
 refine TZ 3 0 40 120 3 ah ?_;conv=>whnf
 repeat'(first|refine awz ?_|fail)
 refine TE (λk:Nat=>k<=x.flight.length) (4::rg 10 32) (λk=>[(4,vI .i64 (k:Int))]) (λk=>[(9999,.frame (cE []) pv),(1,.cells 75 (x.ds.map .d)),(2,.cells 75 [.nil,.nil]),(3,.cells 75 [.own 40,.own 5]),(5,.row 161 2 (x.cuts.map DLink.ds)),(40,.row 120 3 ((x.flight.take k).map DMsg.ds))]) (λk=>x.flight.length-k) 0 (Nat.zero_le _) ?_ sbW (λk hk=>?_)<;>(conv=>whnf)
 ·exact whd
 ·by_cases hlt:k<x.flight.length
  ·have hc:decide ((k:Int)<((x.flight.map DMsg.ds).length:Int))=true:=al;have c1:=cH x.flight[k].row (h2 _ (List.getElem_mem hlt));repeat'(first|refine awz ?_|fail)
   (refine TD aL 5 (tkc [0,2,3,4,5,6,7,8,9,10,11,12,13,14,15,16,17,18,19] (.two 1 (onc [20,21,22,23] (.take 24 (.one 25 .done))) 20 (.two 1 (onc [21,22,23] (.take 24 (.one 25 .done))) 21 (.two 1 (.one 22 (.one 23 (.take 24 (.one 25 .done)))) 22 (.one 1 (.one 23 (.take 24 (.one 25 .done)))))))) [(1,9980)] mO ae ae ae ae (λRz=>?_);(conv=>whnf);intro bp0 up0;(conv=>whnf))
   repeat'((first|refine awz ?_|refine TJ hlt ?_|refine cP (c1) ?_|refine aQ ak ?_|refine Tz ac ac ?_|refine tW ?_ ?_|fail)<;>conv=>whnf)
   all_goals
    refine aW.mk ⟨k+1,hlt,ac,?_,Tu rfl (Tu rfl (Tu rfl (Tu rfl (Tu rfl (Tu (congrArg some (congrArg (AO.row 120 3) (gY DMsg.ds hlt).symm)) Tx)))))⟩;exact hds
  ·have e:k=x.flight.length:=ac;subst e;have hc:decide ((x.flight.length:Int)<((x.flight.map DMsg.ds).length:Int))=false:=ai;rw[List.take_length];repeat'(first|refine awz ?_|exact rZ|fail)
def DWorld.ow(i j k:Nat)(x:DWorld):List AC:=(x.ds.take 69).map .d++[.own i,.d (.sl (x.net.cuts.map DLink.ds)),.own j,.own k]
def wOn(i j k:Nat)(x:DWorld):List (Nat×AO):=[(i,.row 120 3 (x.net.flight.map DMsg.ds)),(j,.row 2 1 (x.clocks.map eI)),(k,.row 4 1 (x.up.map eB))]
abbrev DWorld.own(x:DWorld):List AC:=x.ow 41 42 43
abbrev wO(x:DWorld):List (Nat×AO):=wOn 41 42 43 x
abbrev wR(x:DWorld):AR:= .val (.agg x.own)
theorem p6(x:DSched)(hs:DSched.small 1048576 x):aM av 81 [.agg x.ds] (.val (.agg x.ds)):=(yz x hs).pcall
theorem ov(x:DClient)(hs:DClient.small 1048576 x):aM av 82 [.agg x.ds] (.val (.agg x.ds)):=(xp x hs).pcall
theorem BY(x:DLogNode)(hs:DLogNode.small 1048576 x):aM av 79 [.agg x.ds] (.val (.agg x.ds)):=(BX x hs).pcall
theorem yB(x:DStore)(hs:DStore.small 1048576 x):aM av 80 [.agg x.ds] (.val (.agg x.ds)):=(yA x hs).pcall
end Go.Proofs.YtlmoekpinpafeaaGreat
