/- TC2 -/
import Derived.Test.YtknefkdcokgpbaaGreatTB
import Derived.Test.YtknefkdcokgpbaaGreatIW2
import Derived.Test.YtknefkdcokgpbaaGreatAvFX
import Derived.Test.YtknefkdcokgpbaaGreatAvVC
import Derived.Test.YtknefkdcokgpbaaGreatWCp
import Derived.Test.YtknefkdcokgpbaaGreatIW1
set_option maxHeartbeats 8000000
set_option linter.unusedVariables false
set_option linter.unusedSimpArgs false
set_option maxRecDepth 100000
open List (mem_map)
namespace Go.Proofs.YtknefkdcokgpbaaGreat
section
open Go.Proofs.Tryz
open Go.ChangeShapes Go.WideShapes Go.RowKit
theorem Md(v:DView)(i:Int):aM av 258 [.agg v.ds,pI i] (rB (eE v.jobs&&decide (v.jobs.index<i))):=by
  have c1:=ut v;cases h1:eE v.jobs<;>rw[h1]at c1<;>(refine pO func258 call258 ntmps258 results258 λS=>?_;conv=>whnf)<;>repeat'(first|refine awz ?_|(refine XZ ai rfl ?_;conv=>whnf)|exact rZ|fail)
theorem o9(v:DView)(now:Int)(h:eE v.jobs=true):decide (mxI v.jobs.time now>=0)=true:=by
  have hj:=h;simp only[eE,Bool.and_eq_true,tOk,aK,decide_eq_true_eq]at hj;simp only[decide_eq_true_eq,ge_iff_le,T2];omega
section
variable (v:DView) (now:Int) (h:eE v.jobs=true) (ht:tOk now=true)
include h ht
theorem wa:aM av 345 [.agg v.ds,pI now] (.val (pI (mxI v.jobs.time now))):=by
  have c1:=ut v;rw[h]at c1;have c2:=qC now;rw[show aK now 0 1000000=true from ht]at c2;have c3:=Dd v.jobs.time now;refine pO func345 call345 ntmps345 results345 λS=>?_;conv=>whnf
  repeat'(first|refine awz ?_|(refine XZ ai rfl ?_;conv=>whnf)|exact rZ|fail)
theorem L7(who:Int)(hwho:d8 who=true):aM av 260 [.agg v.ds,pI who,pI now] (rB (v.jobs.holder==who&&decide (mxI v.jobs.time now<v.jobs.til))):=by
  have c1:=wa v now h ht;have c2:=pz who;rw[hwho]at c2;have q:=o9 v now h;cases h1:(v.jobs.holder==who)<;>(refine pO func260 call260 ntmps260 results260 λS=>?_;conv=>whnf)<;>repeat'(first|refine awz ?_|(refine XZ ai rfl ?_;conv=>whnf)|exact rZ|fail)
theorem OA:aM av 261 [.agg v.ds,pI now] (rB (v.jobs.holder==0||decide (v.jobs.til<=mxI v.jobs.time now))):=by
  have c1:=wa v now h ht;have q:=o9 v now h;cases h1:(v.jobs.holder==0)<;>(refine pO func261 call261 ntmps261 results261 λS=>?_;conv=>whnf)<;>repeat'(first|refine awz ?_|(refine XZ ai rfl ?_;conv=>whnf)|exact rZ|fail)
def PM(v:DView)(now:Int):List Int:=(v.jobs.opens.filter λd=>decide (d.due<=mxI v.jobs.time now)).map DDue.id
theorem OG:aM av 344 [.agg v.ds,pI now] (.val (.one (.sl ((PM v now).map eI)))):=by
  obtain⟨h8,hid,_⟩:=nT h;have c1:=wa v now h ht;have q:=o9 v now h;unfold PM;generalize mxI v.jobs.time now=gs at c1 q;generalize hD:(λl:List DDue=>(l.filter λd=>decide (d.due<=gs)).map DDue.id)=D;have hD0:∀l,(l.filter λd:DDue=>decide (d.due<=gs)).map DDue.id=D l:=λl=>by rw[<-hD]
  have hDs:∀(k:Nat) (hk:k<v.jobs.opens.length),D (v.jobs.opens.take (k+1))=D (v.jobs.opens.take k)++if decide (v.jobs.opens[k].due<=gs)then [v.jobs.opens[k].id]else []:=by
    intro k hk;rw[<-hD];simp only;rw[List.take_succ_eq_append_getElem hk,List.filter_append,List.map_append];congr 1;cases e:decide (v.jobs.opens[k].due<=gs)<;>simp[List.filter,e]
  have hDl:∀l,(D l).length<=l.length:=λl=>by rw[<-hD0,List.length_map];exact List.length_filter_le ..
  rw[hD0];have hD1:D []=[]:=by rw[<-hD0];rfl
  clear hD hD0;refine pO func344 call344 ntmps344 results344 λS=>?_;conv=>whnf
  repeat'(first|refine awz ?_|(refine XZ ai rfl ?_;conv=>whnf)|fail)
  refine X5 (λk:Nat=>k<=v.jobs.opens.length) (8::[5,7,12,13,14,15,16,17,18,19,20,21,22,23,24,25,26,27,28,29,30,31,32,33,34,35,36,37,38,39,40,41,42]) (λk=>[(5,.one (.own 8)),(6,vI .i64 gs),(7,vI .i64 (k:Int))]) (λk=>[(2,.cells 92 (v.ds.map .d)),(8,.row 2 1 ((D (v.jobs.opens.take k)).map eI))]) (λk=>v.jobs.opens.length-k) 0 (Nat.zero_le _) ?_ (X0 rfl (X0 (by rw[List.take_zero,hD1];rfl) X4)) (λk hk=>?_)<;>(conv=>whnf)
  · exact whd
  · by_cases hlt:k<v.jobs.opens.length
    · have hc:decide ((k:Int)<((v.jobs.opens.map DDue.ds).length:Int))=true:=al;have es:=hDs k hlt;have hl:=hDl (v.jobs.opens.take k);rw[List.length_take,Nat.min_eq_left hk]at hl;cases hd:decide (v.jobs.opens[k].due<=gs)with
      |true=>
        rw[hd,if_pos rfl]at es;repeat'((first|refine Yg hlt ?_|refine awz ?_|refine X3 ac ac ?_|refine aJ ao ?_|fail)<;>conv=>whnf)
        all_goals
          refine bd.mk ⟨k+1,hlt,ac,?_,X0 rfl (X0 (by rw[es,List.map_append];rfl) X4)⟩;exact hds
      |false=>
        rw[hd,if_neg aj,List.append_nil]at es;repeat'(first|(refine Yg hlt ?_;conv=>whnf)|refine awz ?_|(refine X3 ac ac ?_;conv=>whnf)|fail)
        all_goals
          refine bd.mk ⟨k+1,hlt,ac,?_,X0 rfl (X0 (by rw[es];rfl) X4)⟩;exact hds
    · have e:k=v.jobs.opens.length:=ac;subst e;have hc:decide ((v.jobs.opens.length:Int)<((v.jobs.opens.map DDue.ds).length:Int))=false:=aj;rw[List.take_length];repeat'(first|refine awz ?_|exact rZ|fail)
def pOI(o:Option Int):AP:= .tup [.one (dI (o.getD 0)),.one (dB o.isSome)]
theorem J3:aM av 259 [.agg v.ds,pI now] (pOI (uK v.jobs (mxI v.jobs.time now))):=by
  have c1:=OG v now h ht;have e:uK v.jobs (mxI v.jobs.time now)=(PM v now).head? :=by
    rw[uK,PM,List.head?_map,List.head?_filter]
  rw[e];generalize PM v now=l at c1;rcases l with _|⟨a,r⟩
  · refine pO func259 call259 ntmps259 results259 λS=>?_;conv=>whnf
    repeat'(first|refine awz ?_|(refine XZ ai rfl ?_;conv=>whnf)|exact rZ|fail)
  · have q:((((a::r).map eI).length:Int)==0)=false:=al;refine pO func259 call259 ntmps259 results259 λS=>?_;conv=>whnf
    repeat'(first|(refine X8 0 (eI a) rfl rfl ?_;conv=>whnf)|refine awz ?_|(refine XZ ai rfl ?_;conv=>whnf)|exact rZ|fail)
end
theorem CS(s:DSched)(now:Int)(f:Ak s)(ht:tOk now=true):aM av 154 [.agg s.ds,pI now] (.val (.agg (cX s now).ds)):=by
  have c0:=qy s;rw[f.ok]at c0;obtain⟨h8,hid,he⟩:=nT f.jobs;have c1:=Mo s ac;have hq:=f.seq;have c2:=qC now;rw[show aK now 0 1000000=true from ht]at c2;have hx:d8 s.id=true:=by have:=f.id;simp[d8];omega
  have c3:=L7 s.view now f.jobs ht s.id hx;have c4:=OA s.view now f.jobs ht;have c5:=J3 s.view now f.jobs ht;have c6:=Md s.view s.index;rw[f.jobs,Bool.true_and]at c6;unfold cX;cases hb:s.busy with
  |true=>(refine pO func154 call154 ntmps154 results154 λS=>?_;conv=>whnf);repeat'(first|refine awz ?_|(refine XZ ai rfl ?_;conv=>whnf)|exact rZ|fail)
  |false=>
    cases hm:decide (2000<=s.seq)with
    |true=>have q:decide (s.seq>=2000)=true:=hm;(refine pO func154 call154 ntmps154 results154 λS=>?_;conv=>whnf);repeat'(first|refine awz ?_|(refine XZ ai rfl ?_;conv=>whnf)|exact rZ|fail)
    |false=>
      have q:decide (s.seq>=2000)=false:=hm;have q2:¬2000<=s.seq:=by simpa using hm
      cases hx:decide (s.view.jobs.index<s.index)with
      |true=>rw[hx]at c6;(refine pO func154 call154 ntmps154 results154 λS=>?_;conv=>whnf);repeat'(first|refine awz ?_|(refine XZ ai rfl ?_;conv=>whnf)|exact rZ|fail)
      |false=>
        rw[hx]at c6;rw[if_neg aj];cases h1:(s.view.jobs.holder==s.id&&decide (mxI s.view.jobs.time now<s.view.jobs.til))<;>cases h2:(s.view.jobs.holder==0||decide (s.view.jobs.til<=mxI s.view.jobs.time now))<;>cases h3:uK s.view.jobs (mxI s.view.jobs.time now)<;>rw[h1]at c3<;>rw[h2]at c4<;>rw[h3]at c5<;>unfold pOI at c5
        all_goals first
          | (exfalso
             simp only[Bool.and_eq_true,Bool.or_eq_true,beq_iff_eq,decide_eq_true_eq]at h1 h2;have:=f.id;omega)
          |((refine pO func154 call154 ntmps154 results154 λS=>?_;conv=>whnf);repeat'((first|refine awz ?_|refine XZ ai rfl ?_|refine X3 ac ac ?_|exact rZ|fail)<;>conv=>whnf))
theorem CW(s:DSched)(f:Ak s):aM av 155 [.agg s.ds] (.val (.one (.sl ((fg s).map DMsg.ds)))):=by
  have c0:=qy s;rw[f.ok]at c0;have c1:=Ma s.id;have c2:=Fw ⟨s.id,s.seq,s.op⟩;unfold fg;cases hb:s.busy with
  |true=>
    have q:(!s.busy)=false:=by rw[hb];rfl
    have c3:aM av 263 [.agg s.ds] (.tup [.agg (vw.ds ⟨s.id,s.seq,s.op⟩),.one (dB true)]):=by
      refine pO func263 call263 ntmps263 results263 λS=>?_;conv=>whnf
      repeat'(first|refine awz ?_|(refine XZ ai rfl ?_;conv=>whnf)|exact rZ|fail)
    refine pO func155 call155 ntmps155 results155 λS=>?_;conv=>whnf
    repeat'(first|refine awz ?_|(refine XZ ai rfl ?_;conv=>whnf)|fail)
    (refine X7 aN 3 (tkc [0,1,2,3] (onc [4,5,6] (.take 7 .done))) [(1,9980)] fY ae ae ae ae (λRz=>?_);(conv=>whnf);intro bp0 up0;(conv=>whnf))
    repeat'(first|refine awz ?_|(refine XZ ai rfl ?_;conv=>whnf)|fail)
    (refine X7 aN 6 (tkc [0,1,2,3] (onc [4,5,6,7] (.take 8 .done))) [(1,9980),(4,9981)] iN ae ae ae ae (λRz=>?_);(conv=>whnf);intro bp0 up0;(conv=>whnf);intro bp1 up1;(conv=>whnf))
    repeat'((first|refine awz ?_|refine XZ ai rfl ?_|refine aJ ao ?_|exact rZ|fail)<;>conv=>whnf)
  |false=>
    have q:(!s.busy)=true:=by rw[hb];rfl
    have c3:aM av 263 [.agg s.ds] (.tup [.agg (vw.ds ⟨0,0,op0⟩),.one (dB false)]):=by
      refine pO func263 call263 ntmps263 results263 λS=>?_;conv=>whnf
      repeat'(first|refine awz ?_|(refine XZ ai rfl ?_;conv=>whnf)|exact rZ|fail)
    refine pO func155 call155 ntmps155 results155 λS=>?_;conv=>whnf
    repeat'(first|refine awz ?_|(refine XZ ai rfl ?_;conv=>whnf)|fail)
    (refine X7 aN 3 (tkc [0,1,2,3] (onc [4,5,6] (.take 7 .done))) [(1,9980)] fY ae ae ae ae (λRz=>?_);(conv=>whnf);intro bp0 up0;(conv=>whnf))
    repeat'(first|refine awz ?_|(refine XZ ai rfl ?_;conv=>whnf)|exact rZ|fail)
end
open Go.Proofs.Tryz
open Go.ChangeShapes Go.WideShapes Go.RowKit
def sd:List (List Nat):=bZ [0,1,0,3,4,322,6,0,8,9,10,31204079050823,0x30b28920718510308130b]
theorem P9(a:vw):aM av 520 [.agg a.ds] (rB (wA a)):=by
 have c1:=jD a.client;have c2:=m0 a.seq;have c3:=qa a.op;unfold wA;cases h1:aK a.client 2 5<;>cases h2:aK a.seq 1 2000<;>cases h3:v7 a.op<;>rw[h1]at c1<;>rw[h2]at c2<;>rw[h3]at c3<;>(refine pO func520 call520 ntmps520 results520 λS=>?_;conv=>whnf)<;>repeat'(first|refine awz ?_|(refine XZ ai rfl ?_;conv=>whnf)|exact rZ|fail)
theorem Oe(a:rM):aM av 523 [.agg a.ds] (rB (nZ a)):=by
 have c1:=jD a.client;have c2:=m0 a.seq;have c3:=kq a.key;have c4:=be a.least 0 2000;unfold nZ;cases h1:aK a.client 2 5<;>cases h2:aK a.seq 1 2000<;>cases h3:aK a.key 0 9<;>cases h4:aK a.least 0 2000<;>rw[h1]at c1<;>rw[h2]at c2<;>rw[h3]at c3<;>rw[h4]at c4<;>(refine pO func523 call523 ntmps523 results523 λS=>?_;conv=>whnf)<;>repeat'(first|refine awz ?_|(refine XZ ai rfl ?_;conv=>whnf)|exact rZ|fail)
theorem IP(a:DAck):aM av 381 [.agg a.ds] (rB (hH a)):=by
 have c1:=jD a.client;have c2:=m0 a.seq;have c3:=be a.last a.seq 2000;have c4:=ld a.index;by_cases h:aK a.client 2 5=true/\aK a.seq 1 2000=true/\aK a.last a.seq 2000=true
 ·obtain⟨h1,h2,h3⟩:=h;rw[h1]at c1;rw[h2]at c2;rw[h3]at c3;have hle:a.seq<=a.last:=by simp only[aK,Bool.and_eq_true,decide_eq_true_eq]at h3;exact h3.1
  by_cases e:a.last=a.seq
  ·have q:(a.last==a.seq)=true:=by simpa using e
   rw[show hH a=aK a.index 1 2000 by simp only[hH,h1,h2,h3,Bool.true_and];rw[if_neg ac]];refine pO func381 call381 ntmps381 results381 λS=>?_;conv=>whnf
   repeat'(first|refine awz ?_|(refine XZ ai rfl ?_;conv=>whnf)|exact rZ|fail)
  ·have q:(a.last==a.seq)=false:=by simpa using e
   rw[show hH a=(a.index==0)by simp only[hH,h1,h2,h3,Bool.true_and];rw[if_pos ac]];refine pO func381 call381 ntmps381 results381 λS=>?_;conv=>whnf
   repeat'(first|refine awz ?_|(refine XZ ai rfl ?_;conv=>whnf)|exact rZ|fail)
 ·have e:hH a=false:=by
   cases h1:aK a.client 2 5<;>cases h2:aK a.seq 1 2000<;>cases h3:aK a.last a.seq 2000<;>simp_all[hH]
  rw[e];cases h1:aK a.client 2 5<;>cases h2:aK a.seq 1 2000<;>cases h3:aK a.last a.seq 2000<;>rw[h1]at c1<;>rw[h2]at c2<;>rw[h3]at c3
  all_goals first
   |(exfalso;exact h ⟨h1,h2,h3⟩)
   |((refine pO func381 call381 ntmps381 results381 λS=>?_;conv=>whnf);repeat'(first|refine awz ?_|(refine XZ ai rfl ?_;conv=>whnf)|exact rZ|fail))
theorem Qk(p:AP1):aM av 447 [.one (.x (IfR 323 p))] (.val (pI 1)):=by
 refine pO func447 call447 ntmps447 results447 λS=>?_;conv=>whnf
 repeat'(first|(refine Y4 aN rfl rfl ?_;conv=>whnf)|refine awz ?_|exact rZ|fail)
theorem Ql(p:AP1):aM av 447 [.one (.x (IfR 240 p))] (.val (pI 2)):=by
 refine pO func447 call447 ntmps447 results447 λS=>?_;conv=>whnf
 repeat'(first|(refine Y4 aN rfl rfl ?_;conv=>whnf)|refine awz ?_|exact rZ|fail)
theorem Qm(p:AP1):aM av 447 [.one (.x (IfR 399 p))] (.val (pI 3)):=by
 refine pO func447 call447 ntmps447 results447 λS=>?_;conv=>whnf
 repeat'(first|(refine Y4 aN rfl rfl ?_;conv=>whnf)|refine awz ?_|exact rZ|fail)
theorem Qn(p:AP1):aM av 447 [.one (.x (IfR 400 p))] (.val (pI 5)):=by
 refine pO func447 call447 ntmps447 results447 λS=>?_;conv=>whnf
 repeat'(first|(refine Y4 aN rfl rfl ?_;conv=>whnf)|refine awz ?_|exact rZ|fail)
theorem Qo(p:AP1):aM av 447 [.one (.x (IfR 330 p))] (.val (pI 6)):=by
 refine pO func447 call447 ntmps447 results447 λS=>?_;conv=>whnf
 repeat'(first|(refine Y4 aN rfl rfl ?_;conv=>whnf)|refine awz ?_|exact rZ|fail)
theorem Qp(p:AP1):aM av 447 [.one (.x (IfR 443 p))] (.val (pI 8)):=by
 refine pO func447 call447 ntmps447 results447 λS=>?_;conv=>whnf
 repeat'(first|(refine Y4 aN rfl rfl ?_;conv=>whnf)|refine awz ?_|exact rZ|fail)
theorem I6(o:DOp):aM av 515 [.agg o.ds] (.val (.one (.sl ((opL o).map eI)))):=by
 refine pO func515 call515 ntmps515 results515 λS=>?_;conv=>whnf
 repeat'(first|refine awz ?_|exact rZ|fail)
theorem Sa(a:vw):aM av 518 [.agg a.ds] (.val (.one (.sl (([a.client,a.seq]++opL a.op).map eI)))):=by
 have c1:=I6 a.op;refine pO func518 call518 ntmps518 results518 λS=>?_;conv=>whnf
 repeat'(first|refine awz ?_|fail)
 (refine X7 aN 1 (tkc [0,1,2,3,5,6] (.two 4 (.one 7 (.one 8 (.take 9 .done))) 7 (.one 4 (.one 8 (.take 9 .done))))) [(1,9980)] me ae ae ae ae (λRz=>?_);(conv=>whnf);intro bp0 up0;(conv=>whnf))
 repeat'((first|refine aJ (by simp[opL]) ?_|refine awz ?_|refine XZ ai rfl ?_|refine aI (by first|(intro y hy;obtain⟨a,_,rfl⟩:=mem_map.1 hy;rfl)|(simp;done)) ?_|exact rZ|refine tW ?_ ?_|fail)<;>conv=>whnf)
theorem RZ(a:DAck):aM av 516 [.agg a.ds] (.val (.one (.sl ([a.client,a.seq,a.index,a.last].map eI)))):=by
 refine pO func516 call516 ntmps516 results516 λS=>?_;conv=>whnf
 repeat'(first|refine awz ?_|exact rZ|fail)
theorem Qa(a:rM):aM av 521 [.agg a.ds] (.val (.one (.sl ([a.client,a.seq,a.key,a.least].map eI)))):=by
 refine pO func521 call521 ntmps521 results521 λS=>?_;conv=>whnf
 repeat'(first|refine awz ?_|exact rZ|fail)
theorem Qe(x:Int):aM av 525 [pI x] (.val (.one (.sl ([x].map eI)))):=by
 refine pO func525 call525 ntmps525 results525 λS=>?_;conv=>whnf
 repeat'(first|refine awz ?_|exact rZ|fail)
theorem Sf(x:Int):aM av 527 [pI x] (.val (.one (.sl ([x].map eI)))):=by
 refine pO func527 call527 ntmps527 results527 λS=>?_;conv=>whnf
 repeat'(first|refine awz ?_|exact rZ|fail)
theorem Sc(x:Int):aM av 532 [pI x] (.val (.one (.sl ([x].map eI)))):=by
 refine pO func532 call532 ntmps532 results532 λS=>?_;conv=>whnf
 repeat'(first|refine awz ?_|exact rZ|fail)
theorem Qf(x:Int):aM av 526 [pI x] (rB (aK x 1 2001)):=by
 have c1:=be x 1 2001;refine pO func526 call526 ntmps526 results526 λS=>?_;conv=>whnf
 repeat'(first|refine awz ?_|(refine XZ ai rfl ?_;conv=>whnf)|exact rZ|fail)
theorem Sg(x:Int):aM av 528 [pI x] (rB (aK x 1 2000)):=by
 have c1:=ld x;refine pO func528 call528 ntmps528 results528 λS=>?_;conv=>whnf
 repeat'(first|refine awz ?_|(refine XZ ai rfl ?_;conv=>whnf)|exact rZ|fail)
theorem Sd(x:Int):aM av 533 [pI x] (rB (aK x 2 3)):=by
 have c1:=gx x;rw[show d8 x=aK x 2 3 by rw[Bool.eq_iff_iff];simp[d8,aK];omega]at c1;refine pO func533 call533 ntmps533 results533 λS=>?_;conv=>whnf
 repeat'(first|refine awz ?_|(refine XZ ai rfl ?_;conv=>whnf)|exact rZ|fail)
theorem T9:∀u args w,(callMethod (.iface 323 u) "loop.example/g00851/impl.valid" args).run av.P w=(callFunc 519 (#[u]++args)).run av.P w:=λ_ _ _=>by kernel_rfl
theorem T5:∀u args w,(callMethod (.iface 323 u) "loop.example/g00851/impl.fields" args).run av.P w=(callFunc 518 (#[u]++args)).run av.P w:=λ_ _ _=>by kernel_rfl
theorem T8:∀u args w,(callMethod (.iface 240 u) "loop.example/g00851/impl.valid" args).run av.P w=(callFunc 517 (#[u]++args)).run av.P w:=λ_ _ _=>by kernel_rfl
theorem T4:∀u args w,(callMethod (.iface 240 u) "loop.example/g00851/impl.fields" args).run av.P w=(callFunc 516 (#[u]++args)).run av.P w:=λ_ _ _=>by kernel_rfl
theorem Sq:∀u args w,(callMethod (.iface 330 u) "loop.example/g00851/impl.valid" args).run av.P w=(callFunc 522 (#[u]++args)).run av.P w:=λ_ _ _=>by kernel_rfl
theorem Sm:∀u args w,(callMethod (.iface 330 u) "loop.example/g00851/impl.fields" args).run av.P w=(callFunc 521 (#[u]++args)).run av.P w:=λ_ _ _=>by kernel_rfl
theorem QB:∀u args w,(callMethod (.iface 399 u) "loop.example/g00851/impl.valid" args).run av.P w=(callFunc 526 (#[u]++args)).run av.P w:=λ_ _ _=>by kernel_rfl
theorem Qw:∀u args w,(callMethod (.iface 399 u) "loop.example/g00851/impl.fields" args).run av.P w=(callFunc 525 (#[u]++args)).run av.P w:=λ_ _ _=>by kernel_rfl
theorem Ss:∀u args w,(callMethod (.iface 400 u) "loop.example/g00851/impl.valid" args).run av.P w=(callFunc 528 (#[u]++args)).run av.P w:=λ_ _ _=>by kernel_rfl
theorem So:∀u args w,(callMethod (.iface 400 u) "loop.example/g00851/impl.fields" args).run av.P w=(callFunc 527 (#[u]++args)).run av.P w:=λ_ _ _=>by kernel_rfl
theorem Sr:∀u args w,(callMethod (.iface 443 u) "loop.example/g00851/impl.valid" args).run av.P w=(callFunc 533 (#[u]++args)).run av.P w:=λ_ _ _=>by kernel_rfl
theorem Sn:∀u args w,(callMethod (.iface 443 u) "loop.example/g00851/impl.fields" args).run av.P w=(callFunc 532 (#[u]++args)).run av.P w:=λ_ _ _=>by kernel_rfl
theorem Sb(a:vw):aM av 519 [.agg a.ds] (rB (wA a)):=by
 have c1:=P9 a;refine pO func519 call519 ntmps519 results519 λS=>?_;conv=>whnf
 repeat'(first|refine awz ?_|(refine XZ ai rfl ?_;conv=>whnf)|exact rZ|fail)
theorem EW(a:vw):aM av 392 [.agg a.ds] (.val (.one (.sl ((pV a).map eI)))):=by
 have c0:aM av 383 [.one (.x (IfR 323 (.agg a.ds)))] (.val (.one (.sl ((pV a).map eI)))):=by
  have c1:=Sb a;have c2:=Sa a;have c3:=Qk (.agg a.ds);unfold pV;cases h:wA a<;>rw[h]at c1<;>(refine pO func383 call383 ntmps383 results383 λS=>?_;conv=>whnf)<;>repeat'((first|refine YL rfl rfl rfl T9 ?_|refine YL rfl rfl rfl T5 ?_|refine aJ (by simp[opL]) ?_|refine awz ?_|refine XZ ai rfl ?_|refine aI (by first|(intro y hy;obtain⟨a,_,rfl⟩:=mem_map.1 hy;rfl)|(simp;done)) ?_|exact rZ|fail)<;>conv=>whnf)
 refine pO func392 call392 ntmps392 results392 λS=>?_;conv=>whnf
 repeat'(first|(refine YK aN (.agg a.ds) rfl rfl ?_;conv=>whnf)|refine awz ?_|(refine XZ ai rfl ?_;conv=>whnf)|exact rZ|fail)
theorem R0(a:DAck):aM av 517 [.agg a.ds] (rB (hH a)):=by
 have c1:=IP a;refine pO func517 call517 ntmps517 results517 λS=>?_;conv=>whnf
 repeat'(first|refine awz ?_|(refine XZ ai rfl ?_;conv=>whnf)|exact rZ|fail)
theorem Oc(a:DAck):aM av 382 [.agg a.ds] (.val (.one (.sl ((ox a).map eI)))):=by
 have c0:aM av 383 [.one (.x (IfR 240 (.agg a.ds)))] (.val (.one (.sl ((ox a).map eI)))):=by
  have c1:=R0 a;have c2:=RZ a;have c3:=Ql (.agg a.ds);unfold ox;cases h:hH a<;>rw[h]at c1<;>(refine pO func383 call383 ntmps383 results383 λS=>?_;conv=>whnf)<;>repeat'((first|refine YL rfl rfl rfl T8 ?_|refine YL rfl rfl rfl T4 ?_|refine aJ (by simp[opL]) ?_|refine awz ?_|refine XZ ai rfl ?_|refine aI (by first|(intro y hy;obtain⟨a,_,rfl⟩:=mem_map.1 hy;rfl)|(simp;done)) ?_|exact rZ|fail)<;>conv=>whnf)
 refine pO func382 call382 ntmps382 results382 λS=>?_;conv=>whnf
 repeat'(first|(refine YK aN (.agg a.ds) rfl rfl ?_;conv=>whnf)|refine awz ?_|(refine XZ ai rfl ?_;conv=>whnf)|exact rZ|fail)
theorem Qb(a:rM):aM av 522 [.agg a.ds] (rB (nZ a)):=by
 have c1:=Oe a;refine pO func522 call522 ntmps522 results522 λS=>?_;conv=>whnf
 repeat'(first|refine awz ?_|(refine XZ ai rfl ?_;conv=>whnf)|exact rZ|fail)
theorem LE(a:rM):aM av 394 [.agg a.ds] (.val (.one (.sl ((n9 a).map eI)))):=by
 have c0:aM av 383 [.one (.x (IfR 330 (.agg a.ds)))] (.val (.one (.sl ((n9 a).map eI)))):=by
  have c1:=Qb a;have c2:=Qa a;have c3:=Qo (.agg a.ds);unfold n9;cases h:nZ a<;>rw[h]at c1<;>(refine pO func383 call383 ntmps383 results383 λS=>?_;conv=>whnf)<;>repeat'((first|refine YL rfl rfl rfl Sq ?_|refine YL rfl rfl rfl Sm ?_|refine aJ (by simp[opL]) ?_|refine awz ?_|refine XZ ai rfl ?_|refine aI (by first|(intro y hy;obtain⟨a,_,rfl⟩:=mem_map.1 hy;rfl)|(simp;done)) ?_|exact rZ|fail)<;>conv=>whnf)
 refine pO func394 call394 ntmps394 results394 λS=>?_;conv=>whnf
 repeat'(first|(refine YK aN (.agg a.ds) rfl rfl ?_;conv=>whnf)|refine awz ?_|(refine XZ ai rfl ?_;conv=>whnf)|exact rZ|fail)
theorem IQ(x:Int):aM av 295 [pI x] (.val (.one (.sl ((dX 3 x 1 2001).map eI)))):=by
 have c0:aM av 383 [.one (.x (IfR 399 (.one (dI x))))] (.val (.one (.sl ((dX 3 x 1 2001).map eI)))):=by
  have c1:=Qf x;have c2:=Qe x;have c3:=Qm (.one (dI x));unfold dX;cases h:aK x 1 2001<;>rw[h]at c1<;>(refine pO func383 call383 ntmps383 results383 λS=>?_;conv=>whnf)<;>repeat'((first|refine YL rfl rfl rfl QB ?_|refine YL rfl rfl rfl Qw ?_|refine awz ?_|refine XZ ai rfl ?_|refine aI (by first|(intro y hy;obtain⟨a,_,rfl⟩:=mem_map.1 hy;rfl)|(simp;done)) ?_|refine aJ ao ?_|exact rZ|fail)<;>conv=>whnf)
 refine pO func295 call295 ntmps295 results295 λS=>?_;conv=>whnf
 repeat'(first|(refine YK aN (.one (dI x)) rfl rfl ?_;conv=>whnf)|refine awz ?_|(refine XZ ai rfl ?_;conv=>whnf)|exact rZ|fail)
theorem LG(x:Int):aM av 298 [pI x] (.val (.one (.sl ((dX 5 x 1 2000).map eI)))):=by
 have c0:aM av 383 [.one (.x (IfR 400 (.one (dI x))))] (.val (.one (.sl ((dX 5 x 1 2000).map eI)))):=by
  have c1:=Sg x;have c2:=Sf x;have c3:=Qn (.one (dI x));unfold dX;cases h:aK x 1 2000<;>rw[h]at c1<;>(refine pO func383 call383 ntmps383 results383 λS=>?_;conv=>whnf)<;>repeat'((first|refine YL rfl rfl rfl Ss ?_|refine YL rfl rfl rfl So ?_|refine awz ?_|refine XZ ai rfl ?_|refine aI (by first|(intro y hy;obtain⟨a,_,rfl⟩:=mem_map.1 hy;rfl)|(simp;done)) ?_|refine aJ ao ?_|exact rZ|fail)<;>conv=>whnf)
 refine pO func298 call298 ntmps298 results298 λS=>?_;conv=>whnf
 repeat'(first|(refine YK aN (.one (dI x)) rfl rfl ?_;conv=>whnf)|refine awz ?_|(refine XZ ai rfl ?_;conv=>whnf)|exact rZ|fail)
theorem LD(x:Int):aM av 390 [pI x] (.val (.one (.sl ((dX 8 x 2 3).map eI)))):=by
 have c0:aM av 383 [.one (.x (IfR 443 (.one (dI x))))] (.val (.one (.sl ((dX 8 x 2 3).map eI)))):=by
  have c1:=Sd x;have c2:=Sc x;have c3:=Qp (.one (dI x));unfold dX;cases h:aK x 2 3<;>rw[h]at c1<;>(refine pO func383 call383 ntmps383 results383 λS=>?_;conv=>whnf)<;>repeat'((first|refine YL rfl rfl rfl Sr ?_|refine YL rfl rfl rfl Sn ?_|refine awz ?_|refine XZ ai rfl ?_|refine aI (by first|(intro y hy;obtain⟨a,_,rfl⟩:=mem_map.1 hy;rfl)|(simp;done)) ?_|refine aJ ao ?_|exact rZ|fail)<;>conv=>whnf)
 refine pO func390 call390 ntmps390 results390 λS=>?_;conv=>whnf
 repeat'(first|(refine YK aN (.one (dI x)) rfl rfl ?_;conv=>whnf)|refine awz ?_|(refine XZ ai rfl ?_;conv=>whnf)|exact rZ|fail)
theorem LA(l:List DAck)(hl:l.length<=60):aM av 294 [.one (.sl (l.map DAck.ds))] (.val (.one (.sl ((fI l).map DMsg.ds)))):=by
 refine pO func294 call294 ntmps294 results294 λS=>?_;conv=>whnf
 repeat'(first|refine awz ?_|fail)
 refine X5 (λk:Nat=>k<=l.length) (6::[3,5,9,10,11,12,13,14,15,16,17,18,19,20,21,22,23,24,25,26,27,28]) (λk=>[(3,.one (.own 6)),(7,.one (.d (.sl (l.map DAck.ds)))),(8,vI .i64 (l.length:Int)),(9,vI .i64 (k:Int))]) (λk=>[(6,.row 216 3 ((fI (l.take k)).map DMsg.ds))]) (λk=>l.length-k) 0 (Nat.zero_le _) ?_ sbW (λk hk=>?_)<;>(conv=>whnf)
 ·rw[List.length_map];exact whd
 ·by_cases hlt:k<l.length
  ·have hc:decide ((k:Int)<(l.length:Int))=true:=al;have h60:=r4 (l.take k);rw[List.length_take,Nat.min_eq_left hk]at h60;have q:decide ((((fI (l.take k)).map DMsg.ds).length:Int)<60)=true:=al;have c0:=IP l[k];have c1:=Oc l[k];have es:=wy hlt;cases ho:hH l[k]with
   |false=>
    rw[ho]at c0 es;rw[if_neg aj,List.append_nil]at es;repeat'((first|refine Yg hlt ?_|refine awz ?_|refine XZ ai rfl ?_|refine X3 ac ac ?_|fail)<;>conv=>whnf)
    all_goals
     refine bd.mk ⟨k+1,hlt,ac,?_,X0 (by rw[es];rfl) X4⟩;exact hds
   |true=>
    rw[ho]at c0 es;rw[if_pos rfl]at es;repeat'(first|(refine Yg hlt ?_;conv=>whnf)|refine awz ?_|(refine XZ ai rfl ?_;conv=>whnf)|fail)
    all_goals(refine X7 aN 6 (tkc [0,1,2,3] (onc [4,5,6,7] (.take 8 .done))) [(5,9980)] iN ae ae ae ae (λRz=>?_);(conv=>whnf);intro bp0 up0;(conv=>whnf))
    repeat'((first|refine awz ?_|refine XZ ai rfl ?_|refine X3 ac ac ?_|refine aJ ao ?_|fail)<;>conv=>whnf)
    all_goals
     refine bd.mk ⟨k+1,hlt,ac,?_,X0 (by rw[es,List.map_append];rfl) X4⟩;exact hds
  ·have e:k=l.length:=ac;subst e;have hc:decide ((l.length:Int)<(l.length:Int))=false:=aj;rw[List.take_length];repeat'(first|refine awz ?_|exact rZ|fail)
theorem EZ(c:DClient)(h:KJ c):aM av 303 [.agg c.ds] (.val (.one (.sl ((fQ c).map DMsg.ds)))):=by
 have hg:=h.gl;have h12:=h.len;have c0:=lI c ac ac;rw[h.ok]at c0;unfold fQ;by_cases e:c.gots.length=c.todo.length
 ·have c1:aM av 393 [.agg c.ds] (.tup [.agg (DWant.ds ⟨0,op0,0⟩),.one (dI 0)]):=by
   have q:(((c.gots.map DGot.ds).length:Int)==((c.todo.map DWant.ds).length:Int))=true:=by simp[e]
   refine pO func393 call393 ntmps393 results393 λS=>?_;conv=>whnf
   repeat'(first|refine awz ?_|exact rZ|fail)
  rw[List.getElem?_eq_none ac];refine pO func303 call303 ntmps303 results303 λS=>?_;conv=>whnf
  repeat'(first|refine awz ?_|(refine XZ ai rfl ?_;conv=>whnf)|exact rZ|fail)
 ·have hlt:c.gots.length<c.todo.length:=ac;have gu:(c.todo.map DWant.ds)[c.gots.length]? =some (DWant.ds c.todo[c.gots.length]):=by rw[List.getElem?_map,List.getElem?_eq_getElem hlt];rfl
  rw[List.getElem?_eq_getElem hlt];generalize c.todo[c.gots.length]=w at gu;have c1:aM av 393 [.agg c.ds] (.tup [.agg w.ds,.one (dI ((c.gots.length:Int)+1))]):=by
   have q:(((c.gots.map DGot.ds).length:Int)==((c.todo.map DWant.ds).length:Int))=false:=al;rw[show(c.gots.length:Int)+1=((c.gots.map DGot.ds).length:Int)+1 by rw[List.length_map]];refine pO func393 call393 ntmps393 results393 λS=>?_;conv=>whnf
   repeat'(first|refine awz ?_|fail)
   (refine X7 aN 3 (tkc [0,1,2,3,7,8] (.two 4 (.take 5 (.two 6 (.two 9 (.two 10 (.one 11 (.take 12 .done)) 11 (.one 10 (.take 12 .done))) 11 (.one 9 (.one 10 (.take 12 .done)))) 9 (.two 6 (.two 10 (.one 11 (.take 12 .done)) 11 (.one 10 (.take 12 .done))) 10 (.one 6 (.one 11 (.take 12 .done)))))) 9 (.two 4 (.take 5 (.two 6 (.two 10 (.one 11 (.take 12 .done)) 11 (.one 10 (.take 12 .done))) 10 (.one 6 (.one 11 (.take 12 .done))))) 10 (.one 4 (.take 5 (.one 6 (.one 11 (.take 12 .done)))))))) [(1,9980)] sd ae ae ae ae (λRz=>?_);(conv=>whnf);intro bp0 up0;(conv=>whnf))
   repeat'((first|refine X8 c.gots.length _ aj gu ?_|refine X3 an an ?_|refine awz ?_|exact rZ|refine tW ?_ ?_|fail)<;>conv=>whnf)
  have q0:((c.gots.length:Int)+1==0)=false:=al;have c2:=LE ⟨c.id,(c.gots.length:Int)+1,w.key,c.last⟩;have c3:=EW ⟨c.id,(c.gots.length:Int)+1,w.op⟩;simp only;by_cases hk:w.kind=4
  ·have q:(w.kind==4)=true:=by simpa using hk
   rw[if_pos hk];refine pO func303 call303 ntmps303 results303 λS=>?_;conv=>whnf
   repeat'(first|refine awz ?_|(refine XZ ai rfl ?_;conv=>whnf)|fail)
   (refine X7 aN 7 (tkc [0,1,2,3,4,5,6,7,8] (onc [9,10,11,12] (.take 13 .done))) [(1,9980),(3,9981)] mf ae ae ae ae (λRz=>?_);(conv=>whnf);intro bp0 up0;(conv=>whnf);intro bp1 up1;(conv=>whnf))
   repeat'(first|refine awz ?_|(refine XZ ai rfl ?_;conv=>whnf)|exact rZ|fail)
  ·have q:(w.kind==4)=false:=by simpa using hk
   rw[if_neg hk];refine pO func303 call303 ntmps303 results303 λS=>?_;conv=>whnf
   repeat'(first|refine awz ?_|(refine XZ ai rfl ?_;conv=>whnf)|fail)
   (refine X7 aN 8 (tkc [0,1,2,3,4,5,6] (onc [7,8,9,10] (.take 11 .done))) [(1,9980),(3,9981)] mg ae ae ae ae (λRz=>?_);(conv=>whnf);intro bp0 up0;(conv=>whnf);intro bp1 up1;(conv=>whnf))
   repeat'(first|refine awz ?_|(refine XZ ai rfl ?_;conv=>whnf)|exact rZ|fail)
theorem B1(s:DSched)(f:Ak s):aM av 302 [.agg s.ds] (.val (.one (.sl ((fg s).map DMsg.ds)))):=by
 have c0:=qb s;rw[f.ok]at c0;have c1:=LD s.id;have c2:=EW ⟨s.id,s.seq,s.op⟩;unfold fg;cases hb:s.busy with
 |true=>
  have q:(!s.busy)=false:=by rw[hb];rfl
  have c3:aM av 391 [.agg s.ds] (.tup [.agg (vw.ds ⟨s.id,s.seq,s.op⟩),.one (dB true)]):=by
   refine pO func391 call391 ntmps391 results391 λS=>?_;conv=>whnf
   repeat'(first|refine awz ?_|(refine XZ ai rfl ?_;conv=>whnf)|exact rZ|fail)
  refine pO func302 call302 ntmps302 results302 λS=>?_;conv=>whnf
  repeat'(first|refine awz ?_|(refine XZ ai rfl ?_;conv=>whnf)|fail)
  (refine X7 aN 3 (tkc [0,1,2,3] (onc [4,5,6] (.take 7 .done))) [(1,9980)] fY ae ae ae ae (λRz=>?_);(conv=>whnf);intro bp0 up0;(conv=>whnf))
  repeat'(first|refine awz ?_|(refine XZ ai rfl ?_;conv=>whnf)|fail)
  (refine X7 aN 6 (tkc [0,1,2,3] (onc [4,5,6,7] (.take 8 .done))) [(1,9980),(4,9981)] iN ae ae ae ae (λRz=>?_);(conv=>whnf);intro bp0 up0;(conv=>whnf);intro bp1 up1;(conv=>whnf))
  repeat'((first|refine awz ?_|refine XZ ai rfl ?_|refine aJ ao ?_|exact rZ|fail)<;>conv=>whnf)
 |false=>
  have q:(!s.busy)=true:=by rw[hb];rfl
  have c3:aM av 391 [.agg s.ds] (.tup [.agg (vw.ds ⟨0,0,op0⟩),.one (dB false)]):=by
   refine pO func391 call391 ntmps391 results391 λS=>?_;conv=>whnf
   repeat'(first|refine awz ?_|(refine XZ ai rfl ?_;conv=>whnf)|exact rZ|fail)
  refine pO func302 call302 ntmps302 results302 λS=>?_;conv=>whnf
  repeat'(first|refine awz ?_|(refine XZ ai rfl ?_;conv=>whnf)|fail)
  (refine X7 aN 3 (tkc [0,1,2,3] (onc [4,5,6] (.take 7 .done))) [(1,9980)] fY ae ae ae ae (λRz=>?_);(conv=>whnf);intro bp0 up0;(conv=>whnf))
  repeat'(first|refine awz ?_|(refine XZ ai rfl ?_;conv=>whnf)|exact rZ|fail)
theorem LK(c:List DLink)(hc:c.length<=1048576):ce av 180 [.agg (⟨[],c⟩:DNet).ds] (.agg [.pv (.slice none 0 0),.sl (c.map DLink.ds)]):=by
 refine mz aN func180 rfl call180 ntmps180 (aaK results180) λS=>?_;conv=>whnf
 repeat'((first|refine awz ?_|refine aI (by first|(intro y hy;obtain⟨a,_,rfl⟩:=List.mem_map.1 hy;rfl)|(simp;done)) ?_|refine aJ ao ?_|fail)<;>conv=>whnf)
 refine YP 1 ?_;conv=>whnf
 repeat'(first|refine awz ?_|fail)
 exact⟨.inr rfl,rfl,alW,S.w0.heap.size,S.w0.heap.size,Nat.le_refl _,Ya (by rw[List.append_nil];exact p7 bls)⟩
def zy(n:DNet)(m:DMsg):DNet×Bool:=if fM m then(it n m,decide (n.flight.length≠60))else(⟨[],[]⟩,false)
theorem Qd(n:DNet)(m:DMsg)(hn:fd n=true)(hr:m.row.length<=1048576):fC av 380 [.agg n.ds,.agg m.ds] [.agg (zy n m).1.ds,.one (dB (zy n m).2)]:=by
 have hs:=nW hn;have c1:=BX n;have c2:=BW m;rw[hn]at c1;have cm:=vR m hr;unfold zy;cases hm:fM m with
 |false=>
  rw[hm]at c2;rw[if_neg aj];refine bq aN func380 rfl call380 ntmps380 (aaK results380) rfl λS=>?_;conv=>whnf
  repeat'(first|refine awz ?_|(refine XZ ai rfl ?_;conv=>whnf)|fail)
  exact⟨.inl rfl,.inl rfl,S.w0.heap.size,S.w0.heap.size,Nat.le_refl _,Ya rfl⟩
 |true=>
  rw[hm]at c2;rw[if_pos rfl];by_cases h60:n.flight.length=60
  ·have hc:((((n.flight.map DMsg.ds).length:Nat):Int)==60)=true:=al;rw[ny (.inr h60),show decide (n.flight.length≠60)=false by simp[h60]];refine bq aN func380 rfl call380 ntmps380 (aaK results380) rfl λS=>?_;conv=>whnf
   repeat'(first|(refine Yh (B5 n hs) rfl rfl λR lo hi m1 m2 F=>?_;conv=>whnf)|refine awz ?_|(refine XZ ai rfl ?_;conv=>whnf)|fail)
   exact⟨lo,hi,m1,(F.app (L:=lo) (H:=hi) (Yn (lo:=hi) (hi:=hi) (ds:=[dB false]) rfl) (.inl (Nat.le_refl _)) ⟨Nat.le_refl _,m2⟩ ⟨Nat.le_refl _,Nat.le_refl _⟩).fam⟩
  ·have hc:((((n.flight.map DMsg.ds).length:Nat):Int)==60)=false:=al;have hlt:=(lL hn).1;rw[show it n m=⟨n.flight++[m],n.cuts⟩by simp[it,hm,h60],show decide (n.flight.length≠60)=true by simp[h60]];by_cases he:n.flight=[]
   ·obtain⟨f,c⟩:=n;simp only at he;subst he;refine bq aN func380 rfl call380 ntmps380 (aaK results380) rfl λS=>?_;conv=>whnf
    repeat'(first|((refine ZM Ua M5 ?_;refine Yh (LK c hs.2.2) rfl rfl λR lo hi m1 m2 F=>?_)<;>conv=>whnf)|refine awz ?_|(refine XZ ai rfl ?_;conv=>whnf)|fail)
    refine YG 6 0 900 216 3 ah ?_;conv=>whnf
    repeat'(first|refine awz ?_|fail)
    (refine X7 aN 6 (.take 0 (.take 2 (.two 1 (onc [3,4,5] (.take 6 (.one 7 .done))) 3 (.two 1 (.one 4 (.one 5 (.take 6 (.one 7 .done)))) 4 (.one 1 (.one 5 (.take 6 (.one 7 .done)))))))) [(3,9980)] fJ ae ae ae ae (λRz=>?_);(conv=>whnf);intro bp0 up0;(conv=>whnf))
    repeat'((first|refine Yh cm rfl rfl λR2 lo2 hi2 n1 n2 F2=>?_|refine awz ?_|refine aI (by first|(intro y hy;obtain⟨a,_,rfl⟩:=List.mem_map.1 hy;rfl)|(simp;done)) ?_|refine aJ ao ?_|refine tW ?_ ?_|fail)<;>conv=>whnf)
    all_goals exact⟨lo,hi2,m1,((F2.app (L:=lo) (H:=hi2) (F.part 1 1) (.inr n1) ⟨ac,Nat.le_refl _⟩ ⟨Nat.le_refl _,ac⟩).app (L:=lo) (H:=hi2) (Yn (lo:=hi2) (hi:=hi2) (ds:=[dB true]) rfl) (.inl (Nat.le_refl _)) ⟨Nat.le_refl _,ac⟩ ⟨Nat.le_refl _,Nat.le_refl _⟩).fam⟩
   ·have hue:n.flight.map DMsg.ds≠ []:=by simpa using he
    refine bq aN func380 rfl call380 ntmps380 (aaK results380) rfl λS=>?_;conv=>whnf
    repeat'(first|((refine Zj 900 3 [] [.sl (n.cuts.map DLink.ds)] (n.flight.map DMsg.ds) (LJ n hs) rfl rfl ah hue alW λR lo hi te hte m1 m2 F=>?_;subst hte);conv=>whnf)|refine awz ?_|(refine XZ ai rfl ?_;conv=>whnf)|fail)
    (refine X7 aN 6 (.take 0 (.take 2 (.two 1 (onc [3,4,5] (.take 6 (.one 7 .done))) 3 (.two 1 (.one 4 (.one 5 (.take 6 (.one 7 .done)))) 4 (.one 1 (.one 5 (.take 6 (.one 7 .done)))))))) [(3,9980)] fJ ae ae ae ae (λRz=>?_);(conv=>whnf);intro bp0 up0;(conv=>whnf))
    repeat'((first|refine Yh cm rfl rfl λR2 lo2 hi2 n1 n2 F2=>?_|refine aJ (by rw[eY];simp only[List.length_map,List.length_cons,List.length_nil];omega) ?_|refine awz ?_|refine tW ?_ ?_|fail)<;>conv=>whnf)
    all_goals
     have F':cJ lo hi (bS R 0 (n.flight.map DMsg.ds).flatten++[.x (R (0+(n.flight.map DMsg.ds).flatten.length))]) ((n.flight.map DMsg.ds).flatten++[.sl (n.cuts.map DLink.ds)]):=by
      have:=F;rw[List.nil_append,nk]at this;exact this
     have F3:=((F'.mid (dq ..) F2 n1 m2 n2).app (L:=lo) (H:=hi2) (Yn (lo:=hi2) (hi:=hi2) (ds:=[dB true]) rfl) (.inl (Nat.le_refl _)) ⟨Nat.le_refl _,ac⟩ ⟨Nat.le_refl _,Nat.le_refl _⟩).fam;refine⟨by simp[eY],alW,lo,hi2,m1,?_⟩;show Fam lo hi2 ((dx R 0 (n.flight.map DMsg.ds)++[bS R2 0 m.ds]).flatten++[.x (R (0+(n.flight.map DMsg.ds).flatten.length)),dB true]) (((n.flight++[m]).map DMsg.ds).flatten++[.sl (n.cuts.map DLink.ds),dB true]);rw[show(dx R 0 (n.flight.map DMsg.ds)++[bS R2 0 m.ds]).flatten=bS R 0 (n.flight.map DMsg.ds).flatten++bS R2 0 m.ds by rw[List.flatten_append,mv];simp,show((n.flight++[m]).map DMsg.ds).flatten=(n.flight.map DMsg.ds).flatten++m.ds by simp];simp only[List.append_assoc,List.cons_append,List.nil_append]at F3⊢;exact F3
end Go.Proofs.YtknefkdcokgpbaaGreat
