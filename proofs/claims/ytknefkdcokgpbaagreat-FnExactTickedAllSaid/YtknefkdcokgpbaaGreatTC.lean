/- TC -/
import Derived.Test.YtknefkdcokgpbaaGreatRB6
import Derived.Test.YtknefkdcokgpbaaGreatIW2
import Derived.Test.YtknefkdcokgpbaaGreatTB
set_option maxHeartbeats 8000000
set_option linter.unusedVariables false
set_option linter.unusedSimpArgs false
set_option maxRecDepth 100000
namespace Go.Proofs.YtknefkdcokgpbaaGreat
open Go.Proofs.Tryz
open Go.ChangeShapes Go.WideShapes Go.RowKit
def Ot(d:DDisk)(o:Option DDisk):AP:= .tup [.agg (o.getD d).ds,.one (dB o.isSome)]
theorem HG(d:DDisk)(slot:Int)(m:Int×DState)(h:dg d=true)(hs:slot=0\/slot=1)(hp:m.2.pairs.length<=9223372036854775806):aM av 254 [.agg d.ds,pI slot,.agg (fh m)] (Ot d (cb d slot m)):=by
 obtain⟨hd,h8⟩:=iU h;have hsm:=dT hd;have c1:=nv d;rw[h]at c1;have c2:=tx m hp;have c3:=wc hs;have c4:=uz d hsm;have w60:=(dc hd).2.2.1;cases hso:eO m with
 |false=>
  have er:aV m=[]:=by simp[aV,hso]
  have e:cb d slot m=none:=by simp[cb,hso]
  rw[er]at c2;rw[e];refine pO func254 call254 ntmps254 results254 λS=>?_;conv=>whnf
  repeat'(first|refine awz ?_|(refine XZ ai rfl ?_;conv=>whnf)|exact rZ|fail)
 |true=>
  obtain⟨l1,l2,l3⟩:=eR hso;have q0:((((aV m).map bM).length:Int)==0)=false:=by simp;intro e;rw[e]at l1;simp at l1;omega
  have hl:(cU slot (aV m)).length=(aV m).length:=by simp[cU]
  refine Ai.pcall (Q:=λy:Option DDisk=>y=cb d slot m) (r:=Ot d) ?_ λy hy=>by rw[hy]
  refine lP aN func254 rfl call254 ntmps254 (aaK results254) λS=>?_;conv=>whnf
  repeat'(first|refine awz ?_|(refine XZ ai rfl ?_;conv=>whnf)|fail)
  refine X5 (λk:Nat=>k<=(aV m).length/\d.wait.length+k<=60) (7::10::11::12::rg 31 24) (λk=>[(10,vI .i64 (k:Int))]) (λk=>[(3,.cells 69 (d.ds.map .d)),(6,.cells 69 [.nil,.nil]),(9,.cells 69 ((dt d ((cU slot (aV m)).take k)).ds.map .d))]) (λk=>(aV m).length-k) 0 ⟨Nat.zero_le _,ac⟩ ?_ (X0 rfl (X0 rfl (X0 (by show _=some (AO.cells _ ((dt d []).ds.map .d));rw[show dt d []=d by simp[dt]];rfl) X4))) (λk hg=>?_)<;>(conv=>whnf)
  ·exact whd
  ·obtain⟨hk,hw⟩:=hg;by_cases hlt:k<(aV m).length
   ·have hc:decide ((k:Int)<(((aV m).map bM).length:Int))=true:=al;have hlt2:k<(cU slot (aV m)).length:=ac;have hr:cE (aV m)[k]=true:=iV _ (List.getElem_mem hlt);have ha:0<=slot*4+(k:Int)/\slot*4+(k:Int)<=7:=ac;have es:=ot (d:=d) hlt2;have ee:(cU slot (aV m))[k]=⟨slot*4+(k:Int),(aV m)[k]⟩:=by simp[cU]
    rw[ee]at es;have tw:(dt d ((cU slot (aV m)).take k)).wait.length=d.wait.length+k:=by simp only[dt,List.length_append,List.length_take];omega
    have tk:(dt d ((cU slot (aV m)).take k)).kept=d.kept:=rfl;have to:cG (dt d ((cU slot (aV m)).take k))=true:=(iU (nz hs iV ac h k hk hw)).1;generalize ht:dt d ((cU slot (aV m)).take k)=t at tw tk to es;by_cases h60:d.wait.length+k<60
    ·have cw:=Q6 t (slot*4+(k:Int)) (aV m)[k] to ac (by rw[tk,h8];exact xT ac) hr;repeat'(first|refine awz ?_|fail)
     (refine X7 aN 10 (tkc [0,1,3,5,6,7,8] (.two 2 (.two 4 (.two 9 (tkc [10,11,12] (.one 13 (.one 14 (.take 15 .done)))) 13 (.one 9 (tkc [10,11,12] (.one 14 (.take 15 .done))))) 13 (.one 4 (.one 9 (tkc [10,11,12] (.one 14 (.take 15 .done)))))) 13 (onc [2,4,9] (tkc [10,11,12] (.one 14 (.take 15 .done)))))) [(9,9980)] jN ae ae ae ae (λRz=>?_);(conv=>whnf);intro bp0 up0;(conv=>whnf))
     repeat'((first|refine Yg hlt ?_|refine awz ?_|refine XZ ai rfl ?_|refine X3 ac ac ?_|refine tW ?_ ?_|fail)<;>conv=>whnf)
     all_goals
      refine bd.mk ⟨k+1,⟨hlt,ac⟩,ac,?_,X0 rfl (X0 rfl (X0 (by rw[es];rfl) X4))⟩;exact hds
    ·have cw:=Q5 t (slot*4+(k:Int)) (aV m)[k] to ac;have e:cb d slot m=none:=by simp[cb,hso];omega
     repeat'(first|refine awz ?_|fail)
     (refine X7 aN 10 (tkc [0,1,3,5,6,7,8] (.two 2 (.two 4 (.two 9 (tkc [10,11,12] (.one 13 (.one 14 (.take 15 .done)))) 13 (.one 9 (tkc [10,11,12] (.one 14 (.take 15 .done))))) 13 (.one 4 (.one 9 (tkc [10,11,12] (.one 14 (.take 15 .done)))))) 13 (onc [2,4,9] (tkc [10,11,12] (.one 14 (.take 15 .done)))))) [(9,9980)] jN ae ae ae ae (λRz=>?_);(conv=>whnf);intro bp0 up0;(conv=>whnf))
     repeat'((first|refine Yg hlt ?_|refine awz ?_|refine XZ ai rfl ?_|refine X3 ac ac ?_|refine tW ?_ ?_|fail)<;>conv=>whnf)
     all_goals exact⟨none,e.symm,rfl⟩
   ·have e:k=(aV m).length:=ac;subst e;have hc:decide (((aV m).length:Int)<(((aV m).map bM).length:Int))=false:=aj;have e:cb d slot m=some (dt d (cU slot (aV m))):=by simp[cb,hso];omega
    rw[List.take_of_length_le ac];repeat'(first|refine awz ?_|fail)
    all_goals exact⟨_,e.symm,rfl⟩
theorem HF(s:DStore)(hok0:storeOk s=true):Ai av 153 [.agg s.ds] (λy:DStore×Bool=>y.1=hI s) (λy=> .tup [.agg y.1.ds,.one (dB y.2)]):=by
 have sf:=zS hok0;have hs:=gz hok0;have c1:=nw s (by have:=hs.2.1;omega);rw[hok0]at c1;have c2:=Dc s hs;have c3:=DU s.disk sf.disk;have c4:=Db s.state hs.2;have hn:=Ct s.disk;obtain⟨i1,i2,i3,i4⟩:=oq sf.state;have hlast:=sf.last;have hnum:=sf.num;by_cases hb:s.busy=0
 ·have q1:(s.busy !=0)=false:=by simpa using hb
  by_cases hg:s.last+4<=s.state.index
  ·have q2:decide (s.state.index<s.last+4)=false:=al;by_cases hx:s.num<1000000000
   ·have q3:decide (s.num>=1000000000)=false:=al;have q3':decide (1000000000<=s.num)=false:=q3;have key:∀slot:Int,slot=0\/slot=1->aM av 254 [.agg s.disk.ds,pI slot,.agg (fh (s.num+1,s.state))] (Ot s.disk (cb s.disk slot (s.num+1,s.state))):=λslot hsl=>HG s.disk slot (s.num+1,s.state) sf.disk hsl (by show s.state.pairs.length<=_;omega);have k0:=key 0 (.inl rfl);have k1:=key 1 (.inr rfl);have eb:hI s=match cb s.disk (eF s.disk) (s.num+1,s.state)with|none=>s|some d=>{s with disk:=d,busy:=s.state.index}:=by unfold hI;rw[if_neg (by simp[q1,q2,q3'])];cases cb s.disk (eF s.disk) (s.num+1,s.state)<;>rfl
    cases hne:eX s.disk with
    |mk o i=>
     rw[hne]at c3 hn;simp only at hn;cases o with
     |none=>
      have hsl:eF s.disk=0:=by simp[eF,hne]
      rw[hsl]at eb;cases hw:cb s.disk 0 (s.num+1,s.state)<;>rw[hw]at k0 eb<;>unfold Ot at k0<;>(refine lP aN func153 rfl call153 ntmps153 (aaK results153) λS=>?_;conv=>whnf)<;>repeat'((first|refine awz ?_|refine XZ ai rfl ?_|refine X3 ac ac ?_|fail)<;>conv=>whnf)
      all_goals(refine X7 aN 10 (tkc [0,1,2,3,4,6,7] (.three 5 (.two 8 (.two 9 (.two 10 (tkc [11,12,13] (.one 14 (.one 15 (.take 16 .done)))) 14 (.one 10 (tkc [11,12,13] (.one 15 (.take 16 .done))))) 14 (.one 9 (.one 10 (tkc [11,12,13] (.one 15 (.take 16 .done)))))) 14 (onc [8,9,10] (tkc [11,12,13] (.one 15 (.take 16 .done))))) 8 (.two 5 (.two 9 (.two 10 (tkc [11,12,13] (.one 14 (.one 15 (.take 16 .done)))) 14 (.one 10 (tkc [11,12,13] (.one 15 (.take 16 .done))))) 14 (.one 9 (.one 10 (tkc [11,12,13] (.one 15 (.take 16 .done)))))) 14 (onc [5,9,10] (tkc [11,12,13] (.one 15 (.take 16 .done))))) 14 (.two 5 (onc [8,9,10] (tkc [11,12,13] (.one 15 (.take 16 .done)))) 8 (onc [5,9,10] (tkc [11,12,13] (.one 15 (.take 16 .done))))))) [(1,9980)] gJ ae ae ae ae (λRz=>?_);(conv=>whnf);intro bp0 up0;(conv=>whnf))
      all_goals repeat'((first|refine awz ?_|refine XZ ai rfl ?_|refine X3 ac ac ?_|refine tW ?_ ?_|fail)<;>conv=>whnf)
      all_goals exact⟨(_,_),eb.symm,rfl⟩
     |some z=>
      rcases hn with hn|hn
      ·subst hn;have hsl:eF s.disk=1:=by simp[eF,hne]
       rw[hsl]at eb;cases hw:cb s.disk 1 (s.num+1,s.state)<;>rw[hw]at k1 eb<;>unfold Ot at k1<;>(refine lP aN func153 rfl call153 ntmps153 (aaK results153) λS=>?_;conv=>whnf)<;>repeat'((first|refine awz ?_|refine XZ ai rfl ?_|refine X3 ac ac ?_|fail)<;>conv=>whnf)
       all_goals(refine X7 aN 10 (tkc [0,1,2,3,4,6,7] (.three 5 (.two 8 (.two 9 (.two 10 (tkc [11,12,13] (.one 14 (.one 15 (.take 16 .done)))) 14 (.one 10 (tkc [11,12,13] (.one 15 (.take 16 .done))))) 14 (.one 9 (.one 10 (tkc [11,12,13] (.one 15 (.take 16 .done)))))) 14 (onc [8,9,10] (tkc [11,12,13] (.one 15 (.take 16 .done))))) 8 (.two 5 (.two 9 (.two 10 (tkc [11,12,13] (.one 14 (.one 15 (.take 16 .done)))) 14 (.one 10 (tkc [11,12,13] (.one 15 (.take 16 .done))))) 14 (.one 9 (.one 10 (tkc [11,12,13] (.one 15 (.take 16 .done)))))) 14 (onc [5,9,10] (tkc [11,12,13] (.one 15 (.take 16 .done))))) 14 (.two 5 (onc [8,9,10] (tkc [11,12,13] (.one 15 (.take 16 .done)))) 8 (onc [5,9,10] (tkc [11,12,13] (.one 15 (.take 16 .done))))))) [(1,9980)] gJ ae ae ae ae (λRz=>?_);(conv=>whnf);intro bp0 up0;(conv=>whnf))
       all_goals repeat'((first|refine awz ?_|refine XZ ai rfl ?_|refine X3 ac ac ?_|refine tW ?_ ?_|fail)<;>conv=>whnf)
       all_goals exact⟨(_,_),eb.symm,rfl⟩
      ·subst hn;have hsl:eF s.disk=0:=by simp[eF,hne]
       rw[hsl]at eb;cases hw:cb s.disk 0 (s.num+1,s.state)<;>rw[hw]at k0 eb<;>unfold Ot at k0<;>(refine lP aN func153 rfl call153 ntmps153 (aaK results153) λS=>?_;conv=>whnf)<;>repeat'((first|refine awz ?_|refine XZ ai rfl ?_|refine X3 ac ac ?_|fail)<;>conv=>whnf)
       all_goals(refine X7 aN 10 (tkc [0,1,2,3,4,6,7] (.three 5 (.two 8 (.two 9 (.two 10 (tkc [11,12,13] (.one 14 (.one 15 (.take 16 .done)))) 14 (.one 10 (tkc [11,12,13] (.one 15 (.take 16 .done))))) 14 (.one 9 (.one 10 (tkc [11,12,13] (.one 15 (.take 16 .done)))))) 14 (onc [8,9,10] (tkc [11,12,13] (.one 15 (.take 16 .done))))) 8 (.two 5 (.two 9 (.two 10 (tkc [11,12,13] (.one 14 (.one 15 (.take 16 .done)))) 14 (.one 10 (tkc [11,12,13] (.one 15 (.take 16 .done))))) 14 (.one 9 (.one 10 (tkc [11,12,13] (.one 15 (.take 16 .done)))))) 14 (onc [5,9,10] (tkc [11,12,13] (.one 15 (.take 16 .done))))) 14 (.two 5 (onc [8,9,10] (tkc [11,12,13] (.one 15 (.take 16 .done)))) 8 (onc [5,9,10] (tkc [11,12,13] (.one 15 (.take 16 .done))))))) [(1,9980)] gJ ae ae ae ae (λRz=>?_);(conv=>whnf);intro bp0 up0;(conv=>whnf))
       all_goals repeat'((first|refine awz ?_|refine XZ ai rfl ?_|refine X3 ac ac ?_|refine tW ?_ ?_|fail)<;>conv=>whnf)
       all_goals exact⟨(_,_),eb.symm,rfl⟩
   ·have q3:decide (s.num>=1000000000)=true:=al;have eb:hI s=s:=by simp[hI];intros;omega
    refine lP aN func153 rfl call153 ntmps153 (aaK results153) λS=>?_;conv=>whnf
    repeat'((first|refine awz ?_|refine XZ ai rfl ?_|refine X3 ac ac ?_|fail)<;>conv=>whnf)
    all_goals exact⟨(s,_),eb.symm,rfl⟩
  ·have q2:decide (s.state.index<s.last+4)=true:=al;have eb:hI s=s:=by simp[hI];intros;omega
   refine lP aN func153 rfl call153 ntmps153 (aaK results153) λS=>?_;conv=>whnf
   repeat'((first|refine awz ?_|refine XZ ai rfl ?_|refine X3 ac ac ?_|fail)<;>conv=>whnf)
   all_goals exact⟨(s,_),eb.symm,rfl⟩
 ·have q1:(s.busy !=0)=true:=by simpa using hb
  have eb:hI s=s:=by simp[hI,hb]
  refine lP aN func153 rfl call153 ntmps153 (aaK results153) λS=>?_;conv=>whnf
  repeat'(first|refine awz ?_|(refine XZ ai rfl ?_;conv=>whnf)|fail)
  all_goals exact⟨(s,_),eb.symm,rfl⟩
theorem DV(s:DStore)(h:storeOk s=true):aM av 151 [.agg s.ds] (.tup [.agg (cY s).ds,.one (dI (cY s).last)]):=by
 have sf:=zS h;have hs:=gz h;have c1:=nw s (by have:=hs.2.1;omega);rw[h]at c1;have c2:=Dc s hs;have hd:cG s.disk=true:=by have:=sf.disk;simp only[dg,Bool.and_eq_true]at this;exact this.1
 have c3:=pt s.disk hd;have hnum:=sf.num;unfold cY;by_cases hb:s.busy=0
 ·have q:(s.busy !=0)=false:=by simpa using hb
  rw[if_pos hb];refine pO func151 call151 ntmps151 results151 λS=>?_;conv=>whnf
  repeat'(first|refine awz ?_|(refine XZ ai rfl ?_;conv=>whnf)|fail)
  (refine X7 aN 9 (tkc [0,1,2] (.one 3 (.take 4 .done))) [(4,9980)] fb ae ae ae ae (λRz=>?_);(conv=>whnf);intro bp0 up0;(conv=>whnf))
  repeat'(first|refine awz ?_|exact rZ|fail)
 ·have q:(s.busy !=0)=true:=by simpa using hb
  rw[if_neg hb];refine pO func151 call151 ntmps151 results151 λS=>?_;conv=>whnf
  repeat'((first|refine awz ?_|refine XZ ai rfl ?_|refine X3 ac ac ?_|fail)<;>conv=>whnf)
  (refine X7 aN 9 (tkc [0,1,2] (.one 3 (.take 4 .done))) [(4,9980)] fb ae ae ae ae (λRz=>?_);(conv=>whnf);intro bp0 up0;(conv=>whnf))
  repeat'(first|refine awz ?_|exact rZ|fail)
end Go.Proofs.YtknefkdcokgpbaaGreat
