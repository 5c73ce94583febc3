/- IR8 -/
import Derived.Test.YtpdmakdpnejnfaaGreatK26
import Derived.Test.YtpdmakdpnejnfaaGreatK04
import Derived.Test.YtpdmakdpnejnfaaGreatK29
import Derived.Test.YtpdmakdpnejnfaaGreatK18
import Derived.Test.YtpdmakdpnejnfaaGreatMkE
import Derived.Test.YtpdmakdpnejnfaaGreatK21
import Derived.Test.YtpdmakdpnejnfaaGreatK07
set_option maxHeartbeats 16000000
set_option linter.unusedVariables false
set_option linter.unusedSimpArgs false
set_option maxRecDepth 100000
open List (mem_map take_length)
open Nat (zero_le)
namespace Go.Proofs.YtpdmakdpnejnfaaGreat
open Go.Proofs.Tryz
open Go.ChangeShapes Go.WideShapes Go.RowKit
def kn:List (List Nat):=cz [0,1,2,0,4,5436612675,22268365525318]
def bd:List (List Nat):=cz [0,1,2,0,196,5436612675,22268365525318]
def T9(t:DTwo):List AP1:=match iU t with
 |some h=>[.agg (m7 h (eC t h).1).ds,.agg h.ds,.agg (eC t h).1.ds,.one (dB true)]
 |none=>[.agg PF.ds,.agg g9.ds,.agg (⟨0,0,[]⟩:DBook).ds,.one (dB false)]
theorem EF(t:DTwo)(ht:ee t=true):dZ av 272 [.agg t.ds] (T9 t):=by
 have h2:eO t=true/\t.a.kept.length=22:=by simpa[ee]using ht
 have ko:=nL t;rw[ht]at ko;have bs:=wz t h2.1;have hft:=Jy h2.1;have h22:(dY t).a.kept.length=22:=by simp[dY,eN,f9,h2.2]
 have h23:(dY t).b.kept.length=22:=by rw[<-(dQ hft).2.2];exact h22
 have hkf:ee (dY t)=true:=by simp[ee,hft,h22]
 have hi:=Mr (dY t) hkf;rw[JF h2.1 h2.2]at hi;unfold T9;cases eh:iU t with
 |none=>
  rw[eh]at hi;have hi:dZ av 341 [.agg (dY t).ds] [.agg g9.ds,.one (dB false)]:=hi;simp only;refine bP aM func272 rfl call272 ntmps272 (aaX results272) rfl λS=>?_;conv=>whnf
  repeat'((first|refine awz ?_|refine cP (ko) ?_|refine X9 bs rfl rfl λR1 l1 e1 a1 b1' F1=>?_|(refine Ye [.agg ((dY t).ds.map .d)] ⟨F1.asV,trivial⟩ ?_;refine XM hi rfl rfl λR2 l2 e2 a2 b2' F2=>?_)|fail)<;>conv=>whnf)
  all_goals(exact⟨.inl rfl,.inl rfl,.inl rfl,.inl rfl,.inl rfl,.inl rfl,_,_,Nat.le_refl _,XD (hi:=0) rfl⟩)
 |some h=>
  rw[eh]at hi;have hi:dZ av 341 [.agg (dY t).ds] [.agg h.ds,.one (dB true)]:=hi;have ho:=p9 eh;have hf:=dy ho;have bi:=OQ (dY t) h hkf ho;rw[I9 h2.1 h2.2]at bi;have gr:=(kK (t:=t) ho).ok;simp only;generalize (eC t h).1=b at bi gr;obtain⟨b1,b2,b3,b4,b5,b6⟩:=du gr;have htm:h.num.tmod 2=h.num % 2:=Int.tmod_eq_emod_of_nonneg aa;have hmd:0<=h.num % 2/\h.num % 2<2:=aa;have hr:=Ms h ho;have E1:bI ((List.replicate 22 []).set (h.num % 2).toNat (fH h))=bI (dn h b 0):=rfl;have hm2:(h.num % 2).toNat=0\/(h.num % 2).toNat=1:=aa;refine bP aM func272 rfl call272 ntmps272 (aaX results272) rfl λS=>?_;conv=>whnf
  repeat'((first|refine awz ?_|refine cP (ko) ?_|refine X9 bs rfl rfl λR1 l1 e1 a1 b1' F1=>?_|(refine Ye [.agg ((dY t).ds.map .d)] ⟨F1.asV,trivial⟩ ?_;refine XM hi rfl rfl λR2 l2 e2 a2 b2' F2=>?_)|(refine Ye [.agg ((dY t).ds.map .d),.agg (h.ds.map .d)] ⟨F1.asV,(F2.part 0 4).asV,trivial⟩ ?_;refine X9 bi rfl rfl λR3 l3 e3 a3 b3' F3=>?_)|fail)<;>conv=>whnf)
  refine aaL 10 373 (List.replicate 22 .nil) (bI (List.replicate 22 [])) rfl T1 rfl ?_;conv=>whnf
  refine ZR [37,38,39,40,41,42] [] [(9997,cS S.w0.heap.size e3),(2,.cells 71 [.nil,.nil,.nil,.nil]),(3,.cells 74 [.d (dI 0),.d (dI 0),.d (dI 0),.nil]),(4,.cells 77 [.d (dI 0),.d (dI 0),.nil]),(6,.cells 71 [.d (.x (R1 0)),.d (.x (R1 1)),.d (.x (R1 2)),.d (.x (R1 3))]),(7,.cells 74 [.d (dI h.num),.d (dI h.base),.d (dI h.time),.d (.x (R2 3))]),(9,.cells 77 [.d (dI b.base),.d (dI b.time),.d (.x (R3 2))]),(10,.cells 373 (bI (dn h b 0)))] ?_ ?_<;>(conv=>whnf)
  ·rcases hm2 with hj|hj
   ·have hn:h.num.tmod 2=((0:Nat):Int):=by rw[htm];omega
    have EJ:(bI (List.replicate 22 [])).set 0 (.d (dH (fH h)))=bI (dn h b 0):=by rw[cG ah,<-E1,hj]
    (refine XF aM 9 (tkc [0,1,3] (.two 2 (onc [4,5,6] .done) 4 (onc [2,5,6] .done))) [(7,9980)] kn ac ac ac ac (λRz=>?_);(conv=>whnf);intro bp0 up0;(conv=>whnf))
    repeat'(first|refine awz ?_|((first|(refine Ye [.agg (h.ds.map .d)] ⟨(F2.part 0 4).asV,trivial⟩ ?_;refine XS hr rfl (.one (.d (dH (fH h)))) (AsV.d (eV _)) ?_)|refine And.intro ae ?_|refine je.at 0 hn ae ?_|fail)<;>conv=>whnf)|(exact And.intro whd (Xu rfl (Xu rfl (Xu rfl (Xu rfl (Xu rfl (Xu rfl (Xu rfl (Xu (congrArg some (congrArg (AO.cells 373) EJ)) Xv)))))))))|refine tW ?_ ?_|fail)
   ·have hn:h.num.tmod 2=((1:Nat):Int):=by rw[htm];omega
    have EJ:(bI (List.replicate 22 [])).set 1 (.d (dH (fH h)))=bI (dn h b 0):=by rw[cG ah,<-E1,hj]
    (refine XF aM 9 (tkc [0,1,3] (.two 2 (onc [4,5,6] .done) 4 (onc [2,5,6] .done))) [(7,9980)] kn ac ac ac ac (λRz=>?_);(conv=>whnf);intro bp0 up0;(conv=>whnf))
    repeat'(first|refine awz ?_|((first|(refine Ye [.agg (h.ds.map .d)] ⟨(F2.part 0 4).asV,trivial⟩ ?_;refine XS hr rfl (.one (.d (dH (fH h)))) (AsV.d (eV _)) ?_)|refine And.intro ae ?_|refine je.at 1 hn ae ?_|fail)<;>conv=>whnf)|(exact And.intro whd (Xu rfl (Xu rfl (Xu rfl (Xu rfl (Xu rfl (Xu rfl (Xu rfl (Xu (congrArg some (congrArg (AO.cells 373) EJ)) Xv)))))))))|refine tW ?_ ?_|fail)
  repeat refine AWP.seq ?_
  refine ZS aM 2 44 (.one (.d (.x (R3 2)))) (.one (.d (.sl (b.entries.map DEntry.ds)))) (AsV.d (F3.at (i:=2) rfl rfl)) ?_;conv=>whnf
  repeat'(first|refine awz ?_|fail)
  refine XA (λk:Nat=>k<=b.entries.length) (12::rg 46 11) (λk=>[(46,vI .i64 (k:Int))]) (λk=>[(9997,cS S.w0.heap.size e3),(2,.cells 71 [.nil,.nil,.nil,.nil]),(3,.cells 74 [.d (dI 0),.d (dI 0),.d (dI 0),.nil]),(4,.cells 77 [.d (dI 0),.d (dI 0),.nil]),(6,.cells 71 [.d (.x (R1 0)),.d (.x (R1 1)),.d (.x (R1 2)),.d (.x (R1 3))]),(7,.cells 74 [.d (dI h.num),.d (dI h.base),.d (dI h.time),.d (.x (R2 3))]),(9,.cells 77 [.d (dI b.base),.d (dI b.time),.d (.x (R3 2))]),(10,.cells 373 (bI (dn h b k)))]) (λk=>b.entries.length-k) 0 (Nat.zero_le _) ?_ sbW (λk hk=>?_)<;>(conv=>whnf)
  ·exact whd
  ·have hrl:=GM h b k;by_cases hlt:k<b.entries.length
   ·have hc:decide ((k:Int)<((b.entries.map DEntry.ds).length:Int))=true:=by simp only[decide_eq_true_eq,List.length_map];omega
    have eok:=(iN b5).2.1 _ (List.getElem_mem hlt);have erg:=(kt eok).1;have so:=Gh b.entries[k].index aa;have sr:=Mu b.entries[k];have srg:=mi b.entries[k].index;repeat'(first|refine awz ?_|(refine XK hlt ?_;conv=>whnf)|fail)
    rcases M6 (i:=b.entries[k].index)with hj|hj|hj|hj|hj|hj|hj|hj|hj|hj|hj|hj|hj|hj|hj|hj|hj|hj|hj|hj
    ·have hn:bW b.entries[k].index=((2:Nat):Int):=aa;have EJ:(bI (dn h b k)).set 2 (.d (dH (bx b.entries[k])))=bI (dn h b (k+1)):=by rw[cG hrl,cY hlt,hj]
     (refine XF aM 13 (tkc [0,1,3] (onc [2,4,5,6] .done)) [(12,9980)] bd ac ac ac ac (λRz=>?_);(conv=>whnf);intro bp0 up0;(conv=>whnf))
     repeat'((first|refine awz ?_|refine cP (so) ?_|refine XS sr rfl (.one (.d (dH (bx b.entries[k])))) (AsV.d (eV _)) ?_|refine je.at 2 hn ae ?_|refine Xz aa aa ?_|fail)<;>conv=>whnf)
     all_goals
      refine aT.mk ⟨k+1,hlt,aa,?_,Xu rfl (Xu rfl (Xu rfl (Xu rfl (Xu rfl (Xu rfl (Xu rfl (Xu (congrArg some (congrArg (AO.cells 373) EJ)) Xv)))))))⟩;exact hds
    ·have hn:bW b.entries[k].index=((3:Nat):Int):=aa;have EJ:(bI (dn h b k)).set 3 (.d (dH (bx b.entries[k])))=bI (dn h b (k+1)):=by rw[cG hrl,cY hlt,hj]
     (refine XF aM 13 (tkc [0,1,3] (onc [2,4,5,6] .done)) [(12,9980)] bd ac ac ac ac (λRz=>?_);(conv=>whnf);intro bp0 up0;(conv=>whnf))
     repeat'((first|refine awz ?_|refine cP (so) ?_|refine XS sr rfl (.one (.d (dH (bx b.entries[k])))) (AsV.d (eV _)) ?_|refine je.at 3 hn ae ?_|refine Xz aa aa ?_|fail)<;>conv=>whnf)
     all_goals
      refine aT.mk ⟨k+1,hlt,aa,?_,Xu rfl (Xu rfl (Xu rfl (Xu rfl (Xu rfl (Xu rfl (Xu rfl (Xu (congrArg some (congrArg (AO.cells 373) EJ)) Xv)))))))⟩;exact hds
    ·have hn:bW b.entries[k].index=((4:Nat):Int):=aa;have EJ:(bI (dn h b k)).set 4 (.d (dH (bx b.entries[k])))=bI (dn h b (k+1)):=by rw[cG hrl,cY hlt,hj]
     (refine XF aM 13 (tkc [0,1,3] (onc [2,4,5,6] .done)) [(12,9980)] bd ac ac ac ac (λRz=>?_);(conv=>whnf);intro bp0 up0;(conv=>whnf))
     repeat'((first|refine awz ?_|refine cP (so) ?_|refine XS sr rfl (.one (.d (dH (bx b.entries[k])))) (AsV.d (eV _)) ?_|refine je.at 4 hn ae ?_|refine Xz aa aa ?_|fail)<;>conv=>whnf)
     all_goals
      refine aT.mk ⟨k+1,hlt,aa,?_,Xu rfl (Xu rfl (Xu rfl (Xu rfl (Xu rfl (Xu rfl (Xu rfl (Xu (congrArg some (congrArg (AO.cells 373) EJ)) Xv)))))))⟩;exact hds
    ·have hn:bW b.entries[k].index=((5:Nat):Int):=aa;have EJ:(bI (dn h b k)).set 5 (.d (dH (bx b.entries[k])))=bI (dn h b (k+1)):=by rw[cG hrl,cY hlt,hj]
     (refine XF aM 13 (tkc [0,1,3] (onc [2,4,5,6] .done)) [(12,9980)] bd ac ac ac ac (λRz=>?_);(conv=>whnf);intro bp0 up0;(conv=>whnf))
     repeat'((first|refine awz ?_|refine cP (so) ?_|refine XS sr rfl (.one (.d (dH (bx b.entries[k])))) (AsV.d (eV _)) ?_|refine je.at 5 hn ae ?_|refine Xz aa aa ?_|fail)<;>conv=>whnf)
     all_goals
      refine aT.mk ⟨k+1,hlt,aa,?_,Xu rfl (Xu rfl (Xu rfl (Xu rfl (Xu rfl (Xu rfl (Xu rfl (Xu (congrArg some (congrArg (AO.cells 373) EJ)) Xv)))))))⟩;exact hds
    ·have hn:bW b.entries[k].index=((6:Nat):Int):=aa;have EJ:(bI (dn h b k)).set 6 (.d (dH (bx b.entries[k])))=bI (dn h b (k+1)):=by rw[cG hrl,cY hlt,hj]
     (refine XF aM 13 (tkc [0,1,3] (onc [2,4,5,6] .done)) [(12,9980)] bd ac ac ac ac (λRz=>?_);(conv=>whnf);intro bp0 up0;(conv=>whnf))
     repeat'((first|refine awz ?_|refine cP (so) ?_|refine XS sr rfl (.one (.d (dH (bx b.entries[k])))) (AsV.d (eV _)) ?_|refine je.at 6 hn ae ?_|refine Xz aa aa ?_|fail)<;>conv=>whnf)
     all_goals
      refine aT.mk ⟨k+1,hlt,aa,?_,Xu rfl (Xu rfl (Xu rfl (Xu rfl (Xu rfl (Xu rfl (Xu rfl (Xu (congrArg some (congrArg (AO.cells 373) EJ)) Xv)))))))⟩;exact hds
    ·have hn:bW b.entries[k].index=((7:Nat):Int):=aa;have EJ:(bI (dn h b k)).set 7 (.d (dH (bx b.entries[k])))=bI (dn h b (k+1)):=by rw[cG hrl,cY hlt,hj]
     (refine XF aM 13 (tkc [0,1,3] (onc [2,4,5,6] .done)) [(12,9980)] bd ac ac ac ac (λRz=>?_);(conv=>whnf);intro bp0 up0;(conv=>whnf))
     repeat'((first|refine awz ?_|refine cP (so) ?_|refine XS sr rfl (.one (.d (dH (bx b.entries[k])))) (AsV.d (eV _)) ?_|refine je.at 7 hn ae ?_|refine Xz aa aa ?_|fail)<;>conv=>whnf)
     all_goals
      refine aT.mk ⟨k+1,hlt,aa,?_,Xu rfl (Xu rfl (Xu rfl (Xu rfl (Xu rfl (Xu rfl (Xu rfl (Xu (congrArg some (congrArg (AO.cells 373) EJ)) Xv)))))))⟩;exact hds
    ·have hn:bW b.entries[k].index=((8:Nat):Int):=aa;have EJ:(bI (dn h b k)).set 8 (.d (dH (bx b.entries[k])))=bI (dn h b (k+1)):=by rw[cG hrl,cY hlt,hj]
     (refine XF aM 13 (tkc [0,1,3] (onc [2,4,5,6] .done)) [(12,9980)] bd ac ac ac ac (λRz=>?_);(conv=>whnf);intro bp0 up0;(conv=>whnf))
     repeat'((first|refine awz ?_|refine cP (so) ?_|refine XS sr rfl (.one (.d (dH (bx b.entries[k])))) (AsV.d (eV _)) ?_|refine je.at 8 hn ae ?_|refine Xz aa aa ?_|fail)<;>conv=>whnf)
     all_goals
      refine aT.mk ⟨k+1,hlt,aa,?_,Xu rfl (Xu rfl (Xu rfl (Xu rfl (Xu rfl (Xu rfl (Xu rfl (Xu (congrArg some (congrArg (AO.cells 373) EJ)) Xv)))))))⟩;exact hds
    ·have hn:bW b.entries[k].index=((9:Nat):Int):=aa;have EJ:(bI (dn h b k)).set 9 (.d (dH (bx b.entries[k])))=bI (dn h b (k+1)):=by rw[cG hrl,cY hlt,hj]
     (refine XF aM 13 (tkc [0,1,3] (onc [2,4,5,6] .done)) [(12,9980)] bd ac ac ac ac (λRz=>?_);(conv=>whnf);intro bp0 up0;(conv=>whnf))
     repeat'((first|refine awz ?_|refine cP (so) ?_|refine XS sr rfl (.one (.d (dH (bx b.entries[k])))) (AsV.d (eV _)) ?_|refine je.at 9 hn ae ?_|refine Xz aa aa ?_|fail)<;>conv=>whnf)
     all_goals
      refine aT.mk ⟨k+1,hlt,aa,?_,Xu rfl (Xu rfl (Xu rfl (Xu rfl (Xu rfl (Xu rfl (Xu rfl (Xu (congrArg some (congrArg (AO.cells 373) EJ)) Xv)))))))⟩;exact hds
    ·have hn:bW b.entries[k].index=((10:Nat):Int):=aa;have EJ:(bI (dn h b k)).set 10 (.d (dH (bx b.entries[k])))=bI (dn h b (k+1)):=by rw[cG hrl,cY hlt,hj]
     (refine XF aM 13 (tkc [0,1,3] (onc [2,4,5,6] .done)) [(12,9980)] bd ac ac ac ac (λRz=>?_);(conv=>whnf);intro bp0 up0;(conv=>whnf))
     repeat'((first|refine awz ?_|refine cP (so) ?_|refine XS sr rfl (.one (.d (dH (bx b.entries[k])))) (AsV.d (eV _)) ?_|refine je.at 10 hn ae ?_|refine Xz aa aa ?_|fail)<;>conv=>whnf)
     all_goals
      refine aT.mk ⟨k+1,hlt,aa,?_,Xu rfl (Xu rfl (Xu rfl (Xu rfl (Xu rfl (Xu rfl (Xu rfl (Xu (congrArg some (congrArg (AO.cells 373) EJ)) Xv)))))))⟩;exact hds
    ·have hn:bW b.entries[k].index=((11:Nat):Int):=aa;have EJ:(bI (dn h b k)).set 11 (.d (dH (bx b.entries[k])))=bI (dn h b (k+1)):=by rw[cG hrl,cY hlt,hj]
     (refine XF aM 13 (tkc [0,1,3] (onc [2,4,5,6] .done)) [(12,9980)] bd ac ac ac ac (λRz=>?_);(conv=>whnf);intro bp0 up0;(conv=>whnf))
     repeat'((first|refine awz ?_|refine cP (so) ?_|refine XS sr rfl (.one (.d (dH (bx b.entries[k])))) (AsV.d (eV _)) ?_|refine je.at 11 hn ae ?_|refine Xz aa aa ?_|fail)<;>conv=>whnf)
     all_goals
      refine aT.mk ⟨k+1,hlt,aa,?_,Xu rfl (Xu rfl (Xu rfl (Xu rfl (Xu rfl (Xu rfl (Xu rfl (Xu (congrArg some (congrArg (AO.cells 373) EJ)) Xv)))))))⟩;exact hds
    ·have hn:bW b.entries[k].index=((12:Nat):Int):=aa;have EJ:(bI (dn h b k)).set 12 (.d (dH (bx b.entries[k])))=bI (dn h b (k+1)):=by rw[cG hrl,cY hlt,hj]
     (refine XF aM 13 (tkc [0,1,3] (onc [2,4,5,6] .done)) [(12,9980)] bd ac ac ac ac (λRz=>?_);(conv=>whnf);intro bp0 up0;(conv=>whnf))
     repeat'((first|refine awz ?_|refine cP (so) ?_|refine XS sr rfl (.one (.d (dH (bx b.entries[k])))) (AsV.d (eV _)) ?_|refine je.at 12 hn ae ?_|refine Xz aa aa ?_|fail)<;>conv=>whnf)
     all_goals
      refine aT.mk ⟨k+1,hlt,aa,?_,Xu rfl (Xu rfl (Xu rfl (Xu rfl (Xu rfl (Xu rfl (Xu rfl (Xu (congrArg some (congrArg (AO.cells 373) EJ)) Xv)))))))⟩;exact hds
    ·have hn:bW b.entries[k].index=((13:Nat):Int):=aa;have EJ:(bI (dn h b k)).set 13 (.d (dH (bx b.entries[k])))=bI (dn h b (k+1)):=by rw[cG hrl,cY hlt,hj]
     (refine XF aM 13 (tkc [0,1,3] (onc [2,4,5,6] .done)) [(12,9980)] bd ac ac ac ac (λRz=>?_);(conv=>whnf);intro bp0 up0;(conv=>whnf))
     repeat'((first|refine awz ?_|refine cP (so) ?_|refine XS sr rfl (.one (.d (dH (bx b.entries[k])))) (AsV.d (eV _)) ?_|refine je.at 13 hn ae ?_|refine Xz aa aa ?_|fail)<;>conv=>whnf)
     all_goals
      refine aT.mk ⟨k+1,hlt,aa,?_,Xu rfl (Xu rfl (Xu rfl (Xu rfl (Xu rfl (Xu rfl (Xu rfl (Xu (congrArg some (congrArg (AO.cells 373) EJ)) Xv)))))))⟩;exact hds
    ·have hn:bW b.entries[k].index=((14:Nat):Int):=aa;have EJ:(bI (dn h b k)).set 14 (.d (dH (bx b.entries[k])))=bI (dn h b (k+1)):=by rw[cG hrl,cY hlt,hj]
     (refine XF aM 13 (tkc [0,1,3] (onc [2,4,5,6] .done)) [(12,9980)] bd ac ac ac ac (λRz=>?_);(conv=>whnf);intro bp0 up0;(conv=>whnf))
     repeat'((first|refine awz ?_|refine cP (so) ?_|refine XS sr rfl (.one (.d (dH (bx b.entries[k])))) (AsV.d (eV _)) ?_|refine je.at 14 hn ae ?_|refine Xz aa aa ?_|fail)<;>conv=>whnf)
     all_goals
      refine aT.mk ⟨k+1,hlt,aa,?_,Xu rfl (Xu rfl (Xu rfl (Xu rfl (Xu rfl (Xu rfl (Xu rfl (Xu (congrArg some (congrArg (AO.cells 373) EJ)) Xv)))))))⟩;exact hds
    ·have hn:bW b.entries[k].index=((15:Nat):Int):=aa;have EJ:(bI (dn h b k)).set 15 (.d (dH (bx b.entries[k])))=bI (dn h b (k+1)):=by rw[cG hrl,cY hlt,hj]
     (refine XF aM 13 (tkc [0,1,3] (onc [2,4,5,6] .done)) [(12,9980)] bd ac ac ac ac (λRz=>?_);(conv=>whnf);intro bp0 up0;(conv=>whnf))
     repeat'((first|refine awz ?_|refine cP (so) ?_|refine XS sr rfl (.one (.d (dH (bx b.entries[k])))) (AsV.d (eV _)) ?_|refine je.at 15 hn ae ?_|refine Xz aa aa ?_|fail)<;>conv=>whnf)
     all_goals
      refine aT.mk ⟨k+1,hlt,aa,?_,Xu rfl (Xu rfl (Xu rfl (Xu rfl (Xu rfl (Xu rfl (Xu rfl (Xu (congrArg some (congrArg (AO.cells 373) EJ)) Xv)))))))⟩;exact hds
    ·have hn:bW b.entries[k].index=((16:Nat):Int):=aa;have EJ:(bI (dn h b k)).set 16 (.d (dH (bx b.entries[k])))=bI (dn h b (k+1)):=by rw[cG hrl,cY hlt,hj]
     (refine XF aM 13 (tkc [0,1,3] (onc [2,4,5,6] .done)) [(12,9980)] bd ac ac ac ac (λRz=>?_);(conv=>whnf);intro bp0 up0;(conv=>whnf))
     repeat'((first|refine awz ?_|refine cP (so) ?_|refine XS sr rfl (.one (.d (dH (bx b.entries[k])))) (AsV.d (eV _)) ?_|refine je.at 16 hn ae ?_|refine Xz aa aa ?_|fail)<;>conv=>whnf)
     all_goals
      refine aT.mk ⟨k+1,hlt,aa,?_,Xu rfl (Xu rfl (Xu rfl (Xu rfl (Xu rfl (Xu rfl (Xu rfl (Xu (congrArg some (congrArg (AO.cells 373) EJ)) Xv)))))))⟩;exact hds
    ·have hn:bW b.entries[k].index=((17:Nat):Int):=aa;have EJ:(bI (dn h b k)).set 17 (.d (dH (bx b.entries[k])))=bI (dn h b (k+1)):=by rw[cG hrl,cY hlt,hj]
     (refine XF aM 13 (tkc [0,1,3] (onc [2,4,5,6] .done)) [(12,9980)] bd ac ac ac ac (λRz=>?_);(conv=>whnf);intro bp0 up0;(conv=>whnf))
     repeat'((first|refine awz ?_|refine cP (so) ?_|refine XS sr rfl (.one (.d (dH (bx b.entries[k])))) (AsV.d (eV _)) ?_|refine je.at 17 hn ae ?_|refine Xz aa aa ?_|fail)<;>conv=>whnf)
     all_goals
      refine aT.mk ⟨k+1,hlt,aa,?_,Xu rfl (Xu rfl (Xu rfl (Xu rfl (Xu rfl (Xu rfl (Xu rfl (Xu (congrArg some (congrArg (AO.cells 373) EJ)) Xv)))))))⟩;exact hds
    ·have hn:bW b.entries[k].index=((18:Nat):Int):=aa;have EJ:(bI (dn h b k)).set 18 (.d (dH (bx b.entries[k])))=bI (dn h b (k+1)):=by rw[cG hrl,cY hlt,hj]
     (refine XF aM 13 (tkc [0,1,3] (onc [2,4,5,6] .done)) [(12,9980)] bd ac ac ac ac (λRz=>?_);(conv=>whnf);intro bp0 up0;(conv=>whnf))
     repeat'((first|refine awz ?_|refine cP (so) ?_|refine XS sr rfl (.one (.d (dH (bx b.entries[k])))) (AsV.d (eV _)) ?_|refine je.at 18 hn ae ?_|refine Xz aa aa ?_|fail)<;>conv=>whnf)
     all_goals
      refine aT.mk ⟨k+1,hlt,aa,?_,Xu rfl (Xu rfl (Xu rfl (Xu rfl (Xu rfl (Xu rfl (Xu rfl (Xu (congrArg some (congrArg (AO.cells 373) EJ)) Xv)))))))⟩;exact hds
    ·have hn:bW b.entries[k].index=((19:Nat):Int):=aa;have EJ:(bI (dn h b k)).set 19 (.d (dH (bx b.entries[k])))=bI (dn h b (k+1)):=by rw[cG hrl,cY hlt,hj]
     (refine XF aM 13 (tkc [0,1,3] (onc [2,4,5,6] .done)) [(12,9980)] bd ac ac ac ac (λRz=>?_);(conv=>whnf);intro bp0 up0;(conv=>whnf))
     repeat'((first|refine awz ?_|refine cP (so) ?_|refine XS sr rfl (.one (.d (dH (bx b.entries[k])))) (AsV.d (eV _)) ?_|refine je.at 19 hn ae ?_|refine Xz aa aa ?_|fail)<;>conv=>whnf)
     all_goals
      refine aT.mk ⟨k+1,hlt,aa,?_,Xu rfl (Xu rfl (Xu rfl (Xu rfl (Xu rfl (Xu rfl (Xu rfl (Xu (congrArg some (congrArg (AO.cells 373) EJ)) Xv)))))))⟩;exact hds
    ·have hn:bW b.entries[k].index=((20:Nat):Int):=aa;have EJ:(bI (dn h b k)).set 20 (.d (dH (bx b.entries[k])))=bI (dn h b (k+1)):=by rw[cG hrl,cY hlt,hj]
     (refine XF aM 13 (tkc [0,1,3] (onc [2,4,5,6] .done)) [(12,9980)] bd ac ac ac ac (λRz=>?_);(conv=>whnf);intro bp0 up0;(conv=>whnf))
     repeat'((first|refine awz ?_|refine cP (so) ?_|refine XS sr rfl (.one (.d (dH (bx b.entries[k])))) (AsV.d (eV _)) ?_|refine je.at 20 hn ae ?_|refine Xz aa aa ?_|fail)<;>conv=>whnf)
     all_goals
      refine aT.mk ⟨k+1,hlt,aa,?_,Xu rfl (Xu rfl (Xu rfl (Xu rfl (Xu rfl (Xu rfl (Xu rfl (Xu (congrArg some (congrArg (AO.cells 373) EJ)) Xv)))))))⟩;exact hds
    ·have hn:bW b.entries[k].index=((21:Nat):Int):=aa;have EJ:(bI (dn h b k)).set 21 (.d (dH (bx b.entries[k])))=bI (dn h b (k+1)):=by rw[cG hrl,cY hlt,hj]
     (refine XF aM 13 (tkc [0,1,3] (onc [2,4,5,6] .done)) [(12,9980)] bd ac ac ac ac (λRz=>?_);(conv=>whnf);intro bp0 up0;(conv=>whnf))
     repeat'((first|refine awz ?_|refine cP (so) ?_|refine XS sr rfl (.one (.d (dH (bx b.entries[k])))) (AsV.d (eV _)) ?_|refine je.at 21 hn ae ?_|refine Xz aa aa ?_|fail)<;>conv=>whnf)
     all_goals
      refine aT.mk ⟨k+1,hlt,aa,?_,Xu rfl (Xu rfl (Xu rfl (Xu rfl (Xu rfl (Xu rfl (Xu rfl (Xu (congrArg some (congrArg (AO.cells 373) EJ)) Xv)))))))⟩;exact hds
   ·have e:k=b.entries.length:=aa;subst e;have hc:decide ((b.entries.length:Int)<((b.entries.map DEntry.ds).length:Int))=false:=ah;rw[GL];repeat'(first|refine awz ?_|fail)
    have e0:mS h b (dY t) 0=dY t:=by simp only[mS,Du];rfl
    have FBC:d6 l2 e3 (((cW R2 0 (h.ds++[dB true])).drop 0).take 4++cW R3 0 b.ds) (((h.ds++[dB true]).drop 0).take 4++b.ds):=(F2.part 0 4).app F3 (.inl a3) ⟨Nat.le_refl _,aa⟩ ⟨aa,Nat.le_refl _⟩;refine XA (λg:Nat×Nat×Nat×Nat×AD×AD×AD×AD=>(g.1<=22/\S.w0.heap.size<=g.2.1/\(g.2.2.1<=l2\/e3<=g.2.1)/\e3<=g.2.2.2.1/\g.2.1<=g.2.2.1)/\d6 g.2.1 g.2.2.1 [g.2.2.2.2.1,g.2.2.2.2.2.1,g.2.2.2.2.2.2.1,g.2.2.2.2.2.2.2] (mS h b (dY t) g.1).ds) (13::14::rg 58 9) (λg=>[(58,vI .i64 (g.1:Int))]) (λg=>[(9997,cS S.w0.heap.size g.2.2.2.1),(2,.cells 71 [.nil,.nil,.nil,.nil]),(3,.cells 74 [.d (dI 0),.d (dI 0),.d (dI 0),.nil]),(4,.cells 77 [.d (dI 0),.d (dI 0),.nil]),(6,.cells 71 [.d g.2.2.2.2.1,.d g.2.2.2.2.2.1,.d g.2.2.2.2.2.2.1,.d g.2.2.2.2.2.2.2]),(7,.cells 74 [.d (dI h.num),.d (dI h.base),.d (dI h.time),.d (.x (R2 3))]),(9,.cells 77 [.d (dI b.base),.d (dI b.time),.d (.x (R3 2))])]) (λg=>22-g.1) (0,l1,e1,e3,.x (R1 0),.x (R1 1),.x (R1 2),.x (R1 3)) ⟨⟨Nat.zero_le _,a1,.inl a2,Nat.le_refl _,b1'⟩,by show d6 l1 e1 _ (mS h b (dY t) 0).ds;rw[e0];exact F1⟩ ?_ sbW (λg hg=>?_)<;>(conv=>whnf)
    ·exact whd
    ·obtain⟨k,lo,hi,m,c1,c2,c3,c4⟩:=g;obtain⟨⟨hk,g1,g2,g3,g4⟩,Fk⟩:=hg;simp only at hk g1 g2 g3 g4 Fk;by_cases hlt:k<22
     ·have hc:decide ((k:Int)<22)=true:=by simp only[decide_eq_true_eq];omega
      have hrl2:=iH h b;have hkr:k<(gW h b).length:=aa;have rok:=vP h b _ (List.getElem_mem hkr);have tok:=N6 (h:=h) (b:=b) hft h22 (k:=k) aa;have ml:=vG (h:=h) (b:=b) h22 (j:=k) aa;have md:=JJ (nj h b (dY t).a.kept k) (nj h b (dY t).b.kept k) (k:Int) (gW h b)[k] tok (by rw[ml];simp[aJ];omega) rok.1 rok.2;rw[show Tw ⟨⟨nj h b (dY t).a.kept k,[]⟩,⟨nj h b (dY t).b.kept k,[]⟩⟩ (k:Int) (gW h b)[k]=mS h b (dY t) (k+1)from Hd h22 h23 hlt]at md;have hcell:(bI (gW h b))[k]? =some (.d (dH (gW h b)[k])):=by rw[qU hrl2,List.getElem?_map,List.getElem?_eq_getElem hkr];rfl
      repeat'((first|refine Z4 (cs:=bI (gW h b)) rfl rfl rfl k hlt rfl hcell ?_|refine awz ?_|(refine Ye [.agg ((mS h b (dY t) k).ds.map .d),.one (.d (dI (k:Int))),.one (.d (Bj (gW h b)[k]))] ⟨Fk.asV,AsV.refl _,AsV.d (SG _),trivial⟩ ?_;refine X9 md rfl rfl λR lo2 hi2 m1 m2 FF=>?_)|refine Xz aa aa ?_|fail)<;>conv=>whnf)
      refine aT.mk ⟨(k+1,lo2,hi2,hi2,.x (R 0),.x (R 1),.x (R 2),.x (R 3)),⟨⟨hlt,by have m1:m<=lo2:=m1;simp only;omega,.inr (by have m1:m<=lo2:=m1;simp only;omega),by have m1:m<=lo2:=m1;simp only;omega,m2⟩,FF⟩,by simp only;omega,?_,sbW⟩;exact hds
     ·have e9:k=22:=aa;subst e9;have hc:decide (((22:Nat):Int)<22)=false:=ae;have eR:mS h b (dY t) 22=m7 h b:=by simp only[mS,m7,nB,vF h22,vF h23]
      rw[eR]at Fk;repeat'(first|refine awz ?_|fail)
      (refine XF aM 20 (tkc [0,1,2] (onc [3,4,5] (.take 6 .done))) [(6,9980),(7,9981),(9,9982)] jN ac ac ac ac (λRz=>?_);(conv=>whnf);intro bp0 up0;(conv=>whnf);intro bp1 up1;(conv=>whnf);intro bp2 up2;(conv=>whnf))
      repeat'(first|refine awz ?_|fail)
      all_goals
       have FA:=(Fk.app (L:=min lo l2) (H:=max hi e3) FBC g2 ⟨Nat.min_le_left _ _,Nat.min_le_right _ _⟩ ⟨Nat.le_max_left _ _,Nat.le_max_right _ _⟩).app (L:=min lo l2) (H:=max hi e3) (Yk (lo:=max hi e3) (hi:=max hi e3) (ds:=[dB true]) rfl) (.inl (Nat.le_refl _)) ⟨Nat.le_refl _,aa⟩ ⟨Nat.le_refl _,Nat.le_refl _⟩;exact⟨min lo l2,max hi e3,aa,FA.fam⟩
section
variable {y:DWorld}{k:Nat}
def qL:List (List Nat):=cz [0,0,0,0,4,1323137,0,0x1c61440c2045187]
theorem MV(t:DTwo)(ht:ee t=false):aL av 234 [.agg t.ds] (.tup [.agg g9.ds,.one (dB false)]):=by
  have n1:(!ee t)=true:=by rw[ht];rfl
  refine pO func234 call234 ntmps234 results234 λS=>?_;conv=>whnf
  repeat'(first|refine awz ?_|(refine cP (kB t) ?_;conv=>whnf)|exact rZ|fail)
def NN:AP:= .tup [.agg PF.ds,.agg g9.ds,.agg (⟨0,0,[]⟩:DBook).ds,.one (dB false)]
theorem EU(t:DTwo)(ht:ee t=false):aL av 153 [.agg t.ds] NN:=by
  have hi:=MV t ht;unfold NN;refine pO func153 call153 ntmps153 results153 λS=>?_;conv=>whnf
  repeat'(first|refine awz ?_|(refine cP (hi) ?_;conv=>whnf)|exact rZ|fail)
def TZ:DLogNode:=⟨PF,g9,g9,false,⟨0,0,[]⟩,[],0,[]⟩
def KG(o:Option DLogNode):AP:= .tup [.agg (o.getD TZ).ds,.one (dB o.isSome)]
theorem AX(n:DLogNode)(hr:aL av 153 [.agg n.two.ds] NN):aL av 76 [.agg n.ds] (KG none):=by
  unfold NN at hr;unfold KG;refine pO func76 call76 ntmps76 results76 λS=>?_;conv=>whnf
  repeat'(first|refine awz ?_|(refine cP (hr) ?_;conv=>whnf)|exact rZ|fail)
theorem K1(n:DLogNode):aL av 76 [.agg n.ds] (KG (dr n)):=by
  cases hk:ee n.two with
  |false=>
    have e:dr n=none:=by simp[dr,hk]
    rw[e];exact AX n (EU n.two hk)
  |true=>
    have hr:=IA n.two hk;unfold T3 at hr;cases eh:iU n.two with
    |none=>
      rw[eh]at hr;have e:dr n=none:=by simp[dr,hk,eh]
      rw[e];exact AX n hr
    |some h=>
      rw[eh]at hr;simp only at hr;have ho:=p9 eh;have g:=kK (t:=n.two) ho;have hf:=dy ho;have e:dr n=some ⟨m7 h (eC n.two h).1,h,g9,false,(eC n.two h).1,(eC n.two h).2,bp (eC n.two h).1,[]⟩:=by simp[dr,hk,eh]
      rw[e];generalize eC n.two h=p at g hr;obtain⟨b,s⟩:=p;simp only at g hr;have hb:=du g.ok;have so:=mQ h.seen b.entries;rw[qg hf.2.2.2.2.1 aa g.fold]at so;generalize m7 h b=tt at hr;unfold KG;refine pO func76 call76 ntmps76 results76 λS=>?_;conv=>whnf
      repeat'(first|refine awz ?_|(refine cP (hr) ?_;conv=>whnf)|fail)
      (refine XF aM 4 (tkc [0,1,2,3] (.two 4 (.two 5 (.one 6 (.one 7 .done)) 6 (.one 5 (.one 7 .done))) 6 (onc [4,5,7] .done))) [(4,9980),(5,9981),(6,9982)] qL ac ac ac ac (λRz=>?_);(conv=>whnf);intro bp0 up0;(conv=>whnf);intro bp1 up1;(conv=>whnf);intro bp2 up2;(conv=>whnf))
      repeat'((first|refine awz ?_|refine cP (fJ b g.ok) ?_|refine cP (so) ?_|exact rZ|refine tW ?_ ?_|fail)<;>conv=>whnf)
theorem HV(s:List DMark)(l:List DEntry)(s2:List DMark)(hseen:cA s=true)(hl:l.length<=2000)(hT:cN s l=some s2):dZ av 273 [.one (.sl (s.map DMark.ds)),.one (.sl (l.map DEntry.ds))] [.one (.sl (s2.map DMark.ds)),.one (dB true)]:=by
  have hs4:=em hseen;have so:=lV s aa;rw[hseen]at so;refine bP aM func273 rfl call273 ntmps273 (aaX results273) rfl λS=>?_;conv=>whnf
  repeat'((first|refine awz ?_|refine cP (so) ?_|refine cP (ip s aa) ?_|refine AOp.makeMap (E:=av) 2 rfl rfl ?_|refine tB ?_ ?_|intro h)<;>conv=>whnf)
  · exfalso;simp only[List.length_map,decide_eq_true_eq]at h;omega
  · clear h;refine XA (λk:Nat=>k<=s.length) (8::rg 27 9) (λk=>[(27,vI .i64 (k:Int))]) (λk=>[(9997,cS S.w0.heap.size S.w0.heap.size),(24,iV Tryz.prog 2 k (gy (s.take k)))]) (λk=>s.length-k) 0 aa ?_ sbW (λk hk=>?_)<;>(conv=>whnf)
    · exact whd
    · repeat'((first|refine awz ?_|refine XI ari (λhlt=>?_)|refine Xz ari ari ?_|refine Yz (id:=24) (N:=k) (s[k]'ari) rfl aa rfl rfl rfl (Hf hseen ari) rfl (Am (kC hseen) ari) ?_|refine cP (ku s aa) ?_|refine tB ?_ ?_|intro h)<;>conv=>whnf)
      · refine aT.mk ⟨k+1,hlt,aa,?_,sbW⟩;exact hds
      · have hkk:k=s.length:=ari;subst hkk;rw[List.take_length];clear h hk;refine XA (λp:Nat×List DMark×Int=>p.1<=l.length/\cN s (l.take p.1)=some p.2.1/\p.2.2=bY p.2.1) (4::5::9::11::rg 40 41) (λp=>[(9,vI .i64 p.2.2),(40,vI .i64 (p.1:Int))]) (λp=>[(9997,cS S.w0.heap.size S.w0.heap.size),(24,iV Tryz.prog 2 (s.length+p.1) (gy p.2.1))]) (λp=>l.length-p.1) (0,s,bY s) ⟨by simp,rfl,rfl⟩ ?_ sbW (λp hR=>?_)<;>(conv=>whnf)
        · exact whd
        · obtain⟨hk,hf,hla⟩:=hR;have hcur:=nJ hseen hf;repeat'((first|refine awz ?_|refine XI ari (λhlt=>?_)|refine Xz ari ari ?_|refine cP (gd _) ?_|refine cP (ip s aa) ?_|refine Y3 (id:=24) (N:=s.length+p.1) (s:=p.2.1) rfl rfl rfl rfl (qA aj) ?_|refine Zs (E:=av) (id:=24) (N:=s.length+p.1) (f:=gy p.2.1) rfl rfl underlying374 underlying2 rfl rfl rfl (qA aj) ?_|refine Yz (id:=24) (N:=s.length+p.1) (DEntry.mark (l[p.1]'ari)) rfl aa rfl rfl rfl (qA aj) rfl (Al _ _) ?_|refine tB ?_ ?_|intro h)<;>conv=>whnf)
          all_goals first
            |(exfalso;have h9:=lP ari hf (Gu (.inl (by simpa using h)));rw[hT]at h9;cases h9)
            |(exfalso;have h9:=lP ari hf (Gu (.inr (.inl (by simpa using h))));rw[hT]at h9;cases h9)
            |(exfalso;have h9:=lP ari hf (Gu (.inr (.inr (by rw[<-hla];simpa using h))));rw[hT]at h9;cases h9)
            | (have hm := QO (s := p.2.1) (e := l[p.1]'ari) ao ao (by rw [← hla]; simp_all)
               refine aT.mk ⟨(p.1+1,putMark p.2.1 (l[p.1]'ari).mark,(l[p.1]'ari).index),⟨ari,by simp only[p7 (l:=l) (k:=p.1) ari hf,hm],(zi (by rw[<-hla];simp_all)).symm⟩,ari,?_,sbW⟩;exact hds)
            |skip
          have hkk:p.1=l.length:=ari;rw[hkk,List.take_length]at hf;rw[hT]at hf;injection hf with hf
          have hlen:=em hcur;refine XA (λc:Int=>2<=c/\c<=6) (81::[12,13,14,15,82,83,84,85,86,87,88,89,90,91,92,93,94,95,96]) (λc=>[(12,.one (.own 81)),(13,vI .i64 c)]) (λc=>[(9997,cS S.w0.heap.size S.w0.heap.size),(81,.row 247 3 ((p.2.1.filter λx=>decide (x.client<c)).map DMark.ds)),(24,iV Tryz.prog 2 (s.length+p.1) (gy p.2.1))]) (λc=>(6-c).toNat) 2 aa ?_ (Xu rfl (Xu (congrArg some (congrArg (AO.row 247 3) (by simp only[FU hcur,List.map_nil]))) sbW)) (λc hc=>?_)<;>(conv=>whnf)
          · exact whd
          · have hfl:(p.2.1.filter λx=>decide (x.client<c)).length<=4:=Nat.le_trans (List.length_filter_le ..) hlen;have hsu:=y9 (c:=c) (kC hcur);cases hfi:p.2.1.find? (λx=>x.client==c)with
            |none=>
              have hso:(p.2.1.find? (λx=>x.client==c)).isSome=false:=by rw[hfi];rfl
              rw[hfi]at hsu;simp only[Option.toList_none,List.append_nil]at hsu;repeat'((first|refine awz ?_|refine Xz ari ari ?_|refine Yo (id:=24) (N:=s.length+p.1) (s:=p.2.1) rfl rfl rfl rfl (oL aa aa) ?_|refine tB ?_ ?_|intro h)<;>conv=>whnf)
              all_goals first
                | (refine aT.mk ⟨c + 1, ⟨ari, ari⟩, ari, ?_, Xu rfl (Xu (congrArg some (congrArg (AO.row 247 3) (by rw [hsu]))) sbW)⟩
                   exact hds)
                | (have h4 : c = 6 := ari
                   subst h4;have:=xU hcur;rw[this,<-hf];exact⟨rfl,alW,S.w0.heap.size,S.w0.heap.size,Nat.le_refl _,XD (by rw[List.all_append,nv bls];rfl)⟩)
            |some m=>
              have hso:(p.2.1.find? (λx=>x.client==c)).isSome=true:=by rw[hfi];rfl
              have hmo:bU p.2.1 c=m:=by unfold bU;rw[hfi];rfl
              rw[hfi]at hsu;simp only[Option.toList_some]at hsu;repeat'((first|refine awz ?_|refine Xz ari ari ?_|refine Yo (id:=24) (N:=s.length+p.1) (s:=p.2.1) rfl rfl rfl rfl (oL aa aa) ?_|refine bc au ?_|refine tB ?_ ?_|intro h)<;>conv=>whnf)
              all_goals first
                | (refine aT.mk ⟨c + 1, ⟨ari, ari⟩, ari, ?_, Xu rfl (Xu (congrArg some (congrArg (AO.row 247 3) (by rw [hsu, hmo, List.map_append]; rfl))) sbW)⟩
                   exact hds)
                | (have h4 : c = 6 := ari
                   subst h4;have:=xU hcur;rw[this,<-hf];exact⟨rfl,alW,S.w0.heap.size,S.w0.heap.size,Nat.le_refl _,XD (by rw[List.all_append,nv bls];rfl)⟩)
def qJ:List (List Nat):=cz [0,0,0,0,0,5,101724289,0x7185103081187,0x81c61440c2048]
theorem d6.perm{lo hi:Nat}{cs ds:List AD}(h:d6 lo hi cs ds)(L:List Nat)(hn:L.Nodup)(hb:∀i∈L,i<cs.length):d6 lo hi (L.map λi=>cs.getD i (dI 0)) (L.map λi=>ds.getD i (dI 0)):=by
  refine h.sel (λi=>L.getD i 0) ah (λi hi=>?_) λi j hi hj e=>?_
  · have hi':i<L.length:=by simpa using hi
    have hc:=hb _ (List.getElem_mem hi');have hd:L[i]<ds.length:=by rw[<-h.1];exact hc
    simp[List.getD_eq_getElem?_getD,hi',hc,hd]
  · have hi':i<L.length:=by simpa using hi
    have hj':j<L.length:=by simpa using hj
    have e:L[i]=L[j]:=by simpa[List.getD_eq_getElem?_getD,hi',hj']using e
    have hp:=List.pairwise_iff_getElem.1 hn;rcases Nat.lt_trichotomy i j with g|g|g
    · exact absurd e (hp i j hi' hj' g)
    · exact g
    · exact absurd e.symm (hp j i hj' hi' g)
theorem EG(t:DTwo)(ht:ee t=false):dZ av 272 [.agg t.ds] [.agg PF.ds,.agg g9.ds,.agg (⟨0,0,[]⟩:DBook).ds,.one (dB false)]:=by
  have ko:=nL t;rw[ht]at ko;refine bP aM func272 rfl call272 ntmps272 (aaX results272) rfl λS=>?_;conv=>whnf
  repeat'(first|refine awz ?_|(refine cP (ko) ?_;conv=>whnf)|fail)
  all_goals exact⟨.inl rfl,.inl rfl,.inl rfl,.inl rfl,.inl rfl,.inl rfl,_,_,Nat.le_refl _,XD (hi:=0) rfl⟩
def NW(o:Option DLogNode):List AP1:=[.agg (o.getD TZ).ds,.one (dB o.isSome)]
theorem z8(n:DLogNode)(hr:dZ av 272 [.agg n.two.ds] [.agg PF.ds,.agg g9.ds,.agg (⟨0,0,[]⟩:DBook).ds,.one (dB false)]):dZ av 185 [.agg n.ds] (NW none):=by
  unfold NW;refine bP aM func185 rfl call185 ntmps185 (aaX results185) rfl λS=>?_;conv=>whnf
  repeat'(first|refine awz ?_|(refine XM hr rfl rfl λR lo hi a1 a2 F=>?_;conv=>whnf)|fail)
  all_goals exact⟨.inl rfl,.inl rfl,.inl rfl,.inl rfl,.inl rfl,.inl rfl,.inl rfl,.inl rfl,.inl rfl,_,_,Nat.le_refl _,XD (hi:=0) rfl⟩
theorem HS(n:DLogNode):dZ av 185 [.agg n.ds] (NW (dr n)):=by
  cases hk:ee n.two with
  |false=>
    have e:dr n=none:=by simp[dr,hk]
    rw[e];exact z8 n (EG n.two hk)
  |true=>
    have hr:=EF n.two hk;unfold T9 at hr;cases eh:iU n.two with
    |none=>
      rw[eh]at hr;have e:dr n=none:=by simp[dr,hk,eh]
      rw[e];exact z8 n hr
    |some h=>
      rw[eh]at hr;simp only at hr;have ho:=p9 eh;have g:=kK (t:=n.two) ho;have hf:=dy ho;have e:dr n=some ⟨m7 h (eC n.two h).1,h,g9,false,(eC n.two h).1,(eC n.two h).2,bp (eC n.two h).1,[]⟩:=by simp[dr,hk,eh]
      rw[e];generalize eC n.two h=p at g hr;obtain⟨b,s⟩:=p;simp only at g hr;have hb:=du g.ok;have so:=HV h.seen b.entries s hf.2.2.2.2.1 aa g.fold;have lo:=lW b g.ok;generalize m7 h b=tt at hr;unfold NW;refine bP aM func185 rfl call185 ntmps185 (aaX results185) rfl λS=>?_;conv=>whnf
      repeat'((first|refine awz ?_|refine XM hr rfl rfl λR l1 h1 a1 a2 F=>?_|(refine Ye [.one (.d (.sl (h.seen.map DMark.ds))),.one (.d (.sl (b.entries.map DEntry.ds)))] ⟨AsV.d (F.at (i:=7) rfl rfl),AsV.d (F.at (i:=10) rfl rfl),trivial⟩ ?_;refine XM so rfl rfl λR2 l2 h2 a3 a4 F2=>?_)|fail)<;>conv=>whnf)
      (refine XF aM 5 (tkc [0,1,2,3,4] (onc [5,6,7] (.take 8 .done))) [(4,9980),(5,9981),(6,9982)] qJ ac ac ac ac (λRz=>?_);(conv=>whnf);intro bp0 up0;(conv=>whnf);intro bp1 up1;(conv=>whnf);intro bp2 up2;(conv=>whnf))
      repeat'(first|refine awz ?_|((refine Ye [.agg (b.ds.map .d)] ⟨(F.part 8 3).asV,trivial⟩ ?_;refine Xt lo rfl ?_)<;>conv=>whnf)|fail)
      all_goals
        have G:=((F.part 0 11).app (L:=l1) (H:=h2) (F2.part 0 1) (.inl a3) ⟨Nat.le_refl _,aa⟩ ⟨aa,Nat.le_refl _⟩).app (L:=l1) (H:=h2) (Yk (lo:=h2) (hi:=h2) (ds:=[dI 0,dI 0,dI 0,dB false,dI (bp b),dB true]) rfl) (.inl (Nat.le_refl _)) ⟨Nat.le_refl _,aa⟩ ⟨Nat.le_refl _,Nat.le_refl _⟩;exact⟨.inl rfl,.inl rfl,l1,h2,a1,(G.perm [0,1,2,3,4,5,6,7,12,13,14,15,8,9,10,11,16,17] ae (λi hi=>show i<18 by revert i;decide)).fam⟩
theorem ZK{E:bz}{S:bR}{f:FuncId}{args:List AV}{tm tm':List AV}{ob ob':List (Nat×AO)}{K:AV->ASt->Prop}(h0:EC tm tm')(ho:aI ob ob')(h:aG E S f args ⟨tm',ob'⟩ K):aG E S f args ⟨tm,ob⟩ K:=
  ⟨h.enter,λZ ρ a w us hs hl hr=>h.run Z ρ a w us (hs.sub (pC h0) ho) hl hr⟩
def RO(c:Nat->AD):List AC:=[.d (c 0),.d (c 1),.d (c 2),.d (c 3),.d (c 4),.d (c 5),.d (c 6),.d (c 7),.d (c 8),.d (c 9),.d (c 10),.d (c 11),.d (c 12),.d (c 13),.d (c 14),.d (c 15),.d (c 16),.d (c 17),.d (c 18),.d (c 19),.d (c 20),.d (c 21),.d (c 22),.d (c 23),.d (c 24),.d (c 25),.d (c 26),.d (c 27),.d (c 28),.d (c 29),.d (c 30),.d (c 31),.d (c 32),.d (c 33),.d (c 34),.d (c 35),.d (c 36),.d (c 37),.d (c 38),.d (c 39),.d (c 40),.d (c 41),.d (c 42),.d (c 43),.d (c 44),.d (c 45),.d (c 46),.d (c 47),.d (c 48),.d (c 49),.d (c 50),.d (c 51),.d (c 52),.d (c 53),.d (c 54),.d (c 55),.d (c 56),.d (c 57),.d (c 58),.d (c 59),.d (c 60),.d (c 61),.d (c 62),.d (c 63),.d (c 64),.d (c 65),.d (c 66),.d (c 67),.d (c 68),.d (c 69),.d (c 70),.d (c 71),.own 900]
def wAD(c:Nat->AD):List AD:=[c 0,c 1,c 2,c 3,c 4,c 5,c 6,c 7,c 8,c 9,c 10,c 11,c 12,c 13,c 14,c 15,c 16,c 17,c 18,c 19,c 20,c 21,c 22,c 23,c 24,c 25,c 26,c 27,c 28,c 29,c 30,c 31,c 32,c 33,c 34,c 35,c 36,c 37,c 38,c 39,c 40,c 41,c 42,c 43,c 44,c 45,c 46,c 47,c 48,c 49,c 50,c 51,c 52,c 53,c 54,c 55,c 56,c 57,c 58,c 59,c 60,c 61,c 62,c 63,c 64,c 65,c 66,c 67,c 68,c 69,c 70,c 71]
def Ex(y:DWorld):List AD:=y.ds.take 72
theorem LA(h6:y.up.length=6)(hk:k<6):(y.up.map eB)[k]? =some (eB (ju y k)):=by
  rw[List.getElem?_map,List.getElem?_eq_getElem aa,ju,List.getD_eq_getElem?_getD,List.getElem?_eq_getElem aa];rfl
theorem Uc(h6:y.up.length=6)(hk:k<6)(h:ju y k=false):(y.up.map eB).set k [dB false]=y.up.map eB:=by
  have:=LA h6 hk;rw[h]at this;refine List.ext_getElem? λi=>?_;rw[List.getElem?_set];split
  · rename_i e;subst e;rw[if_pos al,this]
  · rfl
theorem N7(R:Nat->(Nat->Prop)->World->Value->Prop):∀(l:List Bool) (k:Nat),dU R k (l.map eB)=l.map eB
  |[],_=>rfl
  |b::r,k=>by
    have:=N7 R r (k+1);show cW R k (eB b)::dU R (k+(eB b).length) (r.map eB)=eB b::r.map eB;rw[show(eB b).length=1 from rfl,this];rfl
theorem up6(hw:hE y=true):y.up.length=6:=by
  rw[jy]at hw;simp only[Bool.and_eq_true,decide_eq_true_eq]at hw;exact hw.1.1.1.1.1.2
theorem JY(x:DWorld)(hs:XO 1048576 x):cg av 28 [.agg x.ds,.one (.pv (.func (.func 29) #[] #[]))] (.agg (ik x).ds):=by
  cases hw:hE x with
  |false=>
    have hn:(!hE x)=true:=by rw[hw];rfl
    have e:ik x=oB:=by simp[ik,hw]
    rw[e];refine cZ aM func28 rfl call28 ntmps28 (aaX results28) λS=>?_;conv=>whnf
    repeat'(first|refine awz ?_|(refine cP (xf x hs) ?_;conv=>whnf)|fail)
    exact⟨S.w0.heap.size,S.w0.heap.size,_,⟨Nat.le_refl _,trivial,trivial⟩,XD PJ,rfl⟩
  |true=>
    have wo:=xf x hs;rw[hw]at wo;have e:ik x=bX x 4:=by simp[ik,hw]
    have h6:=up6 hw;have hue:x.up.map eB≠ []:=by intro h;rw[List.map_eq_nil_iff]at h;rw[h]at h6;cases h6
    rw[e];refine lO aM func28 rfl call28 ntmps28 (aaX results28) λS=>?_;conv=>whnf
    repeat'(first|refine awz ?_|(refine cP (wo) ?_;conv=>whnf)|fail)
    refine Y1 900 1 (x.ds.take 72) [] (x.up.map eB) (HZ x hs) rfl rfl ae hue alW λR lo hi te m1 m2 F=>?_;conv=>whnf
    skip
    obtain⟨c0,hc0⟩:∃c:Nat->AD,c=λi=>(cW R 0 (x.ds.take 72)).getD i (dI 0):=⟨_,rfl⟩;have F0:d6 lo hi (wAD c0) (Ex x):=by
      subst hc0;exact F.part 0 72
    refine Ye [.agg (RO c0)] ⟨by subst hc0;exact λ_ _ _ _ h=>h,trivial⟩ ?_;refine ZK (tm':=[.one .dead,.one .dead,.one .dead,.one .dead,.one (.ref 4 0 0 0),.one .dead,.one .dead,.one .dead,.one .dead,.one .dead,.one .dead,.one .dead,.one .dead]) (ob':=[(9997,cS S.w0.heap.size hi),(4,.cells 105 (oB.ds.map λd=>match d with| .pv v=> .d (.pv v)|_=> .nil)),(900,.row te 1 (x.up.map eB))]) (by exact whd) (Xu rfl (Xu rfl (Xu (congrArg some (congrArg (AO.row te 1) (N7 R x.up 72))) Xv))) ?_;clear F hc0;(refine Yi aM 970 func29 rfl call29 ntmps29 (aaX results29) rfl λus970=>?_;conv=>whnf)
    repeat'(first|refine awz ?_|fail)
    refine XA (λg:Nat×Nat×Nat×Nat×(Nat->AD)=>(g.1<=4/\S.w0.heap.size<=g.2.2.1/\g.2.2.1<=g.2.2.2.1/\g.2.2.2.1<=g.2.1)/\d6 g.2.2.1 g.2.2.2.1 (wAD g.2.2.2.2) (Ex (bX x g.1))) (0::[3,4,5,6,7,8,9,10,11,12,13,14,15]) (λg=>[(3,vI .i64 (g.1:Int))]) (λg=>[(9997,cS S.w0.heap.size g.2.1),(970,.frame [.one .dead,.one .dead,.one .dead,.one .dead,.one (.ref 4 0 0 0),.one .dead,.one .dead,.one .dead,.one .dead,.one .dead,.one .dead,.one .dead,.one .dead] us970),(4,.cells 105 (oB.ds.map λd=>match d with| .pv v=> .d (.pv v)|_=> .nil)),(1,.cells 105 (RO g.2.2.2.2)),(2,.cells 105 (oB.ds.map λd=>match d with| .pv v=> .d (.pv v)|_=> .nil)),(900,.row te 1 ((bX x g.1).up.map eB))]) (λg=>4-g.1) (0,hi,lo,hi,c0) ⟨⟨by simp only;omega,m1,m2,Nat.le_refl _⟩,F0⟩ ?_ sbW (λg hg=>?_)<;>(conv=>whnf)
    · exact whd
    · clear F0;obtain⟨k,m,lo,hi,c⟩:=g;obtain⟨⟨hk,g1,g2,g3⟩,F⟩:=hg;simp only at hk g1 g2 g3 F;have hyw:=zt hw k hk;have h6:=up6 hyw;by_cases hlt:k<4
      · have hc:decide ((k:Int)<=3)=true:=by simp only[decide_eq_true_eq];omega
        have gu:=LA h6 (show k<6 by omega);have hsucc:bX x (k+1)=(cQ (bX x k) k).getD (bX x k):=rfl;generalize bX x k=y at F hyw h6 gu hsucc;cases hu:ju y k with
        |true=>
          rw[hu]at gu;have hy:bX x (k+1)=y:=by rw[hsucc];simp[cQ,hu]
          repeat'((first|refine awz ?_|refine Xw k _ rfl gu ?_|refine Xz aa aa ?_|fail)<;>conv=>whnf)
          refine aT.mk ⟨(k+1,m,lo,hi,c),⟨⟨hlt,g1,g2,g3⟩,by show d6 lo hi (wAD c) (Ex (bX x (k+1)));rw[hy];exact F⟩,by simp only;omega,?_,Xu rfl (Xu rfl (Xu rfl (Xu rfl (Xu rfl (Xu (by simp only;rw[hy];rfl) Xv)))))⟩;exact hds
        |false=>
          have guf:=gu;rw[hu]at gu;have husame:=Uc h6 (show k<6 by omega) hu;have hk4:k=0\/k=1\/k=2\/k=3:=aa;rcases hk4 with rfl|rfl|rfl|rfl
          · have rl:=HS y.log;cases er:dr y.log with
            |none=>
              rw[er]at rl;have rl:dZ av 185 [.agg y.log.ds] [.agg TZ.ds,.one (dB false)]:=rl;have hy:bX x (0+1)=y:=by rw[hsucc];simp[cQ,hu,er]
              repeat'((first|refine awz ?_|refine Xw 0 _ rfl gu ?_|refine Yi aM 971 func93 rfl call93 ntmps93 (aaX results93) rfl λus971=>?_|(refine Ye [.agg (y.log.ds.map .d)] ⟨(F.part 0 19).asV,trivial⟩ ?_;refine XM rl rfl rfl λR2 lo2 hi2 n1 n2 F2=>?_)|refine Xz aa aa ?_|fail)<;>conv=>whnf)
              have n1:m<=lo2:=n1;refine aT.mk ⟨(0+1,hi2,lo,hi,c),⟨⟨hlt,g1,g2,by simp only;omega⟩,by show d6 lo hi (wAD c) (Ex (bX x (0+1)));rw[hy];exact F⟩,by simp only;omega,?_,Xu rfl (Xu rfl (Xu rfl (Xu rfl (Xu rfl (Xu (by show _=some (AO.row te 1 ((bX x (0+1)).up.map eB));rw[hy];exact congrArg some (congrArg (AO.row te 1) husame)) Xv)))))⟩;exact hds
            |some z=>
              rw[er]at rl;have rl:dZ av 185 [.agg y.log.ds] [.agg z.ds,.one (dB true)]:=rl;have hy:bX x (0+1)={y with log:=z,up:=y.up.set 0 true}:=by rw[hsucc];simp[cQ,hu,er]
              have hset:(y.up.map eB).set 0 [dB true]=(y.up.set 0 true).map eB:=by rw[List.map_set]
              repeat'((first|refine awz ?_|refine Xw 0 _ rfl gu ?_|refine Yi aM 971 func93 rfl call93 ntmps93 (aaX results93) rfl λus971=>?_|(refine Ye [.agg (y.log.ds.map .d)] ⟨(F.part 0 19).asV,trivial⟩ ?_;refine XM rl rfl rfl λR2 lo2 hi2 n1 n2 F2=>?_)|refine Xz aa aa ?_|fail)<;>conv=>whnf)
              have n1:m<=lo2:=n1;have FN:d6 lo hi2 (wAD (λi=>if i<19 then(cW R2 0 z.ds).getD i (dI 0)else c i)) (Ex {y with log:=z,up:=y.up.set 0 true}):=(F2.part 0 19).app (L:=lo) (H:=hi2) (F.part 19 53) (.inr aa) ⟨aa,Nat.le_refl _⟩ ⟨Nat.le_refl _,aa⟩;refine aT.mk ⟨(0+1,hi2,lo,hi2,λi=>if i<19 then(cW R2 0 z.ds).getD i (dI 0)else c i),⟨⟨hlt,g1,by simp only;omega,Nat.le_refl _⟩,by show d6 lo hi2 _ (Ex (bX x (0+1)));rw[hy];exact FN⟩,by simp only;omega,?_,Xu rfl (Xu rfl (Xu rfl (Xu rfl (Xu rfl (Xu (by show _=some (AO.row te 1 ((bX x (0+1)).up.map eB));rw[hy];exact congrArg some (congrArg (AO.row te 1) hset)) Xv)))))⟩;exact hds
          · have rl:=C1 y.store;cases er:cV y.store with
            |none=>
              rw[er]at rl;have rl:dZ av 186 [.agg y.store.ds] [.agg M8.ds,.one (dB false)]:=rl;have hy:bX x (1+1)=y:=by rw[hsucc];simp[cQ,hu,er]
              repeat'((first|refine awz ?_|refine Xw 1 _ rfl gu ?_|refine Yi aM 971 func93 rfl call93 ntmps93 (aaX results93) rfl λus971=>?_|(refine Ye [.agg (y.store.ds.map .d)] ⟨(F.part 19 12).asV,trivial⟩ ?_;refine XM rl rfl rfl λR2 lo2 hi2 n1 n2 F2=>?_)|refine Xz aa aa ?_|fail)<;>conv=>whnf)
              have n1:m<=lo2:=n1;refine aT.mk ⟨(1+1,hi2,lo,hi,c),⟨⟨hlt,g1,g2,by simp only;omega⟩,by show d6 lo hi (wAD c) (Ex (bX x (1+1)));rw[hy];exact F⟩,by simp only;omega,?_,Xu rfl (Xu rfl (Xu rfl (Xu rfl (Xu rfl (Xu (by show _=some (AO.row te 1 ((bX x (1+1)).up.map eB));rw[hy];exact congrArg some (congrArg (AO.row te 1) husame)) Xv)))))⟩;exact hds
            |some z=>
              rw[er]at rl;have rl:dZ av 186 [.agg y.store.ds] [.agg z.ds,.one (dB true)]:=rl;have hy:bX x (1+1)={y with store:=z,up:=y.up.set 1 true}:=by rw[hsucc];simp[cQ,hu,er]
              have hset:(y.up.map eB).set 1 [dB true]=(y.up.set 1 true).map eB:=by rw[List.map_set]
              repeat'((first|refine awz ?_|refine Xw 1 _ rfl gu ?_|refine Yi aM 971 func93 rfl call93 ntmps93 (aaX results93) rfl λus971=>?_|(refine Ye [.agg (y.store.ds.map .d)] ⟨(F.part 19 12).asV,trivial⟩ ?_;refine XM rl rfl rfl λR2 lo2 hi2 n1 n2 F2=>?_)|refine Xz aa aa ?_|fail)<;>conv=>whnf)
              have n1:m<=lo2:=n1;have FN:d6 lo hi2 (wAD (λi=>if 19<=i/\i<31 then(cW R2 0 z.ds).getD (i-19) (dI 0)else c i)) (Ex {y with store:=z,up:=y.up.set 1 true}):=((F2.part 0 12).app (L:=lo) (H:=hi2) F (.inr aa) ⟨aa,Nat.le_refl _⟩ ⟨Nat.le_refl _,aa⟩).perm [12,13,14,15,16,17,18,19,20,21,22,23,24,25,26,27,28,29,30,0,1,2,3,4,5,6,7,8,9,10,11,43,44,45,46,47,48,49,50,51,52,53,54,55,56,57,58,59,60,61,62,63,64,65,66,67,68,69,70,71,72,73,74,75,76,77,78,79,80,81,82,83] ae (λi hi=>show i<84 by revert i;decide);refine aT.mk ⟨(1+1,hi2,lo,hi2,λi=>if 19<=i/\i<31 then(cW R2 0 z.ds).getD (i-19) (dI 0)else c i),⟨⟨hlt,g1,by simp only;omega,Nat.le_refl _⟩,by show d6 lo hi2 _ (Ex (bX x (1+1)));rw[hy];exact FN⟩,by simp only;omega,?_,Xu rfl (Xu rfl (Xu rfl (Xu rfl (Xu rfl (Xu (by show _=some (AO.row te 1 ((bX x (1+1)).up.map eB));rw[hy];exact congrArg some (congrArg (AO.row te 1) hset)) Xv)))))⟩;exact hds
          · have hy:bX x (2+1)={y with up:=y.up.set 2 true}:=by rw[hsucc];simp[cQ,hu]
            have hset:(y.up.map eB).set 2 [dB true]=(y.up.set 2 true).map eB:=by rw[List.map_set]
            repeat'((first|refine awz ?_|refine Xw 2 _ rfl gu ?_|refine Yi aM 971 func93 rfl call93 ntmps93 (aaX results93) rfl λus971=>?_|refine Xz aa aa ?_|fail)<;>conv=>whnf)
            refine aT.mk ⟨(2+1,m,lo,hi,c),⟨⟨hlt,g1,g2,g3⟩,by show d6 lo hi (wAD c) (Ex (bX x (2+1)));rw[hy];exact F⟩,by simp only;omega,?_,Xu rfl (Xu rfl (Xu rfl (Xu rfl (Xu rfl (Xu (by show _=some (AO.row te 1 ((bX x (2+1)).up.map eB));rw[hy];exact congrArg some (congrArg (AO.row te 1) hset)) Xv)))))⟩;exact hds
          · have hy:bX x (3+1)={y with up:=y.up.set 3 true}:=by rw[hsucc];simp[cQ,hu]
            have hset:(y.up.map eB).set 3 [dB true]=(y.up.set 3 true).map eB:=by rw[List.map_set]
            repeat'((first|refine awz ?_|refine Xw 3 _ rfl gu ?_|refine Yi aM 971 func93 rfl call93 ntmps93 (aaX results93) rfl λus971=>?_|refine Xz aa aa ?_|fail)<;>conv=>whnf)
            refine aT.mk ⟨(3+1,m,lo,hi,c),⟨⟨hlt,g1,g2,g3⟩,by show d6 lo hi (wAD c) (Ex (bX x (3+1)));rw[hy];exact F⟩,by simp only;omega,?_,Xu rfl (Xu rfl (Xu rfl (Xu rfl (Xu rfl (Xu (by show _=some (AO.row te 1 ((bX x (3+1)).up.map eB));rw[hy];exact congrArg some (congrArg (AO.row te 1) hset)) Xv)))))⟩;exact hds
      · have e4:k=4:=aa;subst e4;repeat'(first|refine awz ?_|fail)
        have FF:=F.app (L:=lo) (H:=hi) (Yk (lo:=hi) (hi:=hi) (ds:=((bX x 4).up.map eB).flatten++[]) (by rw[List.append_nil];exact nv bls)) (.inl (Nat.le_refl _)) ⟨Nat.le_refl _,g2⟩ ⟨Nat.le_refl _,Nat.le_refl _⟩;exact⟨alW,lo,hi,g1,FF.fam⟩
theorem z7(x:DWorld)(hs:XO 1048576 x):cg av 7 [.agg x.ds] (.agg (ik x).ds):=by
  refine cZ aM func7 rfl call7 ntmps7 (aaX results7) λS=>?_;conv=>whnf
  repeat'(first|refine awz ?_|fail)
  refine XC (JY x hs) rfl rfl λR l1 e1 a1 b1 F1=>?_;conv=>whnf
  repeat'(first|refine awz ?_|fail)
  exact⟨l1,e1,(ik x).ds,⟨a1,trivial,trivial⟩,F1,rfl⟩
end
def kO:List (List Nat):=cz [0,0,66,12417,0,0,326,29061,17663105454471]
def bE:List (List Nat):=eK 8 [6486,6482,6484,6493,566,242,404,1133]
def bK:List (List Nat):=cz [0,0,66,12417,0,0,326,29061,17663105454471,0x91c61480c2044]
theorem neI(x:Int):(x !=x)=false:=by simp
theorem neB(x:Bool):(!(x==x))=false:=by simp
theorem oc(l:(List Int))(hs:l.length<=1048576):aL av 35 [.one (.sl (l.map eI)),.one (.sl (l.map eI))] (rB true):=by
 have hl:l.length<=1048576:=hs;refine pO func35 call35 ntmps35 results35 λS=>?_;conv=>whnf
 have h0:(((l.map eI).length:Int) !=((l.map eI).length:Int))=false:=neI _;repeat'(first|refine awz ?_|fail)
 refine XA (λk:Nat=>k<=l.length) (4::5::rg 11 15) (λk=>[(5,vI .i64 (k:Int))]) (λk=>[]) (λk=>l.length-k) 0 aa ?_ Xv (λk hR=>?_)<;>(conv=>whnf)
 ·exact whd
 ·repeat'(first|refine awz ?_|exact rr|refine tB ?_ ?_|(intro h;conv=>whnf))
  ·have hlt:k<l.length:=ari;have hne:(l[k] !=l[k])=false:=neI _;(refine XB aM 6 8 kO bE ac ac ac rfl ?_;conv=>whnf)
   repeat'((first|refine awz ?_|refine XK hlt ?_|refine Xz ari ari ?_|fail)<;>conv=>whnf)
   refine aT.mk ⟨k+1,hlt,aa,?_,Xv⟩;exact hds
theorem Jr(l:(List (List Int)))(hs:l.length<=1048576/\∀y∈l,y.length<=1048576):aL av 190 [.one (.sl (l.map bD)),.one (.sl (l.map bD))] (rB true):=by
 have hl:l.length<=1048576:=hs.1;refine pO func190 call190 ntmps190 results190 λS=>?_;conv=>whnf
 have h0:(((l.map bD).length:Int) !=((l.map bD).length:Int))=false:=neI _;repeat'(first|refine awz ?_|fail)
 refine XA (λk:Nat=>k<=l.length) (4::5::rg 11 16) (λk=>[(5,vI .i64 (k:Int))]) (λk=>[]) (λk=>l.length-k) 0 aa ?_ Xv (λk hR=>?_)<;>(conv=>whnf)
 ·exact whd
 ·repeat'(first|refine awz ?_|exact rr|refine tB ?_ ?_|(intro h;conv=>whnf))
  ·have hlt:k<l.length:=ari;(refine XB aM 6 8 bK bE ac ac ac rfl ?_;conv=>whnf)
   repeat'((first|refine awz ?_|refine XK hlt ?_|refine cP (oc _ (hs.2 _ (List.getElem_mem hlt))) ?_|refine Xz ari ari ?_|fail)<;>conv=>whnf)
   refine aT.mk ⟨k+1,hlt,aa,?_,Xv⟩;exact hds
theorem FS(x:DWrite)(hs:X0 1048576 x):aL av 279 [.agg x.ds,.agg x.ds] (rB true):=by
 refine pO func279 call279 ntmps279 results279 λS=>?_;conv=>whnf
 have h1:=neI x.at_;repeat'(first|refine awz ?_|(refine Xt (oc x.row hs) rfl ?_;conv=>whnf)|exact rr|fail)
theorem Mk(l:(List DWrite))(hs:l.length<=1048576/\∀y∈l,X0 1048576 y):aL av 191 [.one (.sl (l.map DWrite.ds)),.one (.sl (l.map DWrite.ds))] (rB true):=by
 have hl:l.length<=1048576:=hs.1;refine pO func191 call191 ntmps191 results191 λS=>?_;conv=>whnf
 have h0:(((l.map DWrite.ds).length:Int) !=((l.map DWrite.ds).length:Int))=false:=neI _;repeat'(first|refine awz ?_|fail)
 refine XA (λk:Nat=>k<=l.length) (4::5::rg 11 16) (λk=>[(5,vI .i64 (k:Int))]) (λk=>[]) (λk=>l.length-k) 0 aa ?_ Xv (λk hR=>?_)<;>(conv=>whnf)
 ·exact whd
 ·repeat'(first|refine awz ?_|exact rr|refine tB ?_ ?_|(intro h;conv=>whnf))
  ·have hlt:k<l.length:=ari;(refine XB aM 6 8 bK bE ac ac ac rfl ?_;conv=>whnf)
   repeat'((first|refine awz ?_|refine XK hlt ?_|refine cP (FS _ (hs.2 _ (List.getElem_mem hlt))) ?_|refine Xz ari ari ?_|fail)<;>conv=>whnf)
   refine aT.mk ⟨k+1,hlt,aa,?_,Xv⟩;exact hds
theorem CH(x:DDisk)(hs:XV 1048576 x):aL av 99 [.agg x.ds,.agg x.ds] (rB true):=by
 refine pO func99 call99 ntmps99 results99 λS=>?_;conv=>whnf
 repeat'((first|refine awz ?_|refine Xt (Jr x.kept ⟨hs.1,hs.2.1⟩) rfl ?_|refine Xt (Mk x.wait ⟨hs.2.2.1,hs.2.2.2⟩) rfl ?_|exact rr|fail)<;>conv=>whnf)
theorem Sa(x:DTwo)(hs:X8 1048576 x):aL av 94 [.agg x.ds,.agg x.ds] (rB true):=by
 refine pO func94 call94 ntmps94 results94 λS=>?_;conv=>whnf
 repeat'((first|refine awz ?_|refine Xt (CH x.a hs.1) rfl ?_|refine Xt (CH x.b hs.2) rfl ?_|exact rr|fail)<;>conv=>whnf)
theorem Ju(x:DMark):aL av 188 [.agg x.ds,.agg x.ds] (rB true):=by
 refine pO func188 call188 ntmps188 results188 λS=>?_;conv=>whnf
 have h1:=neI x.client;have h2:=neI x.seq;have h3:=neI x.index;repeat'(first|refine awz ?_|exact rr|fail)
theorem FQ(l:(List DMark))(hs:l.length<=1048576):aL av 97 [.one (.sl (l.map DMark.ds)),.one (.sl (l.map DMark.ds))] (rB true):=by
 have hl:l.length<=1048576:=hs;refine pO func97 call97 ntmps97 results97 λS=>?_;conv=>whnf
 have h0:(((l.map DMark.ds).length:Int) !=((l.map DMark.ds).length:Int))=false:=neI _;repeat'(first|refine awz ?_|fail)
 refine XA (λk:Nat=>k<=l.length) (4::5::rg 11 16) (λk=>[(5,vI .i64 (k:Int))]) (λk=>[]) (λk=>l.length-k) 0 aa ?_ Xv (λk hR=>?_)<;>(conv=>whnf)
 ·exact whd
 ·repeat'(first|refine awz ?_|exact rr|refine tB ?_ ?_|(intro h;conv=>whnf))
  ·have hlt:k<l.length:=ari;(refine XB aM 6 8 bK bE ac ac ac rfl ?_;conv=>whnf)
   repeat'((first|refine awz ?_|refine XK hlt ?_|refine cP (Ju _) ?_|refine Xz ari ari ?_|fail)<;>conv=>whnf)
   refine aT.mk ⟨k+1,hlt,aa,?_,Xv⟩;exact hds
theorem Jq(x:DHead)(hs:XW 1048576 x):aL av 95 [.agg x.ds,.agg x.ds] (rB true):=by
 refine pO func95 call95 ntmps95 results95 λS=>?_;conv=>whnf
 have h1:=neI x.num;have h2:=neI x.base;have h3:=neI x.time;repeat'(first|refine awz ?_|(refine Xt (FQ x.seen hs) rfl ?_;conv=>whnf)|exact rr|fail)
theorem Mj(x:DOp):aL av 102 [.agg x.ds,.agg x.ds] (rB true):=by
 refine pO func102 call102 ntmps102 results102 λS=>?_;conv=>whnf
 have h1:=neI x.kind;have h2:=neI x.a;have h3:=neI x.b;have h4:=neI x.c;have h5:=neI x.d;repeat'(first|refine awz ?_|exact rr|fail)
theorem FP(x:DEntry):aL av 278 [.agg x.ds,.agg x.ds] (rB true):=by
 refine pO func278 call278 ntmps278 results278 λS=>?_;conv=>whnf
 have h1:=neI x.index;have h2:=neI x.time;have h3:=neI x.client;have h4:=neI x.seq;repeat'(first|refine awz ?_|(refine Xt (Mj x.op) rfl ?_;conv=>whnf)|exact rr|fail)
theorem Mi(l:(List DEntry))(hs:l.length<=1048576):aL av 187 [.one (.sl (l.map DEntry.ds)),.one (.sl (l.map DEntry.ds))] (rB true):=by
 have hl:l.length<=1048576:=hs;refine pO func187 call187 ntmps187 results187 λS=>?_;conv=>whnf
 have h0:(((l.map DEntry.ds).length:Int) !=((l.map DEntry.ds).length:Int))=false:=neI _;repeat'(first|refine awz ?_|fail)
 refine XA (λk:Nat=>k<=l.length) (4::5::rg 11 16) (λk=>[(5,vI .i64 (k:Int))]) (λk=>[]) (λk=>l.length-k) 0 aa ?_ Xv (λk hR=>?_)<;>(conv=>whnf)
 ·exact whd
 ·repeat'(first|refine awz ?_|exact rr|refine tB ?_ ?_|(intro h;conv=>whnf))
  ·have hlt:k<l.length:=ari;(refine XB aM 6 8 bK bE ac ac ac rfl ?_;conv=>whnf)
   repeat'((first|refine awz ?_|refine XK hlt ?_|refine cP (FP _) ?_|refine Xz ari ari ?_|fail)<;>conv=>whnf)
   refine aT.mk ⟨k+1,hlt,aa,?_,Xv⟩;exact hds
theorem Ql(x:DBook)(hs:X5 1048576 x):aL av 96 [.agg x.ds,.agg x.ds] (rB true):=by
 refine pO func96 call96 ntmps96 results96 λS=>?_;conv=>whnf
 have h1:=neI x.base;have h2:=neI x.time;repeat'(first|refine awz ?_|(refine Xt (Mi x.entries hs) rfl ?_;conv=>whnf)|exact rr|fail)
theorem Nw(x:DAck):aL av 189 [.agg x.ds,.agg x.ds] (rB true):=by
 refine pO func189 call189 ntmps189 results189 λS=>?_;conv=>whnf
 have h1:=neI x.client;have h2:=neI x.seq;have h3:=neI x.index;have h4:=neI x.last;repeat'(first|refine awz ?_|exact rr|fail)
theorem Qk(l:(List DAck))(hs:l.length<=1048576):aL av 98 [.one (.sl (l.map DAck.ds)),.one (.sl (l.map DAck.ds))] (rB true):=by
 have hl:l.length<=1048576:=hs;refine pO func98 call98 ntmps98 results98 λS=>?_;conv=>whnf
 have h0:(((l.map DAck.ds).length:Int) !=((l.map DAck.ds).length:Int))=false:=neI _;repeat'(first|refine awz ?_|fail)
 refine XA (λk:Nat=>k<=l.length) (4::5::rg 11 16) (λk=>[(5,vI .i64 (k:Int))]) (λk=>[]) (λk=>l.length-k) 0 aa ?_ Xv (λk hR=>?_)<;>(conv=>whnf)
 ·exact whd
 ·repeat'(first|refine awz ?_|exact rr|refine tB ?_ ?_|(intro h;conv=>whnf))
  ·have hlt:k<l.length:=ari;(refine XB aM 6 8 bK bE ac ac ac rfl ?_;conv=>whnf)
   repeat'((first|refine awz ?_|refine XK hlt ?_|refine cP (Nw _) ?_|refine Xz ari ari ?_|fail)<;>conv=>whnf)
   refine aT.mk ⟨k+1,hlt,aa,?_,Xv⟩;exact hds
theorem Jt(x:DLogNode)(hs:XT 1048576 x):aL av 30 [.agg x.ds,.agg x.ds] (rB true):=by
 refine pO func30 call30 ntmps30 results30 λS=>?_;conv=>whnf
 have h4:(!(x.more==x.more))=false:=neB _;have h7:=neI x.durable;repeat'((first|refine awz ?_|refine Xt (Sa x.two hs.1) rfl ?_|refine Xt (Jq x.head hs.2.1) rfl ?_|refine Xt (Jq x.nxt hs.2.2.1) rfl ?_|refine Xt (Ql x.book hs.2.2.2.1) rfl ?_|refine Xt (FQ x.seen hs.2.2.2.2.1) rfl ?_|refine Xt (Qk x.owe hs.2.2.2.2.2) rfl ?_|exact rr|fail)<;>conv=>whnf)
theorem Jv(x:DPair):aL av 280 [.agg x.ds,.agg x.ds] (rB true):=by
 refine pO func280 call280 ntmps280 results280 λS=>?_;conv=>whnf
 have h1:=neI x.key;have h2:=neI x.value;repeat'(first|refine awz ?_|exact rr|fail)
theorem OG(l:(List DPair))(hs:l.length<=1048576):aL av 192 [.one (.sl (l.map DPair.ds)),.one (.sl (l.map DPair.ds))] (rB true):=by
 have hl:l.length<=1048576:=hs;refine pO func192 call192 ntmps192 results192 λS=>?_;conv=>whnf
 have h0:(((l.map DPair.ds).length:Int) !=((l.map DPair.ds).length:Int))=false:=neI _;repeat'(first|refine awz ?_|fail)
 refine XA (λk:Nat=>k<=l.length) (4::5::rg 11 16) (λk=>[(5,vI .i64 (k:Int))]) (λk=>[]) (λk=>l.length-k) 0 aa ?_ Xv (λk hR=>?_)<;>(conv=>whnf)
 ·exact whd
 ·repeat'(first|refine awz ?_|exact rr|refine tB ?_ ?_|(intro h;conv=>whnf))
  ·have hlt:k<l.length:=ari;(refine XB aM 6 8 bK bE ac ac ac rfl ?_;conv=>whnf)
   repeat'((first|refine awz ?_|refine XK hlt ?_|refine cP (Jv _) ?_|refine Xz ari ari ?_|fail)<;>conv=>whnf)
   refine aT.mk ⟨k+1,hlt,aa,?_,Xv⟩;exact hds
theorem Nz(x:DJob):aL av 281 [.agg x.ds,.agg x.ds] (rB true):=by
 refine pO func281 call281 ntmps281 results281 λS=>?_;conv=>whnf
 have h1:=neI x.id;have h2:=neI x.due;have h3:=neI x.key;have h4:=neI x.value;have h5:=neI x.fired;repeat'(first|refine awz ?_|exact rr|fail)
theorem Qp(l:(List DJob))(hs:l.length<=1048576):aL av 193 [.one (.sl (l.map DJob.ds)),.one (.sl (l.map DJob.ds))] (rB true):=by
 have hl:l.length<=1048576:=hs;refine pO func193 call193 ntmps193 results193 λS=>?_;conv=>whnf
 have h0:(((l.map DJob.ds).length:Int) !=((l.map DJob.ds).length:Int))=false:=neI _;repeat'(first|refine awz ?_|fail)
 refine XA (λk:Nat=>k<=l.length) (4::5::rg 11 16) (λk=>[(5,vI .i64 (k:Int))]) (λk=>[]) (λk=>l.length-k) 0 aa ?_ Xv (λk hR=>?_)<;>(conv=>whnf)
 ·exact whd
 ·repeat'(first|refine awz ?_|exact rr|refine tB ?_ ?_|(intro h;conv=>whnf))
  ·have hlt:k<l.length:=ari;(refine XB aM 6 8 bK bE ac ac ac rfl ?_;conv=>whnf)
   repeat'((first|refine awz ?_|refine XK hlt ?_|refine cP (Nz _) ?_|refine Xz ari ari ?_|fail)<;>conv=>whnf)
   refine aT.mk ⟨k+1,hlt,aa,?_,Xv⟩;exact hds
theorem OE(x:DLease):aL av 194 [.agg x.ds,.agg x.ds] (rB true):=by
 refine pO func194 call194 ntmps194 results194 λS=>?_;conv=>whnf
 have h1:=neI x.holder;have h2:=neI x.epoch;have h3:=neI x.til;repeat'(first|refine awz ?_|exact rr|fail)
theorem OH(x:DState)(hs:X1 1048576 x):aL av 100 [.agg x.ds,.agg x.ds] (rB true):=by
 refine pO func100 call100 ntmps100 results100 λS=>?_;conv=>whnf
 have h1:=neI x.index;have h2:=neI x.time;repeat'((first|refine awz ?_|refine Xt (OG x.pairs hs.1) rfl ?_|refine Xt (Qp x.jobs hs.2) rfl ?_|refine Xt (OE x.lease) rfl ?_|exact rr|fail)<;>conv=>whnf)
theorem OI(x:DStore)(hs:X3 1048576 x):aL av 31 [.agg x.ds,.agg x.ds] (rB true):=by
 refine pO func31 call31 ntmps31 results31 λS=>?_;conv=>whnf
 have h3:=neI x.num;have h4:=neI x.last;have h5:=neI x.busy;repeat'((first|refine awz ?_|refine Xt (CH x.disk hs.1) rfl ?_|refine Xt (OH x.state hs.2) rfl ?_|exact rr|fail)<;>conv=>whnf)
theorem Nx(x:DDue):aL av 353 [.agg x.ds,.agg x.ds] (rB true):=by
 refine pO func353 call353 ntmps353 results353 λS=>?_;conv=>whnf
 have h1:=neI x.id;have h2:=neI x.due;repeat'(first|refine awz ?_|exact rr|fail)
theorem Qm(l:(List DDue))(hs:l.length<=1048576):aL av 282 [.one (.sl (l.map DDue.ds)),.one (.sl (l.map DDue.ds))] (rB true):=by
 have hl:l.length<=1048576:=hs;refine pO func282 call282 ntmps282 results282 λS=>?_;conv=>whnf
 have h0:(((l.map DDue.ds).length:Int) !=((l.map DDue.ds).length:Int))=false:=neI _;repeat'(first|refine awz ?_|fail)
 refine XA (λk:Nat=>k<=l.length) (4::5::rg 11 16) (λk=>[(5,vI .i64 (k:Int))]) (λk=>[]) (λk=>l.length-k) 0 aa ?_ Xv (λk hR=>?_)<;>(conv=>whnf)
 ·exact whd
 ·repeat'(first|refine awz ?_|exact rr|refine tB ?_ ?_|(intro h;conv=>whnf))
  ·have hlt:k<l.length:=ari;(refine XB aM 6 8 bK bE ac ac ac rfl ?_;conv=>whnf)
   repeat'((first|refine awz ?_|refine XK hlt ?_|refine cP (Nx _) ?_|refine Xz ari ari ?_|fail)<;>conv=>whnf)
   refine aT.mk ⟨k+1,hlt,aa,?_,Xv⟩;exact hds
theorem Qq(x:DJobs)(hs:Ya 1048576 x):aL av 195 [.agg x.ds,.agg x.ds] (rB true):=by
 refine pO func195 call195 ntmps195 results195 λS=>?_;conv=>whnf
 have h1:=neI x.index;have h2:=neI x.time;have h3:=neI x.holder;have h4:=neI x.epoch;have h5:=neI x.til;repeat'(first|refine awz ?_|(refine Xt (Qm x.opens hs) rfl ?_;conv=>whnf)|exact rr|fail)
theorem Qt(x:DView)(hs:X6 1048576 x):aL av 101 [.agg x.ds,.agg x.ds] (rB true):=by
 refine pO func101 call101 ntmps101 results101 λS=>?_;conv=>whnf
 repeat'(first|refine awz ?_|(refine Xt (Qq x.jobs hs) rfl ?_;conv=>whnf)|exact rr|fail)
theorem FR(x:DSched)(hs:XZ 1048576 x):aL av 32 [.agg x.ds,.agg x.ds] (rB true):=by
 refine pO func32 call32 ntmps32 results32 λS=>?_;conv=>whnf
 have h1:=neI x.id;have h2:=neI x.seq;have h4:(!(x.busy==x.busy))=false:=neB _;have h6:=neI x.index;repeat'((first|refine awz ?_|refine Xt (Qt x.view hs) rfl ?_|refine Xt (Mj x.op) rfl ?_|exact rr|fail)<;>conv=>whnf)
theorem Jw(x:DWant):aL av 196 [.agg x.ds,.agg x.ds] (rB true):=by
 refine pO func196 call196 ntmps196 results196 λS=>?_;conv=>whnf
 have h1:=neI x.kind;have h3:=neI x.key;repeat'(first|refine awz ?_|(refine Xt (Mj x.op) rfl ?_;conv=>whnf)|exact rr|fail)
theorem OJ(l:(List DWant))(hs:l.length<=1048576):aL av 103 [.one (.sl (l.map DWant.ds)),.one (.sl (l.map DWant.ds))] (rB true):=by
 have hl:l.length<=1048576:=hs;refine pO func103 call103 ntmps103 results103 λS=>?_;conv=>whnf
 have h0:(((l.map DWant.ds).length:Int) !=((l.map DWant.ds).length:Int))=false:=neI _;repeat'(first|refine awz ?_|fail)
 refine XA (λk:Nat=>k<=l.length) (4::5::rg 11 16) (λk=>[(5,vI .i64 (k:Int))]) (λk=>[]) (λk=>l.length-k) 0 aa ?_ Xv (λk hR=>?_)<;>(conv=>whnf)
 ·exact whd
 ·repeat'(first|refine awz ?_|exact rr|refine tB ?_ ?_|(intro h;conv=>whnf))
  ·have hlt:k<l.length:=ari;(refine XB aM 6 8 bK bE ac ac ac rfl ?_;conv=>whnf)
   repeat'((first|refine awz ?_|refine XK hlt ?_|refine cP (Jw _) ?_|refine Xz ari ari ?_|fail)<;>conv=>whnf)
   refine aT.mk ⟨k+1,hlt,aa,?_,Xv⟩;exact hds
theorem Ny(x:DGot):aL av 197 [.agg x.ds,.agg x.ds] (rB true):=by
 refine pO func197 call197 ntmps197 results197 λS=>?_;conv=>whnf
 have h1:=neI x.seq;have h2:=neI x.index;have h3:=neI x.has;have h4:=neI x.value;repeat'(first|refine awz ?_|exact rr|fail)
theorem Qn(l:(List DGot))(hs:l.length<=1048576):aL av 104 [.one (.sl (l.map DGot.ds)),.one (.sl (l.map DGot.ds))] (rB true):=by
 have hl:l.length<=1048576:=hs;refine pO func104 call104 ntmps104 results104 λS=>?_;conv=>whnf
 have h0:(((l.map DGot.ds).length:Int) !=((l.map DGot.ds).length:Int))=false:=neI _;repeat'(first|refine awz ?_|fail)
 refine XA (λk:Nat=>k<=l.length) (4::5::rg 11 16) (λk=>[(5,vI .i64 (k:Int))]) (λk=>[]) (λk=>l.length-k) 0 aa ?_ Xv (λk hR=>?_)<;>(conv=>whnf)
 ·exact whd
 ·repeat'(first|refine awz ?_|exact rr|refine tB ?_ ?_|(intro h;conv=>whnf))
  ·have hlt:k<l.length:=ari;(refine XB aM 6 8 bK bE ac ac ac rfl ?_;conv=>whnf)
   repeat'((first|refine awz ?_|refine XK hlt ?_|refine cP (Ny _) ?_|refine Xz ari ari ?_|fail)<;>conv=>whnf)
   refine aT.mk ⟨k+1,hlt,aa,?_,Xv⟩;exact hds
theorem CG(x:DClient)(hs:XU 1048576 x):aL av 33 [.agg x.ds,.agg x.ds] (rB true):=by
 refine pO func33 call33 ntmps33 results33 λS=>?_;conv=>whnf
 have h1:=neI x.id;have h4:=neI x.last;repeat'((first|refine awz ?_|refine Xt (OJ x.todo hs.1) rfl ?_|refine Xt (Qn x.gots hs.2) rfl ?_|exact rr|fail)<;>conv=>whnf)
theorem NA(x:DMsg)(hs:X4 1048576 x):aL av 198 [.agg x.ds,.agg x.ds] (rB true):=by
 refine pO func198 call198 ntmps198 results198 λS=>?_;conv=>whnf
 have h1:=neI x.frm;have h2:=neI x.to_;repeat'(first|refine awz ?_|(refine Xt (oc x.row hs) rfl ?_;conv=>whnf)|exact rr|fail)
theorem Qs(l:(List DMsg))(hs:l.length<=1048576/\∀y∈l,X4 1048576 y):aL av 105 [.one (.sl (l.map DMsg.ds)),.one (.sl (l.map DMsg.ds))] (rB true):=by
 have hl:l.length<=1048576:=hs.1;refine pO func105 call105 ntmps105 results105 λS=>?_;conv=>whnf
 have h0:(((l.map DMsg.ds).length:Int) !=((l.map DMsg.ds).length:Int))=false:=neI _;repeat'(first|refine awz ?_|fail)
 refine XA (λk:Nat=>k<=l.length) (4::5::rg 11 16) (λk=>[(5,vI .i64 (k:Int))]) (λk=>[]) (λk=>l.length-k) 0 aa ?_ Xv (λk hR=>?_)<;>(conv=>whnf)
 ·exact whd
 ·repeat'(first|refine awz ?_|exact rr|refine tB ?_ ?_|(intro h;conv=>whnf))
  ·have hlt:k<l.length:=ari;(refine XB aM 6 8 bK bE ac ac ac rfl ?_;conv=>whnf)
   repeat'((first|refine awz ?_|refine XK hlt ?_|refine cP (NA _ (hs.2 _ (List.getElem_mem hlt))) ?_|refine Xz ari ari ?_|fail)<;>conv=>whnf)
   refine aT.mk ⟨k+1,hlt,aa,?_,Xv⟩;exact hds
theorem Js(x:DLink):aL av 199 [.agg x.ds,.agg x.ds] (rB true):=by
 refine pO func199 call199 ntmps199 results199 λS=>?_;conv=>whnf
 have h1:=neI x.a;have h2:=neI x.b;repeat'(first|refine awz ?_|exact rr|fail)
theorem OF(l:(List DLink))(hs:l.length<=1048576):aL av 106 [.one (.sl (l.map DLink.ds)),.one (.sl (l.map DLink.ds))] (rB true):=by
 have hl:l.length<=1048576:=hs;refine pO func106 call106 ntmps106 results106 λS=>?_;conv=>whnf
 have h0:(((l.map DLink.ds).length:Int) !=((l.map DLink.ds).length:Int))=false:=neI _;repeat'(first|refine awz ?_|fail)
 refine XA (λk:Nat=>k<=l.length) (4::5::rg 11 16) (λk=>[(5,vI .i64 (k:Int))]) (λk=>[]) (λk=>l.length-k) 0 aa ?_ Xv (λk hR=>?_)<;>(conv=>whnf)
 ·exact whd
 ·repeat'(first|refine awz ?_|exact rr|refine tB ?_ ?_|(intro h;conv=>whnf))
  ·have hlt:k<l.length:=ari;(refine XB aM 6 8 bK bE ac ac ac rfl ?_;conv=>whnf)
   repeat'((first|refine awz ?_|refine XK hlt ?_|refine cP (Js _) ?_|refine Xz ari ari ?_|fail)<;>conv=>whnf)
   refine aT.mk ⟨k+1,hlt,aa,?_,Xv⟩;exact hds
theorem RZ(x:DNet)(hs:Yf 1048576 x):aL av 34 [.agg x.ds,.agg x.ds] (rB true):=by
 refine pO func34 call34 ntmps34 results34 λS=>?_;conv=>whnf
 repeat'((first|refine awz ?_|refine Xt (Qs x.flight ⟨hs.1,hs.2.1⟩) rfl ?_|refine Xt (OF x.cuts hs.2.2) rfl ?_|exact rr|fail)<;>conv=>whnf)
theorem OD(l:(List Bool))(hs:l.length<=1048576):aL av 36 [.one (.sl (l.map eB)),.one (.sl (l.map eB))] (rB true):=by
 have hl:l.length<=1048576:=hs;refine pO func36 call36 ntmps36 results36 λS=>?_;conv=>whnf
 have h0:(((l.map eB).length:Int) !=((l.map eB).length:Int))=false:=neI _;repeat'(first|refine awz ?_|fail)
 refine XA (λk:Nat=>k<=l.length) (4::5::rg 11 15) (λk=>[(5,vI .i64 (k:Int))]) (λk=>[]) (λk=>l.length-k) 0 aa ?_ Xv (λk hR=>?_)<;>(conv=>whnf)
 ·exact whd
 ·repeat'(first|refine awz ?_|exact rr|refine tB ?_ ?_|(intro h;conv=>whnf))
  ·have hlt:k<l.length:=ari;have hne:(!(l[k]==l[k]))=false:=neB _;(refine XB aM 6 8 kO bE ac ac ac rfl ?_;conv=>whnf)
   repeat'((first|refine awz ?_|refine XK hlt ?_|refine Xz ari ari ?_|fail)<;>conv=>whnf)
   refine aT.mk ⟨k+1,hlt,aa,?_,Xv⟩;exact hds
theorem pW(x:DWorld)(hs:XO 1048576 x):aL av 8 [.agg x.ds,.agg x.ds] (rB true):=by
 refine pO func8 call8 ntmps8 results8 λS=>?_;conv=>whnf
 repeat'((first|refine awz ?_|refine Xt (Jt x.log hs.1) rfl ?_|refine Xt (OI x.store hs.2.1) rfl ?_|refine Xt (FR x.left hs.2.2.1) rfl ?_|refine Xt (FR x.right hs.2.2.2.1) rfl ?_|refine Xt (CG x.ann hs.2.2.2.2.1) rfl ?_|refine Xt (CG x.bob hs.2.2.2.2.2.1) rfl ?_|refine Xt (RZ x.net hs.2.2.2.2.2.2.1) rfl ?_|refine Xt (oc x.clocks hs.2.2.2.2.2.2.2.1) rfl ?_|refine Xt (OD x.up hs.2.2.2.2.2.2.2.2) rfl ?_|exact rr|fail)<;>conv=>whnf)
theorem kX{α β:Type}{mk:Int->α->α}{cnt:α->Int}(f:α->β)(l:List α)(k0:Int){k:Nat}(hk:k<l.length):((mkL mk cnt k0 l).map f)[k]? =some (f (mk (k0+aQ cnt (l.take k)) l[k])):=by
 rw[List.getElem?_map,List.getElem?_eq_getElem (by rw[dl];exact hk),NH l k0 hk];rfl
theorem ndL{n:Int}(h:0<=n):decide (n<0)=false:=by simp only[decide_eq_false_iff_not];omega
theorem gO(l:(List Int))(hs:l.length<=1048576)(k:Int)(h0:0<=k)(hk:k+aQ cI l<=1000000000000):aL av 49 [.one (.sl ((mkL mI cI k l).map eI)),pI k] (.val (pI (k+aQ cI l))):=by
 have hn9:l.length<=1048576:=hs;have hl:(mkL mI cI k l).length=l.length:=dl _ _;have hcn:=bG (cnt:=cI) hH l;refine pO func49 call49 ntmps49 results49 λS=>?_;conv=>whnf
 repeat'(first|refine awz ?_|fail)
 refine XA (λp:Nat×Int=>p.1<=l.length/\p.2=k+aQ cI (l.take p.1)) (1::rg 4 16) (λp=>[(1,vI .i64 p.2),(5,vI .i64 (p.1:Int))]) (λ_=>[]) (λp=>l.length-p.1) (0,k) ⟨zero_le _,by simp[aQ]⟩ ?_ Xv (λp hR=>?_)<;>(conv=>whnf)
 ·exact whd
 ·obtain⟨j,q⟩:=p;obtain⟨hj,hq⟩:=hR;simp only at hj hq;by_cases hlt:j<l.length
  ·have hc1:=hcn (j+1);rw[bj hlt]at hc1;have hc0:0<=aQ cI (l.take j):=aO hH _;have hn:=hH l[j];have hq1:0<=q:=aa;have hq2:q+cI l[j]<=1000000000000:=aa;have he:((mkL mI cI k l).map eI)[j]? =some (eI (mI q l[j])):=by rw[hq];exact kX eI l k hlt
   have hc:decide ((j:Int)<(((mkL mI cI k l).map eI).length:Int))=true:=by simp[hl];omega
   have e9:(cI l[j]:Int)=1:=rfl;have hq3:q+1<=1000000000000:=aa;have g0:=neI (q);clear hc1 hc0 hcn hn;repeat'((first|refine awz ?_|refine Xw j _ rfl he ?_|refine Xz aa aa ?_|fail)<;>conv=>whnf)
   refine aT.mk ⟨(j+1,q+1),⟨hlt,by simp only;rw[bj hlt];omega⟩,by simp only;omega,?_,Xv⟩;exact hds
  ·have e:j=l.length:=aa;subst e;have hc:decide ((l.length:Int)<(((mkL mI cI k l).map eI).length:Int))=false:=by simp[hl]
   repeat'(first|refine awz ?_|fail)
   all_goals rw[hq,take_length]
theorem ww(l:(List (List Int)))(hs:l.length<=1048576/\∀y∈l,y.length<=1048576)(k:Int)(h0:0<=k)(hk:k+aQ bm l<=1000000000000):aL av 207 [.one (.sl ((mkL gP bm k l).map bD)),pI k] (.val (pI (k+aQ bm l))):=by
 have hn9:l.length<=1048576:=hs.1;have hl:(mkL gP bm k l).length=l.length:=dl _ _;have hcn:=bG (cnt:=bm) fP l;refine pO func207 call207 ntmps207 results207 λS=>?_;conv=>whnf
 repeat'(first|refine awz ?_|fail)
 refine XA (λp:Nat×Int=>p.1<=l.length/\p.2=k+aQ bm (l.take p.1)) (1::rg 4 16) (λp=>[(1,vI .i64 p.2),(5,vI .i64 (p.1:Int))]) (λ_=>[]) (λp=>l.length-p.1) (0,k) ⟨zero_le _,by simp[aQ]⟩ ?_ Xv (λp hR=>?_)<;>(conv=>whnf)
 ·exact whd
 ·obtain⟨j,q⟩:=p;obtain⟨hj,hq⟩:=hR;simp only at hj hq;by_cases hlt:j<l.length
  ·have hc1:=hcn (j+1);rw[bj hlt]at hc1;have hc0:0<=aQ bm (l.take j):=aO fP _;have hn:=fP l[j];have hq1:0<=q:=aa;have hq2:q+bm l[j]<=1000000000000:=aa;have he:((mkL gP bm k l).map bD)[j]? =some (bD (gP q l[j])):=by rw[hq];exact kX bD l k hlt
   have hc:decide ((j:Int)<(((mkL gP bm k l).map bD).length:Int))=true:=by simp[hl];omega
   have e9:(bm l[j]:Int)=aQ cI l[j]:=rfl;have hi0:=aO hH l[j];have hq3:q+aQ cI l[j]<=1000000000000:=aa;have g0:decide (q+aQ cI l[j]<0)=false:=ndL aa;clear hc1 hc0 hcn hn;repeat'((first|refine awz ?_|refine Xw j _ rfl he ?_|refine cP (gO l[j] (hs.2 _ (List.getElem_mem hlt)) (q) aa aa) ?_|refine Xz aa aa ?_|fail)<;>conv=>whnf)
   refine aT.mk ⟨(j+1,q+aQ cI l[j]),⟨hlt,by simp only;rw[bj hlt];omega⟩,by simp only;omega,?_,Xv⟩;exact hds
  ·have e:j=l.length:=aa;subst e;have hc:decide ((l.length:Int)<(((mkL gP bm k l).map bD).length:Int))=false:=by simp[hl]
   repeat'(first|refine awz ?_|fail)
   all_goals rw[hq,take_length]
theorem yb(l:(List DWrite))(hs:l.length<=1048576/\∀y∈l,X0 1048576 y)(k:Int)(h0:0<=k)(hk:k+aQ bu l<=1000000000000):aL av 208 [.one (.sl ((mkL ic bu k l).map DWrite.ds)),pI k] (.val (pI (k+aQ bu l))):=by
 have hn9:l.length<=1048576:=hs.1;have hl:(mkL ic bu k l).length=l.length:=dl _ _;have hcn:=bG (cnt:=bu) fO l;refine pO func208 call208 ntmps208 results208 λS=>?_;conv=>whnf
 repeat'(first|refine awz ?_|fail)
 refine XA (λp:Nat×Int=>p.1<=l.length/\p.2=k+aQ bu (l.take p.1)) (1::rg 4 26) (λp=>[(1,vI .i64 p.2),(5,vI .i64 (p.1:Int))]) (λ_=>[]) (λp=>l.length-p.1) (0,k) ⟨zero_le _,by simp[aQ]⟩ ?_ Xv (λp hR=>?_)<;>(conv=>whnf)
 ·exact whd
 ·obtain⟨j,q⟩:=p;obtain⟨hj,hq⟩:=hR;simp only at hj hq;by_cases hlt:j<l.length
  ·have hc1:=hcn (j+1);rw[bj hlt]at hc1;have hc0:0<=aQ bu (l.take j):=aO fO _;have hn:=fO l[j];have hq1:0<=q:=aa;have hq2:q+bu l[j]<=1000000000000:=aa;have he:((mkL ic bu k l).map DWrite.ds)[j]? =some (DWrite.ds (ic q l[j])):=by rw[hq];exact kX DWrite.ds l k hlt
   have hc:decide ((j:Int)<(((mkL ic bu k l).map DWrite.ds).length:Int))=true:=by simp[hl];omega
   have e9:(bu l[j]:Int)=1+aQ cI l[j].row:=rfl;have hi0:=aO hH l[j].row;have hq3:q+1+aQ cI l[j].row<=1000000000000:=aa;have g0:=neI (q);have g1:decide (q+1+aQ cI l[j].row<0)=false:=ndL aa;clear hc1 hc0 hcn hn;repeat'((first|refine awz ?_|refine Xw j _ rfl he ?_|refine cP (gO l[j].row (hs.2 _ (List.getElem_mem hlt)) (q+1) aa aa) ?_|refine Xz aa aa ?_|fail)<;>conv=>whnf)
   refine aT.mk ⟨(j+1,q+1+aQ cI l[j].row),⟨hlt,by simp only;rw[bj hlt];omega⟩,by simp only;omega,?_,Xv⟩;exact hds
  ·have e:j=l.length:=aa;subst e;have hc:decide ((l.length:Int)<(((mkL ic bu k l).map DWrite.ds).length:Int))=false:=by simp[hl]
   repeat'(first|refine awz ?_|fail)
   all_goals rw[hq,take_length]
theorem oJ(l:(List DMark))(hs:l.length<=1048576)(k:Int)(h0:0<=k)(hk:k+aQ bk l<=1000000000000):aL av 122 [.one (.sl ((mkL iE bk k l).map DMark.ds)),pI k] (.val (pI (k+aQ bk l))):=by
 have hn9:l.length<=1048576:=hs;have hl:(mkL iE bk k l).length=l.length:=dl _ _;have hcn:=bG (cnt:=bk) fg l;refine pO func122 call122 ntmps122 results122 λS=>?_;conv=>whnf
 repeat'(first|refine awz ?_|fail)
 refine XA (λp:Nat×Int=>p.1<=l.length/\p.2=k+aQ bk (l.take p.1)) (1::rg 4 35) (λp=>[(1,vI .i64 p.2),(5,vI .i64 (p.1:Int))]) (λ_=>[]) (λp=>l.length-p.1) (0,k) ⟨zero_le _,by simp[aQ]⟩ ?_ Xv (λp hR=>?_)<;>(conv=>whnf)
 ·exact whd
 ·obtain⟨j,q⟩:=p;obtain⟨hj,hq⟩:=hR;simp only at hj hq;by_cases hlt:j<l.length
  ·have hc1:=hcn (j+1);rw[bj hlt]at hc1;have hc0:0<=aQ bk (l.take j):=aO fg _;have hn:=fg l[j];have hq1:0<=q:=aa;have hq2:q+bk l[j]<=1000000000000:=aa;have he:((mkL iE bk k l).map DMark.ds)[j]? =some (DMark.ds (iE q l[j])):=by rw[hq];exact kX DMark.ds l k hlt
   have hc:decide ((j:Int)<(((mkL iE bk k l).map DMark.ds).length:Int))=true:=by simp[hl];omega
   have e9:(bk l[j]:Int)=3:=rfl;have hq3:q+3<=1000000000000:=aa;have g0:=neI (q);have g1:=neI (q+1);have g2:=neI (q+1+1);clear hc1 hc0 hcn hn;repeat'((first|refine awz ?_|refine Xw j _ rfl he ?_|refine Xz aa aa ?_|fail)<;>conv=>whnf)
   refine aT.mk ⟨(j+1,q+1+1+1),⟨hlt,by simp only;rw[bj hlt];omega⟩,by simp only;omega,?_,Xv⟩;exact hds
  ·have e:j=l.length:=aa;subst e;have hc:decide ((l.length:Int)<(((mkL iE bk k l).map DMark.ds).length:Int))=false:=by simp[hl]
   repeat'(first|refine awz ?_|fail)
   all_goals rw[hq,take_length]
theorem ya(l:(List DEntry))(hs:l.length<=1048576)(k:Int)(h0:0<=k)(hk:k+aQ bA l<=1000000000000):aL av 206 [.one (.sl ((mkL ib bA k l).map DEntry.ds)),pI k] (.val (pI (k+aQ bA l))):=by
 have hn9:l.length<=1048576:=hs;have hl:(mkL ib bA k l).length=l.length:=dl _ _;have hcn:=bG (cnt:=bA) fN l;refine pO func206 call206 ntmps206 results206 λS=>?_;conv=>whnf
 repeat'(first|refine awz ?_|fail)
 refine XA (λp:Nat×Int=>p.1<=l.length/\p.2=k+aQ bA (l.take p.1)) (1::rg 4 94) (λp=>[(1,vI .i64 p.2),(5,vI .i64 (p.1:Int))]) (λ_=>[]) (λp=>l.length-p.1) (0,k) ⟨zero_le _,by simp[aQ]⟩ ?_ Xv (λp hR=>?_)<;>(conv=>whnf)
 ·exact whd
 ·obtain⟨j,q⟩:=p;obtain⟨hj,hq⟩:=hR;simp only at hj hq;by_cases hlt:j<l.length
  ·have hc1:=hcn (j+1);rw[bj hlt]at hc1;have hc0:0<=aQ bA (l.take j):=aO fN _;have hn:=fN l[j];have hq1:0<=q:=aa;have hq2:q+bA l[j]<=1000000000000:=aa;have he:((mkL ib bA k l).map DEntry.ds)[j]? =some (DEntry.ds (ib q l[j])):=by rw[hq];exact kX DEntry.ds l k hlt
   have hc:decide ((j:Int)<(((mkL ib bA k l).map DEntry.ds).length:Int))=true:=by simp[hl];omega
   have e9:(bA l[j]:Int)=9:=rfl;have hq3:q+9<=1000000000000:=aa;have g0:=neI (q);have g1:=neI (q+1);have g2:=neI (q+1+1);have g3:=neI (q+1+1+1);have g4:=neI (q+1+1+1+1);have g5:=neI (q+1+1+1+1+1);have g6:=neI (q+1+1+1+1+1+1);have g7:=neI (q+1+1+1+1+1+1+1);have g8:=neI (q+1+1+1+1+1+1+1+1);clear hc1 hc0 hcn hn;repeat'((first|refine awz ?_|refine Xw j _ rfl he ?_|refine Xz aa aa ?_|fail)<;>conv=>whnf)
   refine aT.mk ⟨(j+1,q+1+1+1+1+1+1+1+1+1),⟨hlt,by simp only;rw[bj hlt];omega⟩,by simp only;omega,?_,Xv⟩;exact hds
  ·have e:j=l.length:=aa;subst e;have hc:decide ((l.length:Int)<(((mkL ib bA k l).map DEntry.ds).length:Int))=false:=by simp[hl]
   repeat'(first|refine awz ?_|fail)
   all_goals rw[hq,take_length]
theorem CO(l:(List DAck))(hs:l.length<=1048576)(k:Int)(h0:0<=k)(hk:k+aQ co l<=1000000000000):aL av 123 [.one (.sl ((mkL lX co k l).map DAck.ds)),pI k] (.val (pI (k+aQ co l))):=by
 have hn9:l.length<=1048576:=hs;have hl:(mkL lX co k l).length=l.length:=dl _ _;have hcn:=bG (cnt:=co) it l;refine pO func123 call123 ntmps123 results123 λS=>?_;conv=>whnf
 repeat'(first|refine awz ?_|fail)
 refine XA (λp:Nat×Int=>p.1<=l.length/\p.2=k+aQ co (l.take p.1)) (1::rg 4 44) (λp=>[(1,vI .i64 p.2),(5,vI .i64 (p.1:Int))]) (λ_=>[]) (λp=>l.length-p.1) (0,k) ⟨zero_le _,by simp[aQ]⟩ ?_ Xv (λp hR=>?_)<;>(conv=>whnf)
 ·exact whd
 ·obtain⟨j,q⟩:=p;obtain⟨hj,hq⟩:=hR;simp only at hj hq;by_cases hlt:j<l.length
  ·have hc1:=hcn (j+1);rw[bj hlt]at hc1;have hc0:0<=aQ co (l.take j):=aO it _;have hn:=it l[j];have hq1:0<=q:=aa;have hq2:q+co l[j]<=1000000000000:=aa;have he:((mkL lX co k l).map DAck.ds)[j]? =some (DAck.ds (lX q l[j])):=by rw[hq];exact kX DAck.ds l k hlt
   have hc:decide ((j:Int)<(((mkL lX co k l).map DAck.ds).length:Int))=true:=by simp[hl];omega
   have e9:(co l[j]:Int)=4:=rfl;have hq3:q+4<=1000000000000:=aa;have g0:=neI (q);have g1:=neI (q+1);have g2:=neI (q+1+1);have g3:=neI (q+1+1+1);clear hc1 hc0 hcn hn;repeat'((first|refine awz ?_|refine Xw j _ rfl he ?_|refine Xz aa aa ?_|fail)<;>conv=>whnf)
   refine aT.mk ⟨(j+1,q+1+1+1+1),⟨hlt,by simp only;rw[bj hlt];omega⟩,by simp only;omega,?_,Xv⟩;exact hds
  ·have e:j=l.length:=aa;subst e;have hc:decide ((l.length:Int)<(((mkL lX co k l).map DAck.ds).length:Int))=false:=by simp[hl]
   repeat'(first|refine awz ?_|fail)
   all_goals rw[hq,take_length]
theorem zX(l:(List DPair))(hs:l.length<=1048576)(k:Int)(h0:0<=k)(hk:k+aQ bB l<=1000000000000):aL av 209 [.one (.sl ((mkL ja bB k l).map DPair.ds)),pI k] (.val (pI (k+aQ bB l))):=by
 have hn9:l.length<=1048576:=hs;have hl:(mkL ja bB k l).length=l.length:=dl _ _;have hcn:=bG (cnt:=bB) gG l;refine pO func209 call209 ntmps209 results209 λS=>?_;conv=>whnf
 repeat'(first|refine awz ?_|fail)
 refine XA (λp:Nat×Int=>p.1<=l.length/\p.2=k+aQ bB (l.take p.1)) (1::rg 4 26) (λp=>[(1,vI .i64 p.2),(5,vI .i64 (p.1:Int))]) (λ_=>[]) (λp=>l.length-p.1) (0,k) ⟨zero_le _,by simp[aQ]⟩ ?_ Xv (λp hR=>?_)<;>(conv=>whnf)
 ·exact whd
 ·obtain⟨j,q⟩:=p;obtain⟨hj,hq⟩:=hR;simp only at hj hq;by_cases hlt:j<l.length
  ·have hc1:=hcn (j+1);rw[bj hlt]at hc1;have hc0:0<=aQ bB (l.take j):=aO gG _;have hn:=gG l[j];have hq1:0<=q:=aa;have hq2:q+bB l[j]<=1000000000000:=aa;have he:((mkL ja bB k l).map DPair.ds)[j]? =some (DPair.ds (ja q l[j])):=by rw[hq];exact kX DPair.ds l k hlt
   have hc:decide ((j:Int)<(((mkL ja bB k l).map DPair.ds).length:Int))=true:=by simp[hl];omega
   have e9:(bB l[j]:Int)=2:=rfl;have hq3:q+2<=1000000000000:=aa;have g0:=neI (q);have g1:=neI (q+1);clear hc1 hc0 hcn hn;repeat'((first|refine awz ?_|refine Xw j _ rfl he ?_|refine Xz aa aa ?_|fail)<;>conv=>whnf)
   refine aT.mk ⟨(j+1,q+1+1),⟨hlt,by simp only;rw[bj hlt];omega⟩,by simp only;omega,?_,Xv⟩;exact hds
  ·have e:j=l.length:=aa;subst e;have hc:decide ((l.length:Int)<(((mkL ja bB k l).map DPair.ds).length:Int))=false:=by simp[hl]
   repeat'(first|refine awz ?_|fail)
   all_goals rw[hq,take_length]
theorem CS(l:(List DJob))(hs:l.length<=1048576)(k:Int)(h0:0<=k)(hk:k+aQ ct l<=1000000000000):aL av 210 [.one (.sl ((mkL l0 ct k l).map DJob.ds)),pI k] (.val (pI (k+aQ ct l))):=by
 have hn9:l.length<=1048576:=hs;have hl:(mkL l0 ct k l).length=l.length:=dl _ _;have hcn:=bG (cnt:=ct) iy l;refine pO func210 call210 ntmps210 results210 λS=>?_;conv=>whnf
 repeat'(first|refine awz ?_|fail)
 refine XA (λp:Nat×Int=>p.1<=l.length/\p.2=k+aQ ct (l.take p.1)) (1::rg 4 53) (λp=>[(1,vI .i64 p.2),(5,vI .i64 (p.1:Int))]) (λ_=>[]) (λp=>l.length-p.1) (0,k) ⟨zero_le _,by simp[aQ]⟩ ?_ Xv (λp hR=>?_)<;>(conv=>whnf)
 ·exact whd
 ·obtain⟨j,q⟩:=p;obtain⟨hj,hq⟩:=hR;simp only at hj hq;by_cases hlt:j<l.length
  ·have hc1:=hcn (j+1);rw[bj hlt]at hc1;have hc0:0<=aQ ct (l.take j):=aO iy _;have hn:=iy l[j];have hq1:0<=q:=aa;have hq2:q+ct l[j]<=1000000000000:=aa;have he:((mkL l0 ct k l).map DJob.ds)[j]? =some (DJob.ds (l0 q l[j])):=by rw[hq];exact kX DJob.ds l k hlt
   have hc:decide ((j:Int)<(((mkL l0 ct k l).map DJob.ds).length:Int))=true:=by simp[hl];omega
   have e9:(ct l[j]:Int)=5:=rfl;have hq3:q+5<=1000000000000:=aa;have g0:=neI (q);have g1:=neI (q+1);have g2:=neI (q+1+1);have g3:=neI (q+1+1+1);have g4:=neI (q+1+1+1+1);clear hc1 hc0 hcn hn;repeat'((first|refine awz ?_|refine Xw j _ rfl he ?_|refine Xz aa aa ?_|fail)<;>conv=>whnf)
   refine aT.mk ⟨(j+1,q+1+1+1+1+1),⟨hlt,by simp only;rw[bj hlt];omega⟩,by simp only;omega,?_,Xv⟩;exact hds
  ·have e:j=l.length:=aa;subst e;have hc:decide ((l.length:Int)<(((mkL l0 ct k l).map DJob.ds).length:Int))=false:=by simp[hl]
   repeat'(first|refine awz ?_|fail)
   all_goals rw[hq,take_length]
theorem CQ(l:(List DDue))(hs:l.length<=1048576)(k:Int)(h0:0<=k)(hk:k+aQ cp l<=1000000000000):aL av 284 [.one (.sl ((mkL lY cp k l).map DDue.ds)),pI k] (.val (pI (k+aQ cp l))):=by
 have hn9:l.length<=1048576:=hs;have hl:(mkL lY cp k l).length=l.length:=dl _ _;have hcn:=bG (cnt:=cp) iu l;refine pO func284 call284 ntmps284 results284 λS=>?_;conv=>whnf
 repeat'(first|refine awz ?_|fail)
 refine XA (λp:Nat×Int=>p.1<=l.length/\p.2=k+aQ cp (l.take p.1)) (1::rg 4 26) (λp=>[(1,vI .i64 p.2),(5,vI .i64 (p.1:Int))]) (λ_=>[]) (λp=>l.length-p.1) (0,k) ⟨zero_le _,by simp[aQ]⟩ ?_ Xv (λp hR=>?_)<;>(conv=>whnf)
 ·exact whd
 ·obtain⟨j,q⟩:=p;obtain⟨hj,hq⟩:=hR;simp only at hj hq;by_cases hlt:j<l.length
  ·have hc1:=hcn (j+1);rw[bj hlt]at hc1;have hc0:0<=aQ cp (l.take j):=aO iu _;have hn:=iu l[j];have hq1:0<=q:=aa;have hq2:q+cp l[j]<=1000000000000:=aa;have he:((mkL lY cp k l).map DDue.ds)[j]? =some (DDue.ds (lY q l[j])):=by rw[hq];exact kX DDue.ds l k hlt
   have hc:decide ((j:Int)<(((mkL lY cp k l).map DDue.ds).length:Int))=true:=by simp[hl];omega
   have e9:(cp l[j]:Int)=2:=rfl;have hq3:q+2<=1000000000000:=aa;have g0:=neI (q);have g1:=neI (q+1);clear hc1 hc0 hcn hn;repeat'((first|refine awz ?_|refine Xw j _ rfl he ?_|refine Xz aa aa ?_|fail)<;>conv=>whnf)
   refine aT.mk ⟨(j+1,q+1+1),⟨hlt,by simp only;rw[bj hlt];omega⟩,by simp only;omega,?_,Xv⟩;exact hds
  ·have e:j=l.length:=aa;subst e;have hc:decide ((l.length:Int)<(((mkL lY cp k l).map DDue.ds).length:Int))=false:=by simp[hl]
   repeat'(first|refine awz ?_|fail)
   all_goals rw[hq,take_length]
theorem z3(l:(List DWant))(hs:l.length<=1048576)(k:Int)(h0:0<=k)(hk:k+aQ bC l<=1000000000000):aL av 127 [.one (.sl ((mkL jb bC k l).map DWant.ds)),pI k] (.val (pI (k+aQ bC l))):=by
 have hn9:l.length<=1048576:=hs;have hl:(mkL jb bC k l).length=l.length:=dl _ _;have hcn:=bG (cnt:=bC) gH l;refine pO func127 call127 ntmps127 results127 λS=>?_;conv=>whnf
 repeat'(first|refine awz ?_|fail)
 refine XA (λp:Nat×Int=>p.1<=l.length/\p.2=k+aQ bC (l.take p.1)) (1::rg 4 76) (λp=>[(1,vI .i64 p.2),(5,vI .i64 (p.1:Int))]) (λ_=>[]) (λp=>l.length-p.1) (0,k) ⟨zero_le _,by simp[aQ]⟩ ?_ Xv (λp hR=>?_)<;>(conv=>whnf)
 ·exact whd
 ·obtain⟨j,q⟩:=p;obtain⟨hj,hq⟩:=hR;simp only at hj hq;by_cases hlt:j<l.length
  ·have hc1:=hcn (j+1);rw[bj hlt]at hc1;have hc0:0<=aQ bC (l.take j):=aO gH _;have hn:=gH l[j];have hq1:0<=q:=aa;have hq2:q+bC l[j]<=1000000000000:=aa;have he:((mkL jb bC k l).map DWant.ds)[j]? =some (DWant.ds (jb q l[j])):=by rw[hq];exact kX DWant.ds l k hlt
   have hc:decide ((j:Int)<(((mkL jb bC k l).map DWant.ds).length:Int))=true:=by simp[hl];omega
   have e9:(bC l[j]:Int)=7:=rfl;have hq3:q+7<=1000000000000:=aa;have g0:=neI (q);have g1:=neI (q+1);have g2:=neI (q+1+1);have g3:=neI (q+1+1+1);have g4:=neI (q+1+1+1+1);have g5:=neI (q+1+1+1+1+1);have g6:=neI (q+1+1+1+1+1+1);clear hc1 hc0 hcn hn;repeat'((first|refine awz ?_|refine Xw j _ rfl he ?_|refine Xz aa aa ?_|fail)<;>conv=>whnf)
   refine aT.mk ⟨(j+1,q+1+1+1+1+1+1+1),⟨hlt,by simp only;rw[bj hlt];omega⟩,by simp only;omega,?_,Xv⟩;exact hds
  ·have e:j=l.length:=aa;subst e;have hc:decide ((l.length:Int)<(((mkL jb bC k l).map DWant.ds).length:Int))=false:=by simp[hl]
   repeat'(first|refine awz ?_|fail)
   all_goals rw[hq,take_length]
theorem CR(l:(List DGot))(hs:l.length<=1048576)(k:Int)(h0:0<=k)(hk:k+aQ cq l<=1000000000000):aL av 128 [.one (.sl ((mkL lZ cq k l).map DGot.ds)),pI k] (.val (pI (k+aQ cq l))):=by
 have hn9:l.length<=1048576:=hs;have hl:(mkL lZ cq k l).length=l.length:=dl _ _;have hcn:=bG (cnt:=cq) iw l;refine pO func128 call128 ntmps128 results128 λS=>?_;conv=>whnf
 repeat'(first|refine awz ?_|fail)
 refine XA (λp:Nat×Int=>p.1<=l.length/\p.2=k+aQ cq (l.take p.1)) (1::rg 4 44) (λp=>[(1,vI .i64 p.2),(5,vI .i64 (p.1:Int))]) (λ_=>[]) (λp=>l.length-p.1) (0,k) ⟨zero_le _,by simp[aQ]⟩ ?_ Xv (λp hR=>?_)<;>(conv=>whnf)
 ·exact whd
 ·obtain⟨j,q⟩:=p;obtain⟨hj,hq⟩:=hR;simp only at hj hq;by_cases hlt:j<l.length
  ·have hc1:=hcn (j+1);rw[bj hlt]at hc1;have hc0:0<=aQ cq (l.take j):=aO iw _;have hn:=iw l[j];have hq1:0<=q:=aa;have hq2:q+cq l[j]<=1000000000000:=aa;have he:((mkL lZ cq k l).map DGot.ds)[j]? =some (DGot.ds (lZ q l[j])):=by rw[hq];exact kX DGot.ds l k hlt
   have hc:decide ((j:Int)<(((mkL lZ cq k l).map DGot.ds).length:Int))=true:=by simp[hl];omega
   have e9:(cq l[j]:Int)=4:=rfl;have hq3:q+4<=1000000000000:=aa;have g0:=neI (q);have g1:=neI (q+1);have g2:=neI (q+1+1);have g3:=neI (q+1+1+1);clear hc1 hc0 hcn hn;repeat'((first|refine awz ?_|refine Xw j _ rfl he ?_|refine Xz aa aa ?_|fail)<;>conv=>whnf)
   refine aT.mk ⟨(j+1,q+1+1+1+1),⟨hlt,by simp only;rw[bj hlt];omega⟩,by simp only;omega,?_,Xv⟩;exact hds
  ·have e:j=l.length:=aa;subst e;have hc:decide ((l.length:Int)<(((mkL lZ cq k l).map DGot.ds).length:Int))=false:=by simp[hl]
   repeat'(first|refine awz ?_|fail)
   all_goals rw[hq,take_length]
theorem CU(l:(List DMsg))(hs:l.length<=1048576/\∀y∈l,X4 1048576 y)(k:Int)(h0:0<=k)(hk:k+aQ bS l<=1000000000000):aL av 129 [.one (.sl ((mkL kW bS k l).map DMsg.ds)),pI k] (.val (pI (k+aQ bS l))):=by
 have hn9:l.length<=1048576:=hs.1;have hl:(mkL kW bS k l).length=l.length:=dl _ _;have hcn:=bG (cnt:=bS) iz l;refine pO func129 call129 ntmps129 results129 λS=>?_;conv=>whnf
 repeat'(first|refine awz ?_|fail)
 refine XA (λp:Nat×Int=>p.1<=l.length/\p.2=k+aQ bS (l.take p.1)) (1::rg 4 35) (λp=>[(1,vI .i64 p.2),(5,vI .i64 (p.1:Int))]) (λ_=>[]) (λp=>l.length-p.1) (0,k) ⟨zero_le _,by simp[aQ]⟩ ?_ Xv (λp hR=>?_)<;>(conv=>whnf)
 ·exact whd
 ·obtain⟨j,q⟩:=p;obtain⟨hj,hq⟩:=hR;simp only at hj hq;by_cases hlt:j<l.length
  ·have hc1:=hcn (j+1);rw[bj hlt]at hc1;have hc0:0<=aQ bS (l.take j):=aO iz _;have hn:=iz l[j];have hq1:0<=q:=aa;have hq2:q+bS l[j]<=1000000000000:=aa;have he:((mkL kW bS k l).map DMsg.ds)[j]? =some (DMsg.ds (kW q l[j])):=by rw[hq];exact kX DMsg.ds l k hlt
   have hc:decide ((j:Int)<(((mkL kW bS k l).map DMsg.ds).length:Int))=true:=by simp[hl];omega
   have e9:(bS l[j]:Int)=2+aQ cI l[j].row:=rfl;have hi0:=aO hH l[j].row;have hq3:q+2+aQ cI l[j].row<=1000000000000:=aa;have g0:=neI (q);have g1:=neI (q+1);have g2:decide (q+1+1+aQ cI l[j].row<0)=false:=ndL aa;clear hc1 hc0 hcn hn;repeat'((first|refine awz ?_|refine Xw j _ rfl he ?_|refine cP (gO l[j].row (hs.2 _ (List.getElem_mem hlt)) (q+1+1) aa aa) ?_|refine Xz aa aa ?_|fail)<;>conv=>whnf)
   refine aT.mk ⟨(j+1,q+1+1+aQ cI l[j].row),⟨hlt,by simp only;rw[bj hlt];omega⟩,by simp only;omega,?_,Xv⟩;exact hds
  ·have e:j=l.length:=aa;subst e;have hc:decide ((l.length:Int)<(((mkL kW bS k l).map DMsg.ds).length:Int))=false:=by simp[hl]
   repeat'(first|refine awz ?_|fail)
   all_goals rw[hq,take_length]
theorem zW(l:(List DLink))(hs:l.length<=1048576)(k:Int)(h0:0<=k)(hk:k+aQ bQ l<=1000000000000):aL av 130 [.one (.sl ((mkL jF bQ k l).map DLink.ds)),pI k] (.val (pI (k+aQ bQ l))):=by
 have hn9:l.length<=1048576:=hs;have hl:(mkL jF bQ k l).length=l.length:=dl _ _;have hcn:=bG (cnt:=bQ) gF l;refine pO func130 call130 ntmps130 results130 λS=>?_;conv=>whnf
 repeat'(first|refine awz ?_|fail)
 refine XA (λp:Nat×Int=>p.1<=l.length/\p.2=k+aQ bQ (l.take p.1)) (1::rg 4 26) (λp=>[(1,vI .i64 p.2),(5,vI .i64 (p.1:Int))]) (λ_=>[]) (λp=>l.length-p.1) (0,k) ⟨zero_le _,by simp[aQ]⟩ ?_ Xv (λp hR=>?_)<;>(conv=>whnf)
 ·exact whd
 ·obtain⟨j,q⟩:=p;obtain⟨hj,hq⟩:=hR;simp only at hj hq;by_cases hlt:j<l.length
  ·have hc1:=hcn (j+1);rw[bj hlt]at hc1;have hc0:0<=aQ bQ (l.take j):=aO gF _;have hn:=gF l[j];have hq1:0<=q:=aa;have hq2:q+bQ l[j]<=1000000000000:=aa;have he:((mkL jF bQ k l).map DLink.ds)[j]? =some (DLink.ds (jF q l[j])):=by rw[hq];exact kX DLink.ds l k hlt
   have hc:decide ((j:Int)<(((mkL jF bQ k l).map DLink.ds).length:Int))=true:=by simp[hl];omega
   have e9:(bQ l[j]:Int)=2:=rfl;have hq3:q+2<=1000000000000:=aa;have g0:=neI (q);have g1:=neI (q+1);clear hc1 hc0 hcn hn;repeat'((first|refine awz ?_|refine Xw j _ rfl he ?_|refine Xz aa aa ?_|fail)<;>conv=>whnf)
   refine aT.mk ⟨(j+1,q+1+1),⟨hlt,by simp only;rw[bj hlt];omega⟩,by simp only;omega,?_,Xv⟩;exact hds
  ·have e:j=l.length:=aa;subst e;have hc:decide ((l.length:Int)<(((mkL jF bQ k l).map DLink.ds).length:Int))=false:=by simp[hl]
   repeat'(first|refine awz ?_|fail)
   all_goals rw[hq,take_length]
theorem zV(l:(List Bool))(hs:l.length<=1048576)(k:Int)(h0:0<=k)(hk:k+aQ cI l<=1000000000000):aL av 50 [.one (.sl ((mkL mB cI k l).map eB)),pI k] (.val (pI (k+aQ cI l))):=by
 have hn9:l.length<=1048576:=hs;have hl:(mkL mB cI k l).length=l.length:=dl _ _;have hcn:=bG (cnt:=cI) hH l;refine pO func50 call50 ntmps50 results50 λS=>?_;conv=>whnf
 repeat'(first|refine awz ?_|fail)
 refine XA (λp:Nat×Int=>p.1<=l.length/\p.2=k+aQ cI (l.take p.1)) (1::rg 4 18) (λp=>[(1,vI .i64 p.2),(5,vI .i64 (p.1:Int))]) (λ_=>[]) (λp=>l.length-p.1) (0,k) ⟨zero_le _,by simp[aQ]⟩ ?_ Xv (λp hR=>?_)<;>(conv=>whnf)
 ·exact whd
 ·obtain⟨j,q⟩:=p;obtain⟨hj,hq⟩:=hR;simp only at hj hq;by_cases hlt:j<l.length
  ·have hc1:=hcn (j+1);rw[bj hlt]at hc1;have hc0:0<=aQ cI (l.take j):=aO hH _;have hn:=hH l[j];have hq1:0<=q:=aa;have hq2:q+cI l[j]<=1000000000000:=aa;have he:((mkL mB cI k l).map eB)[j]? =some (eB (mB q l[j])):=by rw[hq];exact kX eB l k hlt
   have hc:decide ((j:Int)<(((mkL mB cI k l).map eB).length:Int))=true:=by simp[hl];omega
   have e9:(cI l[j]:Int)=1:=rfl;have hq3:q+1<=1000000000000:=aa;have g0:(!(mB (q) l[j]==(Int.tmod (q) 3==0)))=false:=by rw[Int.tmod_eq_emod_of_nonneg aa];unfold mB;simp
   clear hc1 hc0 hcn hn;repeat'((first|refine awz ?_|refine Xw j _ rfl he ?_|refine And.intro ae ?_|refine Xz aa aa ?_|fail)<;>conv=>whnf)
   refine aT.mk ⟨(j+1,q+1),⟨hlt,by simp only;rw[bj hlt];omega⟩,by simp only;omega,?_,Xv⟩;exact hds
  ·have e:j=l.length:=aa;subst e;have hc:decide ((l.length:Int)<(((mkL mB cI k l).map eB).length:Int))=false:=by simp[hl]
   repeat'(first|refine awz ?_|fail)
   all_goals rw[hq,take_length]
theorem lR(x:DDisk)(hs:XV 1048576 x)(k:Int)(h0:0<=k)(hk:k+bO x<=1000000000000):aL av 124 [.agg (rC k x).ds,pI k] (.val (pI (k+bO x))):=by
 have n0:=aO (cnt:=bm) fP x.kept;have n1:=aO (cnt:=bu) fO x.wait;have hkk:=hk;unfold bO at hkk;have g0:decide (k+aQ bm x.kept<0)=false:=ndL aa;have g1:decide (k+aQ bm x.kept+aQ bu x.wait<0)=false:=ndL aa;refine pO func124 call124 ntmps124 results124 λS=>?_;conv=>whnf
 repeat'((first|refine awz ?_|refine cP (ww x.kept ⟨hs.1,hs.2.1⟩ (k) aa aa) ?_|refine cP (yb x.wait ⟨hs.2.2.1,hs.2.2.2⟩ (k+aQ bm x.kept) aa aa) ?_|fail)<;>conv=>whnf)
 have e:k+aQ bm x.kept+aQ bu x.wait=k+bO x:=by unfold bO;omega
 show AP.val (pI (k+aQ bm x.kept+aQ bu x.wait))=AP.val (pI (k+bO x));rw[e]
theorem FZ(x:DTwo)(hs:X8 1048576 x)(k:Int)(h0:0<=k)(hk:k+bH x<=1000000000000):aL av 119 [.agg (uH k x).ds,pI k] (.val (pI (k+bH x))):=by
 have n0:=gI x.a;have n1:=gI x.b;have hkk:=hk;unfold bH at hkk;have g0:decide (k+bO x.a<0)=false:=ndL aa;have g1:decide (k+bO x.a+bO x.b<0)=false:=ndL aa;refine pO func119 call119 ntmps119 results119 λS=>?_;conv=>whnf
 repeat'((first|refine awz ?_|refine cP (lR x.a hs.1 (k) aa aa) ?_|refine cP (lR x.b hs.2 (k+bO x.a) aa aa) ?_|fail)<;>conv=>whnf)
 have e:k+bO x.a+bO x.b=k+bH x:=by unfold bH;omega
 show AP.val (pI (k+bO x.a+bO x.b))=AP.val (pI (k+bH x));rw[e]
theorem q9(x:DHead)(hs:XW 1048576 x)(k:Int)(h0:0<=k)(hk:k+bg x<=1000000000000):aL av 120 [.agg (kZ k x).ds,pI k] (.val (pI (k+bg x))):=by
 have n0:=aO (cnt:=bk) fg x.seen;have hkk:=hk;unfold bg at hkk;have g0:decide (k+aQ bk x.seen<0)=false:=ndL aa;refine pO func120 call120 ntmps120 results120 λS=>?_;conv=>whnf
 repeat'(first|refine awz ?_|(refine cP (oJ x.seen hs (k) aa aa) ?_;conv=>whnf)|fail)
 have e:k+aQ bk x.seen=k+bg x:=by unfold bg;omega
 show AP.val (pI (k+aQ bk x.seen))=AP.val (pI (k+bg x));rw[e]
theorem CP(x:DBook)(hs:X5 1048576 x)(k:Int)(h0:0<=k)(hk:k+cJ x<=1000000000000):aL av 121 [.agg (yy k x).ds,pI k] (.val (pI (k+cJ x))):=by
 have n0:=aO (cnt:=bA) fN x.entries;have hkk:=hk;unfold cJ at hkk;have g0:decide (k+aQ bA x.entries<0)=false:=ndL aa;refine pO func121 call121 ntmps121 results121 λS=>?_;conv=>whnf
 repeat'(first|refine awz ?_|(refine cP (ya x.entries hs (k) aa aa) ?_;conv=>whnf)|fail)
 have e:k+aQ bA x.entries=k+cJ x:=by unfold cJ;omega
 show AP.val (pI (k+aQ bA x.entries))=AP.val (pI (k+cJ x));rw[e]
theorem wy(x:DLogNode)(hs:XT 1048576 x)(k:Int)(h0:0<=k)(hk:k+aN x<=1000000000000):aL av 44 [.agg (ge k x).ds,pI k] (.val (pI (k+aN x))):=by
 have n0:=w8 x.two;have n1:=kq x.head;have n2:=kq x.nxt;have n3:=tU x.book;have n4:=aO (cnt:=bk) fg x.seen;have n5:=aO (cnt:=co) it x.owe;have hkk:=hk;unfold aN at hkk;have g0:decide (k+bH x.two<0)=false:=ndL aa;have g1:decide (k+bH x.two+bg x.head<0)=false:=ndL aa;have g2:decide (k+bH x.two+bg x.head+bg x.nxt<0)=false:=ndL aa;have g3:decide (k+bH x.two+bg x.head+bg x.nxt+cJ x.book<0)=false:=ndL aa;have g4:decide (k+bH x.two+bg x.head+bg x.nxt+cJ x.book+aQ bk x.seen<0)=false:=ndL aa;have g5:decide (k+bH x.two+bg x.head+bg x.nxt+cJ x.book+aQ bk x.seen+aQ co x.owe<0)=false:=ndL aa;refine pO func44 call44 ntmps44 results44 λS=>?_;conv=>whnf
 repeat'((first|refine awz ?_|refine cP (FZ x.two hs.1 (k) aa aa) ?_|refine cP (q9 x.head hs.2.1 (k+bH x.two) aa aa) ?_|refine cP (q9 x.nxt hs.2.2.1 (k+bH x.two+bg x.head) aa aa) ?_|refine cP (CP x.book hs.2.2.2.1 (k+bH x.two+bg x.head+bg x.nxt) aa aa) ?_|refine cP (oJ x.seen hs.2.2.2.2.1 (k+bH x.two+bg x.head+bg x.nxt+cJ x.book) aa aa) ?_|refine cP (CO x.owe hs.2.2.2.2.2 (k+bH x.two+bg x.head+bg x.nxt+cJ x.book+aQ bk x.seen) aa aa) ?_|fail)<;>conv=>whnf)
 have e:k+bH x.two+bg x.head+bg x.nxt+cJ x.book+aQ bk x.seen+aQ co x.owe=k+aN x:=by unfold aN;omega
 show AP.val (pI (k+bH x.two+bg x.head+bg x.nxt+cJ x.book+aQ bk x.seen+aQ co x.owe))=AP.val (pI (k+aN x));rw[e]
theorem zY(x:DState)(hs:X1 1048576 x)(k:Int)(h0:0<=k)(hk:k+dt x<=1000000000000):aL av 125 [.agg (Dw k x).ds,pI k] (.val (pI (k+dt x))):=by
 have n0:=aO (cnt:=bB) gG x.pairs;have n1:=aO (cnt:=ct) iy x.jobs;have hkk:=hk;unfold dt at hkk;have g0:decide (k+aQ bB x.pairs<0)=false:=ndL aa;have g1:decide (k+aQ bB x.pairs+aQ ct x.jobs<0)=false:=ndL aa;refine pO func125 call125 ntmps125 results125 λS=>?_;conv=>whnf
 repeat'((first|refine awz ?_|refine cP (zX x.pairs hs.1 (k) aa aa) ?_|refine cP (CS x.jobs hs.2 (k+aQ bB x.pairs) aa aa) ?_|fail)<;>conv=>whnf)
 have e:k+aQ bB x.pairs+aQ ct x.jobs=k+dt x:=by unfold dt;omega
 show AP.val (pI (k+aQ bB x.pairs+aQ ct x.jobs))=AP.val (pI (k+dt x));rw[e]
theorem zZ(x:DStore)(hs:X3 1048576 x)(k:Int)(h0:0<=k)(hk:k+aX x<=1000000000000):aL av 45 [.agg (jS k x).ds,pI k] (.val (pI (k+aX x))):=by
 have n0:=gI x.disk;have n1:=qV x.state;have hkk:=hk;unfold aX at hkk;have g0:decide (k+bO x.disk<0)=false:=ndL aa;have g1:decide (k+bO x.disk+dt x.state<0)=false:=ndL aa;refine pO func45 call45 ntmps45 results45 λS=>?_;conv=>whnf
 repeat'((first|refine awz ?_|refine cP (lR x.disk hs.1 (k) aa aa) ?_|refine cP (zY x.state hs.2 (k+bO x.disk) aa aa) ?_|fail)<;>conv=>whnf)
 have e:k+bO x.disk+dt x.state=k+aX x:=by unfold aX;omega
 show AP.val (pI (k+bO x.disk+dt x.state))=AP.val (pI (k+aX x));rw[e]
theorem CT(x:DJobs)(hs:Ya 1048576 x)(k:Int)(h0:0<=k)(hk:k+dW x<=1000000000000):aL av 211 [.agg (Ij k x).ds,pI k] (.val (pI (k+dW x))):=by
 have n0:=aO (cnt:=cp) iu x.opens;have hkk:=hk;unfold dW at hkk;have g0:decide (k+aQ cp x.opens<0)=false:=ndL aa;refine pO func211 call211 ntmps211 results211 λS=>?_;conv=>whnf
 repeat'(first|refine awz ?_|(refine cP (CQ x.opens hs (k) aa aa) ?_;conv=>whnf)|fail)
 have e:k+aQ cp x.opens=k+dW x:=by unfold dW;omega
 show AP.val (pI (k+aQ cp x.opens))=AP.val (pI (k+dW x));rw[e]
theorem CV(x:DView)(hs:X6 1048576 x)(k:Int)(h0:0<=k)(hk:k+dX x<=1000000000000):aL av 126 [.agg (Ik k x).ds,pI k] (.val (pI (k+dX x))):=by
 have n0:=tX x.jobs;have hkk:=hk;unfold dX at hkk;have g0:decide (k+dW x.jobs<0)=false:=ndL aa;refine pO func126 call126 ntmps126 results126 λS=>?_;conv=>whnf
 repeat'(first|refine awz ?_|(refine cP (CT x.jobs hs (k) aa aa) ?_;conv=>whnf)|fail)
 have e:k+dW x.jobs=k+dX x:=by unfold dX;omega
 show AP.val (pI (k+dW x.jobs))=AP.val (pI (k+dX x));rw[e]
theorem oK(x:DSched)(hs:XZ 1048576 x)(k:Int)(h0:0<=k)(hk:k+aP x<=1000000000000):aL av 46 [.agg (gh k x).ds,pI k] (.val (pI (k+aP x))):=by
 have n0:=tY x.view;have hkk:=hk;unfold aP at hkk;have g0:decide (k+dX x.view<0)=false:=ndL aa;refine pO func46 call46 ntmps46 results46 λS=>?_;conv=>whnf
 repeat'(first|refine awz ?_|(refine cP (CV x.view hs (k) aa aa) ?_;conv=>whnf)|fail)
 have e:k+dX x.view=k+aP x:=by unfold aP;omega
 show AP.val (pI (k+dX x.view))=AP.val (pI (k+aP x));rw[e]
theorem nw(x:DClient)(hs:XU 1048576 x)(k:Int)(h0:0<=k)(hk:k+aW x<=1000000000000):aL av 47 [.agg (ie k x).ds,pI k] (.val (pI (k+aW x))):=by
 have n0:=aO (cnt:=bC) gH x.todo;have n1:=aO (cnt:=cq) iw x.gots;have hkk:=hk;unfold aW at hkk;have g0:decide (k+aQ bC x.todo<0)=false:=ndL aa;have g1:decide (k+aQ bC x.todo+aQ cq x.gots<0)=false:=ndL aa;refine pO func47 call47 ntmps47 results47 λS=>?_;conv=>whnf
 repeat'((first|refine awz ?_|refine cP (z3 x.todo hs.1 (k) aa aa) ?_|refine cP (CR x.gots hs.2 (k+aQ bC x.todo) aa aa) ?_|fail)<;>conv=>whnf)
 have e:k+aQ bC x.todo+aQ cq x.gots=k+aW x:=by unfold aW;omega
 show AP.val (pI (k+aQ bC x.todo+aQ cq x.gots))=AP.val (pI (k+aW x));rw[e]
theorem FY(x:DNet)(hs:Yf 1048576 x)(k:Int)(h0:0<=k)(hk:k+dg x<=1000000000000):aL av 48 [.agg (Dv k x).ds,pI k] (.val (pI (k+dg x))):=by
 have n0:=aO (cnt:=bS) iz x.flight;have n1:=aO (cnt:=bQ) gF x.cuts;have hkk:=hk;unfold dg at hkk;have g0:decide (k+aQ bS x.flight<0)=false:=ndL aa;have g1:decide (k+aQ bS x.flight+aQ bQ x.cuts<0)=false:=ndL aa;refine pO func48 call48 ntmps48 results48 λS=>?_;conv=>whnf
 repeat'((first|refine awz ?_|refine cP (CU x.flight ⟨hs.1,hs.2.1⟩ (k) aa aa) ?_|refine cP (zW x.cuts hs.2.2 (k+aQ bS x.flight) aa aa) ?_|fail)<;>conv=>whnf)
 have e:k+aQ bS x.flight+aQ bQ x.cuts=k+dg x:=by unfold dg;omega
 show AP.val (pI (k+aQ bS x.flight+aQ bQ x.cuts))=AP.val (pI (k+dg x));rw[e]
theorem z4(x:DWorld)(hs:XO 1048576 x)(k:Int)(h0:0<=k)(hk:k+dL x<=1000000000000):aL av 10 [.agg (Ks k x).ds,pI k] (.val (pI (k+dL x))):=by
 have n0:=nZ x.log;have n1:=qW x.store;have n2:=jA x.left;have n3:=jA x.right;have n4:=iP x.ann;have n5:=iP x.bob;have n6:=w7 x.net;have n7:=aO (cnt:=cI) hH x.clocks;have n8:=aO (cnt:=cI) hH x.up;have hkk:=hk;unfold dL at hkk;have g0:decide (k+aN x.log<0)=false:=ndL aa;have g1:decide (k+aN x.log+aX x.store<0)=false:=ndL aa;have g2:decide (k+aN x.log+aX x.store+aP x.left<0)=false:=ndL aa;have g3:decide (k+aN x.log+aX x.store+aP x.left+aP x.right<0)=false:=ndL aa;have g4:decide (k+aN x.log+aX x.store+aP x.left+aP x.right+aW x.ann<0)=false:=ndL aa;have g5:decide (k+aN x.log+aX x.store+aP x.left+aP x.right+aW x.ann+aW x.bob<0)=false:=ndL aa;have g6:decide (k+aN x.log+aX x.store+aP x.left+aP x.right+aW x.ann+aW x.bob+dg x.net<0)=false:=ndL aa;have g7:decide (k+aN x.log+aX x.store+aP x.left+aP x.right+aW x.ann+aW x.bob+dg x.net+aQ cI x.clocks<0)=false:=ndL aa;have g8:decide (k+aN x.log+aX x.store+aP x.left+aP x.right+aW x.ann+aW x.bob+dg x.net+aQ cI x.clocks+aQ cI x.up<0)=false:=ndL aa;refine pO func10 call10 ntmps10 results10 λS=>?_;conv=>whnf
 repeat'((first|refine awz ?_|refine cP (wy x.log hs.1 (k) aa aa) ?_|refine cP (zZ x.store hs.2.1 (k+aN x.log) aa aa) ?_|refine cP (oK x.left hs.2.2.1 (k+aN x.log+aX x.store) aa aa) ?_|refine cP (oK x.right hs.2.2.2.1 (k+aN x.log+aX x.store+aP x.left) aa aa) ?_|refine cP (nw x.ann hs.2.2.2.2.1 (k+aN x.log+aX x.store+aP x.left+aP x.right) aa aa) ?_|refine cP (nw x.bob hs.2.2.2.2.2.1 (k+aN x.log+aX x.store+aP x.left+aP x.right+aW x.ann) aa aa) ?_|refine cP (FY x.net hs.2.2.2.2.2.2.1 (k+aN x.log+aX x.store+aP x.left+aP x.right+aW x.ann+aW x.bob) aa aa) ?_|refine cP (gO x.clocks hs.2.2.2.2.2.2.2.1 (k+aN x.log+aX x.store+aP x.left+aP x.right+aW x.ann+aW x.bob+dg x.net) aa aa) ?_|refine cP (zV x.up hs.2.2.2.2.2.2.2.2 (k+aN x.log+aX x.store+aP x.left+aP x.right+aW x.ann+aW x.bob+dg x.net+aQ cI x.clocks) aa aa) ?_|fail)<;>conv=>whnf)
 have e:k+aN x.log+aX x.store+aP x.left+aP x.right+aW x.ann+aW x.bob+dg x.net+aQ cI x.clocks+aQ cI x.up=k+dL x:=by unfold dL;omega
 show AP.val (pI (k+aN x.log+aX x.store+aP x.left+aP x.right+aW x.ann+aW x.bob+dg x.net+aQ cI x.clocks+aQ cI x.up))=AP.val (pI (k+dL x));rw[e]
end Go.Proofs.YtpdmakdpnejnfaaGreat
