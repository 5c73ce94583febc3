/- J25 -/
import Derived.Test.YtehobfglmeiglaaGreatDoorJ13
import Derived.Test.YtehobfglmeiglaaGreatDoorAwx
import Derived.Test.YtehobfglmeiglaaGreatDoorAvFZ
import Derived.Test.YtehobfglmeiglaaGreatDoorMkB
set_option linter.unusedVariables false
set_option linter.unusedSimpArgs false
set_option maxRecDepth 100000
namespace Go.Proofs.YtehobfglmeiglaaGreatDoor
open Go.Proofs.Tryz
open Go.ChangeShapes Go.WideShapes Go.RowKit
def cS:List (List Nat):=bk [0,1,129,12354,12354,1318979,4328796549,486506500228,35461415067975,12354,12354,168300747,13070241930,904124445388,2753515566257255295791757,58341237505289536560189897]
def cT:List (List Nat):=bj 14 [0,1,4,4763947,4763353,4763434,4763650,4764379,4766566,137767,59035,98401,275548,806989]
def eu:List (List Nat):=bk [0,0,0,131,16578,1319108,0,0,456,37383,2650633,109225628097872330,14017208179956920582,5688587614900805726860,4288654853356305658176321]
def ew:List (List Nat):=bj 13 [1594320,176438,176426,176432,176459,176540,5102,2186,3644,10205,29888,88574,265721]
theorem pA{α:Type}{l:List α}{enc:α->List AD}{s:Nat}(h:∀a,(enc a).length=s):∀y∈l.map enc,y.length=s:=λy hy=>by
 obtain⟨a,_,rfl⟩:=List.mem_map.1 hy
 exact h a
theorem xy{α:Type}{l:List α}{enc:α->List AD}{s a b:Nat}(h:∀a,(enc a).length=s):∀y∈((l.map enc).take b).drop a,y.length=s:=λy hy=>
 pA h y (List.mem_of_mem_take (List.mem_of_mem_drop hy))
def opK(out:List DDue)(d:Int):Nat->Nat
 |0=>0
 |k+1=>if(out.getD k ⟨0,0⟩).due>d then opK out d k else k+1
theorem ET(out:List DDue)(d:Int):∀k,opK out d k<=k
 |0=>Nat.le_refl _
 |k+1=>by
  simp only[opK]
  split
  ·exact Nat.le_succ_of_le (ET out d k)
  ·exact Nat.le_refl _
def nY(out:List DDue)(j:DJob):List DDue:=(out.take (opK out j.due out.length)++[⟨j.id,j.due⟩])++out.drop (opK out j.due out.length)
def hP(l:List DJob):List DDue:=l.foldl (λout j=>if j.fired>0 then out else nY out j) []
theorem oH(l:List DJob){k:Nat}(hk:k<l.length):hP (l.take (k+1))=if l[k].fired>0 then hP (l.take k)else nY (hP (l.take k)) l[k]:=by
 unfold hP
 rw[kn hk,List.foldl_append]
 rfl
theorem wc(out:List DDue)(j:DJob):(nY out j).length=out.length+1:=by
 have:=ET out j.due out.length
 simp[nY]
 omega
theorem wd(l:List DJob):∀k,k<=l.length->(hP (l.take k)).length<=k
 |0,_=>by simp[hP]
 |k+1,hk=>by
  have h:=wd l k Mo
  rw[oH l Mo]
  split
  ·omega
  ·rw[wc];omega
theorem Bf{l:List DJob}(h:bo l=true):l.length<=8:=by
 simp only[bo,Bool.and_eq_true,decide_eq_true_eq]at h
 omega
theorem AW.i64e{n:Int}{K:Int->Prop}(c:Int)(e:n=c)(h1: -9223372036854775808<=c)(h2:c<=9223372036854775807)(hk:K c):AW .i64 n K:=by
 subst e
 exact AW.i64 h1 h2 hk
theorem xv(out:List DDue)(d:DJob)(j:Nat)(hj:opK out d.due out.length=j):
  (([]++((out.map DDue.ds).take j).drop 0)++[[dI d.id,dI d.due]])++((out.map DDue.ds).take (out.map DDue.ds).length).drop j=(nY out d).map DDue.ds:=by
 subst hj
 simp[nY,List.map_append,List.map_take,List.map_drop]
 exact⟨rfl,by rw[List.take_of_length_le Mr]⟩
theorem rm(l:List DJob)(h:bo l=true):aj av 64 [.one (.sl (l.map DJob.ds))] (.val (.one (.sl ((hP l).map DDue.ds)))):=by
 have hn:(!bo l)=false:=by rw[h];rfl
 have h8:=Bf h
 refine ae ah func64 rfl call64 ntmps64 (MC results64) λS=>?_;conv=>whnf
 repeat'((first|refine aw0 ?_|refine awx ?_|refine cP (eJ l) ?_|exact rr|refine And.intro rfl ?_|refine AB.mk (λh=>?_) (λh=>?_))<;>conv=>whnf)
 refine AWP.freeze 7 230 2 [] rfl ?_
 conv=>whnf
 refine AWP.loopS (λk:Nat=>k<=l.length) [3,4,5,6,12,13,14,15,16,17,18,19,20,21,22,23,24,25,26,27,28,29,30,31,32,33,34,35,36,37,38,39,40,41,42,43,44,45,46,47,48,49,50,51,52,53,54,55,56,57,58,59,60,61,62,63,64,65,66,67] (λk=>[(3,.one (.d (.sl ((hP (l.take k)).map DDue.ds)))),(4,vI .i64 (k:Int))]) (λ_=>[]) (λk=>l.length-k) 0 Mo ?_ ak.nil (λk hR=>?_)<;>(conv=>whnf)
 ·exact whd
 ·by_cases hlt:k<l.length
  ·have hlen:=wd l k Mo
   have hc:decide ((k:Int)<((l.map DJob.ds).length:Int))=true:=by simp;omega
   have hsn:=oH l hlt
   generalize hout:hP (l.take k)=out at hlen hsn⊢
   cases hf:decide (l[k].fired>0)with
   |true=>
    rw[if_pos (of_decide_eq_true hf)]at hsn
    repeat'((first|refine aw0 ?_|refine awx ?_|refine AIx.map hlt ?_|refine AW.i64 Mo Mo ?_|exact rr|refine And.intro rfl ?_|refine AB.mk (λh=>?_) (λh=>?_))<;>conv=>whnf)
    refine aB.mk ⟨k+1,hlt,by omega,?_,ak.nil⟩
    simp only[hsn]
    exact hds
   |false=>
    rw[if_neg (of_decide_eq_false hf)]at hsn
    repeat'((first|refine aw0 ?_|refine awx ?_|refine AIx.map hlt ?_|refine AW.i64 Mo Mo ?_|exact rr|refine And.intro rfl ?_|refine AB.mk (λh=>?_) (λh=>?_))<;>conv=>whnf)
    have hm:(out.map DDue.ds).length=out.length:=by simp
    refine AWP.loopS (λj:Nat=>j<=(out.map DDue.ds).length/\opK out l[k].due out.length=opK out l[k].due j) [5,26,27,28,29,30,31,32,33,34,35,36,37,38,39,40,41,42,43] (λj=>[(5,vI .i64 (j:Int))]) (λ_=>[]) (λj=>j) (out.map DDue.ds).length ⟨Nat.le_refl _,by rw[hm]⟩ ?_ ak.nil (λj hJ=>?_)<;>(conv=>whnf)
    ·exact whd
    ·obtain⟨hj,hk⟩:=hJ
     rcases j with _|m
     ·have b1:decide (((0:Nat):Int)>0)=false:=rfl
      have hk0:opK out l[k].due out.length=0:=hk
      repeat'(first|(refine aw0 ?_)|(refine awx ?_;conv=>whnf))
      (refine AWP.drawK ah 9 14 cS cT Mp Mp Mp rfl ?_;conv=>whnf)
      repeat'((first|refine AWP.freeze 44 230 2 ((nY out l[k]).map DDue.ds) (congrArg (AO.row 230 2) (xv out l[k] 0 hk0)) ?_|refine aw0 ?_|refine awx ?_|refine⟨0,0,rfl,rfl,Nat.zero_le _,hj,pA (λ_=>rfl),?_⟩|refine⟨0,(out.map DDue.ds).length,rfl,rfl,hj,Nat.le_refl _,pA (λ_=>rfl),?_⟩|refine ce (xy (λ_=>rfl)) ?_|refine ce Mr ?_|refine dJ My ?_|refine AIx.map hlt ?_|refine AW.i64 Mo Mo ?_|exact rr|refine And.intro rfl ?_|refine AB.mk (λh=>?_) (λh=>?_))<;>conv=>whnf)
      (refine AWP.drawK ah 12 13 eu ew Mp Mp Mp rfl ?_;conv=>whnf)
      repeat'((first|refine AWP.freeze 44 230 2 ((nY out l[k]).map DDue.ds) (congrArg (AO.row 230 2) (xv out l[k] 0 hk0)) ?_|refine aw0 ?_|refine awx ?_|refine⟨0,0,rfl,rfl,Nat.zero_le _,hj,pA (λ_=>rfl),?_⟩|refine⟨0,(out.map DDue.ds).length,rfl,rfl,hj,Nat.le_refl _,pA (λ_=>rfl),?_⟩|refine ce (xy (λ_=>rfl)) ?_|refine ce Mr ?_|refine dJ My ?_|refine AIx.map hlt ?_|refine AW.i64 Mo Mo ?_|exact rr|refine And.intro rfl ?_|refine AB.mk (λh=>?_) (λh=>?_))<;>conv=>whnf)
      refine aB.mk ⟨k+1,hlt,by omega,?_,ak.nil⟩
      simp only[hsn]
      exact hds
     ·have b1:decide (((m+1:Nat):Int)>0)=true:=by simp<;>omega
      have hmo:m<out.length:=by omega
      have hget:out.getD m ⟨0,0⟩=out[m]:=by simp[List.getD_eq_getElem?_getD,hmo]
      cases b2:decide (out[m].due>l[k].due)with
      |true=>
       have hk2:opK out l[k].due out.length=opK out l[k].due m:=by
        rw[hk]
        simp only[opK,hget]
        rw[if_pos (of_decide_eq_true b2)]
       repeat'(first|(refine aw0 ?_)|(refine awx ?_;conv=>whnf))
       (refine AWP.drawK ah 9 14 cS cT Mp Mp Mp rfl ?_;conv=>whnf)
       repeat'((first|refine aw0 ?_|refine awx ?_|refine AIx.map hmo ?_|refine AIx.map hlt ?_|refine AW.i64e (m:Int) Mo Mo Mo ?_|exact rr|refine And.intro rfl ?_|refine AB.mk (λh=>?_) (λh=>?_))<;>conv=>whnf)
       refine aB.mk ⟨m,⟨by omega,hk2⟩,by omega,?_,ak.nil⟩
       exact hds
      |false=>
       have hk2:opK out l[k].due out.length=m+1:=by
        rw[hk]
        simp only[opK,hget]
        rw[if_neg (of_decide_eq_false b2)]
       repeat'(first|(refine aw0 ?_)|(refine awx ?_;conv=>whnf))
       (refine AWP.drawK ah 9 14 cS cT Mp Mp Mp rfl ?_;conv=>whnf)
       repeat'((first|refine aw0 ?_|refine awx ?_|refine AIx.map hmo ?_|refine AIx.map hlt ?_|refine AW.i64e (m:Int) Mo Mo Mo ?_|exact rr|refine And.intro rfl ?_|refine AB.mk (λh=>?_) (λh=>?_))<;>conv=>whnf)
       repeat'((first|refine AWP.freeze 44 230 2 ((nY out l[k]).map DDue.ds) (congrArg (AO.row 230 2) (xv out l[k] (m+1) hk2)) ?_|refine aw0 ?_|refine awx ?_|refine⟨0,(m+1),rfl,rfl,Nat.zero_le _,hj,pA (λ_=>rfl),?_⟩|refine⟨(m+1),(out.map DDue.ds).length,rfl,rfl,hj,Nat.le_refl _,pA (λ_=>rfl),?_⟩|refine ce (xy (λ_=>rfl)) ?_|refine ce Mr ?_|refine dJ My ?_|refine AIx.map hlt ?_|refine AW.i64 Mo Mo ?_|exact rr|refine And.intro rfl ?_|refine AB.mk (λh=>?_) (λh=>?_))<;>conv=>whnf)
       (refine AWP.drawK ah 12 13 eu ew Mp Mp Mp rfl ?_;conv=>whnf)
       repeat'((first|refine AWP.freeze 44 230 2 ((nY out l[k]).map DDue.ds) (congrArg (AO.row 230 2) (xv out l[k] (m+1) hk2)) ?_|refine aw0 ?_|refine awx ?_|refine⟨0,(m+1),rfl,rfl,Nat.zero_le _,hj,pA (λ_=>rfl),?_⟩|refine⟨(m+1),(out.map DDue.ds).length,rfl,rfl,hj,Nat.le_refl _,pA (λ_=>rfl),?_⟩|refine ce (xy (λ_=>rfl)) ?_|refine ce Mr ?_|refine dJ My ?_|refine AIx.map hlt ?_|refine AW.i64 Mo Mo ?_|exact rr|refine And.intro rfl ?_|refine AB.mk (λh=>?_) (λh=>?_))<;>conv=>whnf)
       refine aB.mk ⟨k+1,hlt,by omega,?_,ak.nil⟩
       simp only[hsn]
       exact hds
  ·have hc:decide ((k:Int)<((l.map DJob.ds).length:Int))=false:=by simp[show k=l.length by omega]
   have e:l.take k=l:=List.take_of_length_le Mo
   repeat'((first|refine aw0 ?_|refine awx ?_|exact rr|refine And.intro rfl ?_|refine AB.mk (λh=>?_) (λh=>?_))<;>conv=>whnf)
   all_goals rw[e]
end Go.Proofs.YtehobfglmeiglaaGreatDoor
namespace Go.Proofs.YtehobfglmeiglaaGreatDoor
open Go.Proofs.Tryz
open Go.ChangeShapes Go.WideShapes Go.RowKit
theorem jI{α:Type}(p:α->Bool){l:List α}{k:Nat}(hk:k<l.length):(l.take (k+1)).filter p=(l.take k).filter p++if p l[k]then [l[k]]else []:=by
 rw[kn hk,List.filter_append]
 congr 1
 cases h:p l[k]<;>simp[h]
theorem qK{α:Type}(p:α->Bool)(l:List α)(k:Nat):((l.take k).filter p).length<=l.length:=by
 have h1:=List.length_filter_le p (l.take k)
 have h2:(l.take k).length<=l.length:=by simp;omega
 omega
def cz(j:DJob):Bool:=j.fired==0
def eh(j:DJob):Bool:=j.fired !=0
theorem jT(j:DJob):aj av 177 [.agg j.ds] (rB (cz j)):=by
 refine ae ah func177 rfl call177 ntmps177 (MC results177) λS=>?_;conv=>whnf
 repeat'((first|refine aw0 ?_|refine awx ?_|exact rr|refine And.intro rfl ?_|refine AB.mk (λh=>?_) (λh=>?_))<;>conv=>whnf)
 all_goals rfl
theorem nT(l:List DJob)(h8:l.length<=8):aj av 176 [.one (.sl (l.map DJob.ds)),.one (.pv (.func (.func 177) #[] #[]))] (.val (.one (.sl ((l.filter cz).map DJob.ds)))):=by
 refine ae ah func176 rfl call176 ntmps176 (MC results176) λS=>?_;conv=>whnf
 repeat'((first|refine aw0 ?_|refine awx ?_|exact rr|refine And.intro rfl ?_|refine AB.mk (λh=>?_) (λh=>?_))<;>conv=>whnf)
 refine AWP.loopS (λk:Nat=>k<=l.length) (8::[5,7,11,12,13,14,15,16,17,18,19,20,21,22]) (λk=>[(5,.one (.own 8)),(11,vI .i64 (k:Int))]) (λk=>[(8,.row 228 5 (((l.take k).filter cz).map DJob.ds))]) (λk=>l.length-k) 0 Mo ?_ (ak.cons rfl ak.nil) (λk hR=>?_)<;>(conv=>whnf)
 ·exact whd
 ·by_cases hlt:k<l.length
  ·have hc:decide ((k:Int)<((l.map DJob.ds).length:Int))=true:=by simp;omega
   have hs:=jI cz hlt
   have hl:=qK cz l k
   cases hb:cz l[k]with
   |true=>
    rw[hb]at hs
    repeat'((first|refine aw0 ?_|refine awx ?_|refine AIx.map hlt ?_|refine cP (jT _) ?_|refine dJ My ?_|refine AW.i64 Mo Mo ?_|exact rr|refine And.intro rfl ?_|refine AB.mk (λh=>?_) (λh=>?_))<;>conv=>whnf)
    refine aB.mk ⟨k+1,hlt,by omega,?_,ak.cons (congrArg some (congrArg (AO.row 228 5) (by rw[hs,List.map_append];rfl))) ak.nil⟩
    exact hds
   |false=>
    rw[hb]at hs
    repeat'((first|refine aw0 ?_|refine awx ?_|refine AIx.map hlt ?_|refine cP (jT _) ?_|refine AW.i64 Mo Mo ?_|exact rr|refine And.intro rfl ?_|refine AB.mk (λh=>?_) (λh=>?_))<;>conv=>whnf)
    refine aB.mk ⟨k+1,hlt,by omega,?_,ak.cons (congrArg some (congrArg (AO.row 228 5) (by rw[hs];simp))) ak.nil⟩
    exact hds
  ·have hc:decide ((k:Int)<((l.map DJob.ds).length:Int))=false:=by simp;omega
   have e:l.take k=l:=List.take_of_length_le Mo
   rw[e]
   repeat'((first|refine aw0 ?_|refine awx ?_|exact rr|refine And.intro rfl ?_|refine AB.mk (λh=>?_) (λh=>?_))<;>conv=>whnf)
theorem gg(j:DJob):aj av 179 [.agg j.ds] (rB (eh j)):=by
 refine ae ah func179 rfl call179 ntmps179 (MC results179) λS=>?_;conv=>whnf
 repeat'((first|refine aw0 ?_|refine awx ?_|exact rr|refine And.intro rfl ?_|refine AB.mk (λh=>?_) (λh=>?_))<;>conv=>whnf)
 all_goals rfl
theorem kw(l:List DJob)(h8:l.length<=8):aj av 176 [.one (.sl (l.map DJob.ds)),.one (.pv (.func (.func 179) #[] #[]))] (.val (.one (.sl ((l.filter eh).map DJob.ds)))):=by
 refine ae ah func176 rfl call176 ntmps176 (MC results176) λS=>?_;conv=>whnf
 repeat'((first|refine aw0 ?_|refine awx ?_|exact rr|refine And.intro rfl ?_|refine AB.mk (λh=>?_) (λh=>?_))<;>conv=>whnf)
 refine AWP.loopS (λk:Nat=>k<=l.length) (8::[5,7,11,12,13,14,15,16,17,18,19,20,21,22]) (λk=>[(5,.one (.own 8)),(11,vI .i64 (k:Int))]) (λk=>[(8,.row 228 5 (((l.take k).filter eh).map DJob.ds))]) (λk=>l.length-k) 0 Mo ?_ (ak.cons rfl ak.nil) (λk hR=>?_)<;>(conv=>whnf)
 ·exact whd
 ·by_cases hlt:k<l.length
  ·have hc:decide ((k:Int)<((l.map DJob.ds).length:Int))=true:=by simp;omega
   have hs:=jI eh hlt
   have hl:=qK eh l k
   cases hb:eh l[k]with
   |true=>
    rw[hb]at hs
    repeat'((first|refine aw0 ?_|refine awx ?_|refine AIx.map hlt ?_|refine cP (gg _) ?_|refine dJ My ?_|refine AW.i64 Mo Mo ?_|exact rr|refine And.intro rfl ?_|refine AB.mk (λh=>?_) (λh=>?_))<;>conv=>whnf)
    refine aB.mk ⟨k+1,hlt,by omega,?_,ak.cons (congrArg some (congrArg (AO.row 228 5) (by rw[hs,List.map_append];rfl))) ak.nil⟩
    exact hds
   |false=>
    rw[hb]at hs
    repeat'((first|refine aw0 ?_|refine awx ?_|refine AIx.map hlt ?_|refine cP (gg _) ?_|refine AW.i64 Mo Mo ?_|exact rr|refine And.intro rfl ?_|refine AB.mk (λh=>?_) (λh=>?_))<;>conv=>whnf)
    refine aB.mk ⟨k+1,hlt,by omega,?_,ak.cons (congrArg some (congrArg (AO.row 228 5) (by rw[hs];simp))) ak.nil⟩
    exact hds
  ·have hc:decide ((k:Int)<((l.map DJob.ds).length:Int))=false:=by simp;omega
   have e:l.take k=l:=List.take_of_length_le Mo
   rw[e]
   repeat'((first|refine aw0 ?_|refine awx ?_|exact rr|refine And.intro rfl ?_|refine AB.mk (λh=>?_) (λh=>?_))<;>conv=>whnf)
def kk(s:DStore):List Int:=[s.state.index,s.state.time,s.state.pairs.length,(s.state.jobs.filter cz).length,(s.state.jobs.filter eh).length,s.last,s.busy]
theorem EE(s:DStore):aj av 172 [.agg s.ds] (.val (pI (s.state.index))):=by
 refine ae ah func172 rfl call172 ntmps172 (MC results172) λS=>?_;conv=>whnf
 repeat'((first|refine aw0 ?_|refine awx ?_|exact rr|refine And.intro rfl ?_|refine AB.mk (λh=>?_) (λh=>?_))<;>conv=>whnf)
 all_goals simp
theorem EF(s:DStore):aj av 173 [.agg s.ds] (.val (pI (s.state.time))):=by
 refine ae ah func173 rfl call173 ntmps173 (MC results173) λS=>?_;conv=>whnf
 repeat'((first|refine aw0 ?_|refine awx ?_|exact rr|refine And.intro rfl ?_|refine AB.mk (λh=>?_) (λh=>?_))<;>conv=>whnf)
 all_goals simp
theorem EG(s:DStore):aj av 174 [.agg s.ds] (.val (pI (s.state.pairs.length))):=by
 refine ae ah func174 rfl call174 ntmps174 (MC results174) λS=>?_;conv=>whnf
 repeat'((first|refine aw0 ?_|refine awx ?_|exact rr|refine And.intro rfl ?_|refine AB.mk (λh=>?_) (λh=>?_))<;>conv=>whnf)
 all_goals simp
theorem EJ(s:DStore):aj av 180 [.agg s.ds] (.val (pI (s.last))):=by
 refine ae ah func180 rfl call180 ntmps180 (MC results180) λS=>?_;conv=>whnf
 repeat'((first|refine aw0 ?_|refine awx ?_|exact rr|refine And.intro rfl ?_|refine AB.mk (λh=>?_) (λh=>?_))<;>conv=>whnf)
 all_goals simp
theorem EK(s:DStore):aj av 181 [.agg s.ds] (.val (pI (s.busy))):=by
 refine ae ah func181 rfl call181 ntmps181 (MC results181) λS=>?_;conv=>whnf
 repeat'((first|refine aw0 ?_|refine awx ?_|exact rr|refine And.intro rfl ?_|refine AB.mk (λh=>?_) (λh=>?_))<;>conv=>whnf)
 all_goals simp
theorem EH(s:DStore)(h8:s.state.jobs.length<=8):aj av 175 [.agg s.ds] (.val (pI ((s.state.jobs.filter cz).length:Int))):=by
 refine ae ah func175 rfl call175 ntmps175 (MC results175) λS=>?_;conv=>whnf
 repeat'((first|refine aw0 ?_|refine awx ?_|refine cP (nT s.state.jobs h8) ?_|exact rr|refine And.intro rfl ?_|refine AB.mk (λh=>?_) (λh=>?_))<;>conv=>whnf)
 all_goals simp
theorem EI(s:DStore)(h8:s.state.jobs.length<=8):aj av 178 [.agg s.ds] (.val (pI ((s.state.jobs.filter eh).length:Int))):=by
 refine ae ah func178 rfl call178 ntmps178 (MC results178) λS=>?_;conv=>whnf
 repeat'((first|refine aw0 ?_|refine awx ?_|refine cP (kw s.state.jobs h8) ?_|exact rr|refine And.intro rfl ?_|refine AB.mk (λh=>?_) (λh=>?_))<;>conv=>whnf)
 all_goals simp
theorem Bu(s:DStore)(h8:s.state.jobs.length<=8):bC av 171 [.agg s.ds,.one (.sl [pF 172,pF 173,pF 174,pF 175,pF 178,pF 180,pF 181])] (.one (.sl ((kk s).map eI))):=by
 refine aE ah func171 rfl call171 ntmps171 (MC results171) λS=>?_;conv=>whnf
 repeat'((first|refine aw0 ?_|refine awx ?_|exact rr|refine And.intro rfl ?_|refine AB.mk (λh=>?_) (λh=>?_))<;>conv=>whnf)
 refine AWP.unroll 8 ?_
 conv=>whnf
 repeat'((first|refine aw0 ?_|refine awx ?_|refine AIx.at 0 _ rfl rfl ?_|refine AIx.at 1 _ rfl rfl ?_|refine AIx.at 2 _ rfl rfl ?_|refine AIx.at 3 _ rfl rfl ?_|refine AIx.at 4 _ rfl rfl ?_|refine AIx.at 5 _ rfl rfl ?_|refine AIx.at 6 _ rfl rfl ?_|refine cP (EE s) ?_|refine cP (EF s) ?_|refine cP (EG s) ?_|refine cP (EH s h8) ?_|refine cP (EI s h8) ?_|refine cP (EJ s) ?_|refine cP (EK s) ?_|refine AW.i64 Mq Mq ?_|refine And.intro Mq ?_|refine And.intro Mr ?_|exact rr|refine And.intro rfl ?_|refine AB.mk (λh=>?_) (λh=>?_))<;>conv=>whnf)
 exact⟨_,_,(kk s).map eI,Nat.le_refl _,Fam.blank (lo:=S.w0.heap.size) (hi:=S.w0.heap.size) rfl,rfl,(λy hy=>by obtain⟨a,_,rfl⟩:=List.mem_map.1 hy;rfl),rfl⟩
theorem uH{w:DWorld}(h:ay w=true)(h1:br w 1=true):bo w.store.state.jobs=true:=by
 have:=rA h h1
 simp only[dH,bH,Bool.and_eq_true]at this
 exact this.1.1.1.1.2.1.1.2
theorem q9{l:List DJob}(h:bo l=true):∀k,k<=l.length->(hP (l.take k)).length=((l.take k).filter cz).length
 |0,_=>rfl
 |k+1,hk=>by
  have ih:=q9 h k Mo
  have hb:0<=(l[k]'(by omega)).fired:=by
   simp only[bo,Bool.and_eq_true,List.all_eq_true]at h
   have:=h.1.1.2 _ (List.getElem_mem (show k<l.length by omega))
   simp only[g5,ai,Bool.and_eq_true,decide_eq_true_eq]at this
   omega
  rw[oH l Mo,jI cz (show k<l.length by omega)]
  by_cases hf:(l[k]'(by omega)).fired>0
  ·have:cz (l[k]'(by omega))=false:=by simp[cz];omega
   rw[if_pos hf,this]
   simpa using ih
  ·have:cz (l[k]'(by omega))=true:=by simp[cz];omega
   rw[if_neg hf,this,wc]
   simp[ih]
theorem Dd{l:List DJob}(h:bo l=true):(hP l).length=(l.filter cz).length:=by
 have:=q9 h l.length (Nat.le_refl _)
 rwa[List.take_length]at this
theorem Fa(l:List DJob):(l.filter cz).length+(l.filter eh).length=l.length:=by
 induction l with
 |nil=>rfl
 |cons a r ih=>
  cases h:cz a with
  |true=>
   have h2:eh a=false:=by simp[cz,eh]at*;exact h
   simp[h,h2];omega
  |false=>
   have h2:eh a=true:=by simp[cz,eh]at*;exact h
   simp[h,h2];omega
def aH(w:DWorld):List Int:=if ay w&&br w 1 then kk w.store else []
theorem my(w:DWorld)(hs:DWorld.small 1048576 w):bC av 91 [.agg w.ds] (.one (.sl ((aH w).map eI))):=by
 cases h:(ay w&&br w 1)with
 |false=>
  have hn:(!(ay w&&br w 1))=true:=by rw[h];rfl
  have e:aH w=[]:=by simp[aH,h]
  rw[e]
  refine aE ah func91 rfl call91 ntmps91 (MC results91) λS=>?_;conv=>whnf
  repeat'((first|refine aw0 ?_|refine awx ?_|refine cP (bE w 1 Mq hs) ?_|exact rr|refine And.intro rfl ?_|refine AB.mk (λh=>?_) (λh=>?_))<;>conv=>whnf)
  all_goals rfl
 |true=>
  have hn:(!(ay w&&br w 1))=false:=by rw[h];rfl
  have e:aH w=kk w.store:=by simp[aH,h]
  rw[e]
  rw[Bool.and_eq_true]at h
  have h8:=Bf (uH h.1 h.2)
  refine aE ah func91 rfl call91 ntmps91 (MC results91) λS=>?_;conv=>whnf
  repeat'((first|refine aw0 ?_|refine awx ?_|refine cP (bE w 1 Mq hs) ?_|exact rr|refine And.intro rfl ?_|refine AB.mk (λh=>?_) (λh=>?_))<;>conv=>whnf)
  refine aa.fresh (Bu w.store h8) rfl rfl λR lo hi a b F=>?_
  conv=>whnf
  repeat'((first|refine aw0 ?_|refine awx ?_|exact rr|refine And.intro rfl ?_|refine AB.mk (λh=>?_) (λh=>?_))<;>conv=>whnf)
  exact⟨lo,hi,_,a,F,rfl⟩
theorem mI(w:DWorld)(hs:DWorld.small 1048576 w):aj av 18 [.agg w.ds] (.val (.one (.sl ((aH w).map eI)))):=by
 cases hw:ay w with
 |false=>
  have hn:(!ay w)=true:=by rw[hw];rfl
  have e:aH w=[]:=by simp[aH,hw]
  rw[e]
  refine ae ah func18 rfl call18 ntmps18 (MC results18) λS=>?_;conv=>whnf
  repeat'((first|refine aw0 ?_|refine awx ?_|refine cP (aF w hs) ?_|exact rr|refine And.intro rfl ?_|refine AB.mk (λh=>?_) (λh=>?_))<;>conv=>whnf)
  all_goals rfl
 |true=>
  have hn:(!ay w)=false:=by rw[hw];rfl
  have h6:=p4 hw
  cases hu:br w 1 with
  |false=>
   have hn2:(!br w 1)=true:=by rw[hu];rfl
   have e:aH w=[]:=by simp[aH,hu]
   rw[e]
   refine ae ah func18 rfl call18 ntmps18 (MC results18) λS=>?_;conv=>whnf
   repeat'((first|refine aw0 ?_|refine awx ?_|refine cP (aF w hs) ?_|refine AIx.at 1 _ rfl (bI h6 Mq) ?_|exact rr|refine And.intro rfl ?_|refine AB.mk (λh=>?_) (λh=>?_))<;>conv=>whnf)
   all_goals rfl
  |true=>
   have hn2:(!br w 1)=false:=by rw[hu];rfl
   have hj:=uH hw hu
   have h8:=Bf hj
   have hc:=Dd hj
   have hd:=Fa w.store.state.jobs
   have ho:((hP w.store.state.jobs).map DDue.ds).length<=8:=by simp;omega
   have e:aH w=kk w.store:=by simp[aH,hw,hu]
   rw[e]
   refine ae ah func18 rfl call18 ntmps18 (MC results18) λS=>?_;conv=>whnf
   repeat'((first|refine aw0 ?_|refine awx ?_|refine cP (aF w hs) ?_|refine AIx.at 1 _ rfl (bI h6 Mq) ?_|refine cP (rm w.store.state.jobs hj) ?_|refine AW.i64 (by simp only[List.length_map]at*;omega) (by simp only[List.length_map]at*;omega) ?_|exact rr|refine And.intro rfl ?_|refine AB.mk (λh=>?_) (λh=>?_))<;>conv=>whnf)
   have e1:((w.store.state.jobs.map DJob.ds).length:Int)-(((hP w.store.state.jobs).map DDue.ds).length:Int)=(w.store.state.jobs.filter eh).length:=by simp only[List.length_map];omega
   have e2:(((hP w.store.state.jobs).map DDue.ds).length:Int)=(w.store.state.jobs.filter cz).length:=by simp only[List.length_map];omega
   rw[e1,e2,List.length_map]
   rfl
end Go.Proofs.YtehobfglmeiglaaGreatDoor
