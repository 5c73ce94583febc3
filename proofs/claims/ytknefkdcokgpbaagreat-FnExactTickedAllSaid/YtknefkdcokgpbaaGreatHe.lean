/- He -/
import Derived.Test.YtknefkdcokgpbaaGreatWCp
import Derived.Test.YtknefkdcokgpbaaGreatAvFX
import Derived.Test.YtknefkdcokgpbaaGreatWC2
import Derived.Test.YtknefkdcokgpbaaGreatWOw
import Derived.Test.YtknefkdcokgpbaaGreatRB1
import Derived.Test.YtknefkdcokgpbaaGreatIW1
import Derived.Test.YtknefkdcokgpbaaGreatAvVC
import Derived.Test.YtknefkdcokgpbaaGreatWB3
import Derived.Test.YtknefkdcokgpbaaGreatMkA
import Derived.Test.YtknefkdcokgpbaaGreatAvFO
import Derived.Test.YtknefkdcokgpbaaGreatRA3
import Derived.Test.YtknefkdcokgpbaaGreatWB7
import Derived.Test.YtknefkdcokgpbaaGreatWA4
import Derived.Test.YtknefkdcokgpbaaGreatWData
set_option maxHeartbeats 8000000
set_option linter.unusedVariables false
set_option linter.unusedSimpArgs false
set_option maxRecDepth 100000
open List (length_map take_length)
namespace Go.Proofs.YtknefkdcokgpbaaGreat
open Go.ChangeShapes Go.WideShapes Go.RowKit
def My:DSched:=⟨0,0,⟨⟨0,0,0,0,0,[]⟩⟩,false,⟨0,0,0,0,0⟩,0⟩
def H0:DClient:=⟨0,[],[],0⟩
def tK:DWorld:=⟨⟨⟨⟨[],[]⟩,⟨[],[]⟩⟩,⟨0,0,0,[]⟩,⟨0,0,0,[]⟩,false,⟨0,0,[]⟩,[],0,[]⟩,⟨⟨[],[]⟩,⟨0,0,[],[],⟨0,0,0⟩⟩,0,0,0⟩,My,My,H0,H0,⟨[],[]⟩,[],[]⟩
theorem H1:Ym 1048576 tK:=by
 simp[tK,My,H0,Ym,Yq,Yv,Yr,Ys,Yz,YA,Yp,Yo,Yx,Yt,YC,YE]
theorem Pb:tK.ds.all AD.isBl=true:=rfl
open Go.Proofs.Tryz
theorem yc(xs ys:List Int)(h:xs.length+ys.length<=1048576):d5 av 488 [.one (.ref 1000 0 0 0),.one (.own 1002)] [(1000,.cells 466 [.own 1001,.d (dI 0)]),(1001,.row 2 1 (xs.map eI)),(1002,.row 2 1 (ys.map eI))] [(1000,.cells 466 [.own 1001,.d (dI 0)]),(1001,.row 2 1 ((xs++ys).map eI)),(1002,.row 2 1 (ys.map eI))] [1000] (.tup []):=by
 refine cR aN func488 rfl call488 ntmps488 (aaK results488) rfl λS pv=>?_;conv=>whnf
 repeat'(first|refine awz ?_|(refine aJ am ?_;conv=>whnf)|fail)
 all_goals(rw[List.map_append];first|exact whd|exact⟨trivial,whd⟩|exact⟨rfl,whd⟩|trace_state)
theorem I7(xs:List Int)(l:List DPair)(h:xs.length+10+5*l.length<=1048576):d5 av 489 [.one (.ref 1000 0 0 0),.one (.d (.sl (l.map DPair.ds)))] [(1000,.cells 466 [.own 1001,.d (dI 0)]),(1001,.row 2 1 (xs.map eI))] [(1000,.cells 466 [.own 1001,.d (dI 0)]),(1001,.row 2 1 ((xs++jk l).map eI))] [1000] (.tup []):=by
 have hl0:(ik l 0).length=1:=by simp[ik]
 have E0:((xs++[((l.map DPair.ds).length:Int)]).map eI)=((xs++ik l 0).map eI):=by simp[ik]
 refine cR aN func489 rfl call489 ntmps489 (aaK results489) rfl λS pv=>?_;conv=>whnf
 repeat'(first|refine awz ?_|(refine Yb (yc xs [((l.map DPair.ds).length:Int)] al) [(1000,1000),(1001,1001),(1002,9)] rfl rfl ?_;conv=>whnf)|fail)
 refine X5 (λk:Nat=>k<=l.length) (10::[5,13,14,15,16,17,18,19,20,21,22,23,24]) (λk=>[(13,vI .i64 (k:Int))]) (λk=>[(9999,.frame (gT [1000]) pv),(1000,.cells 466 [.own 1001,.d (dI 0)]),(1001,.row 2 1 ((xs++ik l k).map eI))]) (λk=>l.length-k) 0 (Nat.zero_le _) ?_ (X0 rfl (X0 rfl (X0 (congrArg some (congrArg (AO.row 2 1) E0)) X4))) (λk hk=>?_)<;>(conv=>whnf)
 ·exact whd
 ·have htl:=CH l k;by_cases hlt:k<l.length
  ·have hc:decide ((k:Int)<((l.map DPair.ds).length:Int))=true:=by simp only[decide_eq_true_eq,List.length_map];omega
   have hs:=zj hlt;have E2:((xs++ik l k++(λp:DPair=>[p.key,p.value]) l[k]).map eI)=((xs++ik l (k+1)).map eI):=by simp only[List.map_append,hs,List.append_assoc]
   repeat'((first|refine awz ?_|refine Yg hlt ?_|refine Yb (yc (xs++ik l k) ((λp:DPair=>[p.key,p.value]) l[k]) al) [(1000,1000),(1001,1001),(1002,22)] rfl rfl ?_|refine X3 ac ac ?_|fail)<;>conv=>whnf)
   refine bd.mk ⟨k+1,hlt,ac,?_,X0 rfl (X0 rfl (X0 (congrArg some (congrArg (AO.row 2 1) E2)) X4))⟩;exact hds
  ·have e:k=l.length:=ac;subst e;have hc:decide ((l.length:Int)<((l.map DPair.ds).length:Int))=false:=aj;have et:ik l l.length=jk l:=by simp[ik,jk]
   rw[et];repeat'(first|refine awz ?_|exact rZ|fail)
   all_goals(first|exact whd|exact⟨trivial,whd⟩|exact⟨rfl,whd⟩|trace_state)
theorem LO(xs:List Int)(l:List DJob)(h:xs.length+10+5*l.length<=1048576):d5 av 490 [.one (.ref 1000 0 0 0),.one (.d (.sl (l.map DJob.ds)))] [(1000,.cells 466 [.own 1001,.d (dI 0)]),(1001,.row 2 1 (xs.map eI))] [(1000,.cells 466 [.own 1001,.d (dI 0)]),(1001,.row 2 1 ((xs++m9 l).map eI))] [1000] (.tup []):=by
 have hl0:(kr l 0).length=1:=by simp[kr]
 have E0:((xs++[((l.map DJob.ds).length:Int)]).map eI)=((xs++kr l 0).map eI):=by simp[kr]
 refine cR aN func490 rfl call490 ntmps490 (aaK results490) rfl λS pv=>?_;conv=>whnf
 repeat'(first|refine awz ?_|(refine Yb (yc xs [((l.map DJob.ds).length:Int)] al) [(1000,1000),(1001,1001),(1002,9)] rfl rfl ?_;conv=>whnf)|fail)
 refine X5 (λk:Nat=>k<=l.length) (10::[5,13,14,15,16,17,18,19,20,21,22,23,24,25,26,27,28,29,30]) (λk=>[(13,vI .i64 (k:Int))]) (λk=>[(9999,.frame (gT [1000]) pv),(1000,.cells 466 [.own 1001,.d (dI 0)]),(1001,.row 2 1 ((xs++kr l k).map eI))]) (λk=>l.length-k) 0 (Nat.zero_le _) ?_ (X0 rfl (X0 rfl (X0 (congrArg some (congrArg (AO.row 2 1) E0)) X4))) (λk hk=>?_)<;>(conv=>whnf)
 ·exact whd
 ·have htl:=Fa l k;by_cases hlt:k<l.length
  ·have hc:decide ((k:Int)<((l.map DJob.ds).length:Int))=true:=by simp only[decide_eq_true_eq,List.length_map];omega
   have hs:=Ce hlt;have E2:((xs++kr l k++(λp:DJob=>[p.id,p.due,p.key,p.value,p.fired]) l[k]).map eI)=((xs++kr l (k+1)).map eI):=by simp only[List.map_append,hs,List.append_assoc]
   repeat'((first|refine awz ?_|refine Yg hlt ?_|refine Yb (yc (xs++kr l k) ((λp:DJob=>[p.id,p.due,p.key,p.value,p.fired]) l[k]) al) [(1000,1000),(1001,1001),(1002,28)] rfl rfl ?_|refine X3 ac ac ?_|fail)<;>conv=>whnf)
   refine bd.mk ⟨k+1,hlt,ac,?_,X0 rfl (X0 rfl (X0 (congrArg some (congrArg (AO.row 2 1) E2)) X4))⟩;exact hds
  ·have e:k=l.length:=ac;subst e;have hc:decide ((l.length:Int)<((l.map DJob.ds).length:Int))=false:=aj;have et:kr l l.length=m9 l:=by simp[kr,m9]
   rw[et];repeat'(first|refine awz ?_|exact rZ|fail)
   all_goals(first|exact whd|exact⟨trivial,whd⟩|exact⟨rfl,whd⟩|trace_state)
theorem zM(s:DState)(h:cn s=true):aM av 478 [.agg s.ds] (.val (.one (.sl ((bH s).map eI)))):=by
 obtain⟨h1,h2,h3,h4,h5⟩:=dm h;have hp:=jY h3;have hj:=Cf h4;have lp:(jk s.pairs).length=1+2*s.pairs.length:=by simp only[jk,List.length_cons,np];omega
 have lj:(m9 s.jobs).length=1+5*s.jobs.length:=by simp only[m9,List.length_cons,oC];omega
 have so:=ig s ac;rw[h]at so;have e:bH s=(([]++[s.index,s.time]++jk s.pairs)++m9 s.jobs)++[s.lease.holder,s.lease.epoch,s.lease.til]:=by simp[bH]
 rw[e];refine pO func478 call478 ntmps478 results478 λS=>?_;conv=>whnf
 repeat'((first|(refine YG 8 0 950 2 1 ah ?_;refine And.intro rfl ?_)|refine awz ?_|refine cP (so) ?_|refine Yb (yc [] [s.index,s.time] aj) [(1000,8),(1001,950),(1002,14)] rfl rfl ?_|refine Yb (I7 ([]++[s.index,s.time]) s.pairs al) [(1000,8),(1001,950)] rfl rfl ?_|refine Yb (LO ([]++[s.index,s.time]++jk s.pairs) s.jobs al) [(1000,8),(1001,950)] rfl rfl ?_|refine Yb (yc (([]++[s.index,s.time]++jk s.pairs)++m9 s.jobs) [s.lease.holder,s.lease.epoch,s.lease.til] al) [(1000,8),(1001,950),(1002,34)] rfl rfl ?_|exact rZ|fail)<;>conv=>whnf)
theorem lu(l:(List Int))(P:Nat->Prop)(w:World)(k:Int)(v:Value)(h:bW w P (.sl (l.map eI)) v)(h0:0<=k)(hk:k+aT cI l<=1000000000000):
  Calls Tryz.prog 41 #[v,.int .i64 k] w (j6 (k+aT cI l) P w λw'=>bW w' P (.sl ((mkL mI cI k l).map eI)) v):=by
 obtain⟨A,cap,rfl,hcl,hcm⟩:=h.form;rw[length_map]at hcl h⊢;unfold maxLen at hcm;have hcn:=bC (cnt:=cI) gN l;go_enter Tryz.func41,Tryz.ntmps41
 go_wp2
 go_loopw [1,5] (λc i wr=>∃(j:Nat) (q:Int),j<=l.length/\i= .int .i64 j/\c= .int .i64 q/\Hid (q=k+aT cI (l.take j))/\bW wr P (.sl ((mkP mI cI k j l).map eI)) (.slice A l.length cap)/\du P w wr) (λ_ i _=>l.length-(intOf i).toNat)
 case atStart=>exact⟨0,k,Nat.zero_le _,rfl,rfl,by simp[Hid,aT],by rw[go];exact h,du.refl _ _⟩
 case round=>
  obtain⟨j,q,hj,rfl,rfl,hq,hres,ht⟩:=hrel;by_cases hlt:j<l.length
  ·have hc1:=hcn (j+1);rw[bh hlt]at hc1;have hc0:0<=aT cI (l.take j):=aQ gN _;have hn:=gN l[j];have hq1:0<=q:=by have:=hq.out;omega
   have hq2:q+cI l[j]<=1000000000000:=by have:=hq.out;omega
   have hq3:q+1<=1000000000000:=hq2;clear hc1 hc0 hcn hn;obtain⟨b,off,cap1,us,Q,e1,hPb,hQP,hel,hclose⟩:=hres.lens (kz eI k hlt);have e2:A=some ⟨b,off,none⟩:=by injection e1
   subst e2;clear e1;have hone:off+j*(eI l[j]).length=off+j:=by show off+j*1=_;rw[Nat.mul_one]
   rw[hone]at hel hclose;obtain⟨u0,us0,e0,hl0⟩:=bE (n:=0) hel.len;subst e0;obtain rfl:=iH hl0;clear hl0;have hel:El wr b (off+j) 1 Q wr (eI l[j]) [u0]:=hel;have c0:wr.cell? ⟨b,off+j,none⟩=some (u0):=hel.cell 0 _ rfl;have f0:=hel.frozen (off+j);have HC:=Lib.hid hclose;clear hclose hres h;have hfin:=HC.out _ _ _ (hel.set (c:=0) ah (.int .i64 (q)) rfl);have htt:=ht.trans (((hel.set (c:=0) ah (.int .i64 (q)) rfl)).turn.mono (P':=P) (by rintro g (rfl|hg);exact hPb;exact hQP _ hg));have e1:=hq.out;have hq':Hid (q+1=k+aT cI (l.take (j+1))):=by
    unfold Hid;rw[bh hlt,e1];first|(unfold cI;omega)|omega
   have hm:bW _ P (.sl (((mkP mI cI k j l).map eI).set j (eI (mI q l[j])))) _:=hfin;rw[e1,gn eI k hlt]at hm;try rw[<-e1]at hm
   clear HC hq hfin e1;have HM:=Lib.hid hm;have HT:=Lib.hid htt;clear hm htt ht hel;go_wp2
   exact⟨⟨j+1,_,ac,by go_num,rfl,hq',HM.out,HT.out⟩,by simp[intOf];omega⟩
  ·have e:j=l.length:=ac;subst e;have H:j6 (k+aT cI l) P w (λw'=>bW w' P (.sl ((mkL mI cI k l).map eI)) (.slice A l.length cap)) (.returned (.int .i64 q)) wr:=by
    rw[iK]at hres;have e1:=hq.out;rw[take_length]at e1;exact⟨by rw[e1],ht,hres⟩
   clear hres ht h hcn;go_wp2
   go_ret
   exact H
theorem DL(l:(List Int))(k:Int)(h0:0<=k)(hk:k+aT cI l<=1000000000000):dF av 41 (.one (.sl (l.map eI))) k (.one (.sl ((mkL mI cI k l).map eI))) (k+aT cI l):=YI call41 λP w v h=>lu l P w k v h h0 hk
theorem Ci(l:(List (List Int)))(P:Nat->Prop)(w:World)(k:Int)(v:Value)(h:bW w P (.sl (l.map bM)) v)(h0:0<=k)(hk:k+aT bj l<=1000000000000):
  Calls Tryz.prog 200 #[v,.int .i64 k] w (j6 (k+aT bj l) P w λw'=>bW w' P (.sl ((mkL gm bj k l).map bM)) v):=by
 obtain⟨A,cap,rfl,hcl,hcm⟩:=h.form;rw[length_map]at hcl h⊢;unfold maxLen at hcm;have hcn:=bC (cnt:=bj) fu l;go_enter Tryz.func200,Tryz.ntmps200
 go_wp2
 go_loopw [1,5] (λc i wr=>∃(j:Nat) (q:Int),j<=l.length/\i= .int .i64 j/\c= .int .i64 q/\Hid (q=k+aT bj (l.take j))/\bW wr P (.sl ((mkP gm bj k j l).map bM)) (.slice A l.length cap)/\du P w wr) (λ_ i _=>l.length-(intOf i).toNat)
 case atStart=>exact⟨0,k,Nat.zero_le _,rfl,rfl,by simp[Hid,aT],by rw[go];exact h,du.refl _ _⟩
 case round=>
  obtain⟨j,q,hj,rfl,rfl,hq,hres,ht⟩:=hrel;by_cases hlt:j<l.length
  ·have hc1:=hcn (j+1);rw[bh hlt]at hc1;have hc0:0<=aT bj (l.take j):=aQ fu _;have hn:=fu l[j];have hq1:0<=q:=by have:=hq.out;omega
   have hq2:q+bj l[j]<=1000000000000:=by have:=hq.out;omega
   have hi0:=aQ gN l[j];have hq3:q+aT cI l[j]<=1000000000000:=by unfold bj at hq2;omega
   clear hc1 hc0 hcn hn;obtain⟨b,off,cap1,us,Q,e1,hPb,hQP,hel,hclose⟩:=hres.lens (kz bM k hlt);have e2:A=some ⟨b,off,none⟩:=by injection e1
   subst e2;clear e1;have hone:off+j*(bM l[j]).length=off+j:=by show off+j*1=_;rw[Nat.mul_one]
   rw[hone]at hel hclose;obtain⟨u0,us0,e0,hl0⟩:=bE (n:=0) hel.len;subst e0;obtain rfl:=iH hl0;clear hl0;have hel:El wr b (off+j) 1 Q wr (bM l[j]) [u0]:=hel;obtain⟨A0,cap0,rfl,_,_⟩:=bW.form (xs:=l[j].map eI) (hel.fam.get (i:=0) rfl rfl);rw[length_map]at hel;have c0:wr.cell? ⟨b,off+j,none⟩=some (.slice A0 l[j].length cap0):=hel.cell 0 _ rfl;have f0:=hel.frozen (off+j);have HC:=Lib.hid hclose;clear hclose hres h;have he0:=hel;obtain⟨Q0,hQ0,hr0,hcl0⟩:=he0.sub (c:=0) rfl rfl;have HL0:=Lib.hid hcl0;clear hcl0 hel;go_wp2_with fail
   refine(lu l[j] Q0 _ (q) _ hr0 ac ac).mono ?_;rintro e W0 ⟨rfl,t0,g0⟩;have hf0:=HL0.out W0 _ t0 g0;clear HL0 hr0;have hfin:=HC.out _ _ _ hf0;have htt:=ht.trans ((hf0).turn.mono (P':=P) (by rintro g (rfl|hg);exact hPb;exact hQP _ hg));have e1:=hq.out;have hq':Hid (q+aT cI l[j]=k+aT bj (l.take (j+1))):=by
    unfold Hid;rw[bh hlt,e1];first|(unfold bj;omega)|omega
   have hm:bW _ P (.sl (((mkP gm bj k j l).map bM).set j (bM (gm q l[j])))) _:=hfin;rw[e1,gn bM k hlt]at hm;try rw[<-e1]at hm
   clear HC hq e1 hfin hf0 t0 g0 he0 c0 f0;have HM:=Lib.hid hm;have HT:=Lib.hid htt;clear hm htt ht;go_wp2_with fail
   exact⟨⟨j+1,_,ac,by go_num,rfl,hq',HM.out,HT.out⟩,by simp[intOf];omega⟩
  ·have e:j=l.length:=ac;subst e;have H:j6 (k+aT bj l) P w (λw'=>bW w' P (.sl ((mkL gm bj k l).map bM)) (.slice A l.length cap)) (.returned (.int .i64 q)) wr:=by
    rw[iK]at hres;have e1:=hq.out;rw[take_length]at e1;exact⟨by rw[e1],ht,hres⟩
   clear hres ht h hcn;go_wp2
   go_ret
   exact H
theorem Cj(l:(List (List Int)))(k:Int)(h0:0<=k)(hk:k+aT bj l<=1000000000000):dF av 200 (.one (.sl (l.map bM))) k (.one (.sl ((mkL gm bj k l).map bM))) (k+aT bj l):=YI call200 λP w v h=>Ci l P w k v h h0 hk
theorem DM(l:(List DWrite))(P:Nat->Prop)(w:World)(k:Int)(v:Value)(h:bW w P (.sl (l.map DWrite.ds)) v)(h0:0<=k)(hk:k+aT bp l<=1000000000000):
  Calls Tryz.prog 201 #[v,.int .i64 k] w (j6 (k+aT bp l) P w λw'=>bW w' P (.sl ((mkL gQ bp k l).map DWrite.ds)) v):=by
 obtain⟨A,cap,rfl,hcl,hcm⟩:=h.form;rw[length_map]at hcl h⊢;unfold maxLen at hcm;have hcn:=bC (cnt:=bp) ft l;go_enter Tryz.func201,Tryz.ntmps201
 go_wp2
 go_loopw [1,5] (λc i wr=>∃(j:Nat) (q:Int),j<=l.length/\i= .int .i64 j/\c= .int .i64 q/\Hid (q=k+aT bp (l.take j))/\bW wr P (.sl ((mkP gQ bp k j l).map DWrite.ds)) (.slice A l.length cap)/\du P w wr) (λ_ i _=>l.length-(intOf i).toNat)
 case atStart=>exact⟨0,k,Nat.zero_le _,rfl,rfl,by simp[Hid,aT],by rw[go];exact h,du.refl _ _⟩
 case round=>
  obtain⟨j,q,hj,rfl,rfl,hq,hres,ht⟩:=hrel;by_cases hlt:j<l.length
  ·have hc1:=hcn (j+1);rw[bh hlt]at hc1;have hc0:0<=aT bp (l.take j):=aQ ft _;have hn:=ft l[j];have hq1:0<=q:=by have:=hq.out;omega
   have hq2:q+bp l[j]<=1000000000000:=by have:=hq.out;omega
   have hi0:=aQ gN l[j].row;have hq3:q+1+aT cI l[j].row<=1000000000000:=by unfold bp at hq2;omega
   clear hc1 hc0 hcn hn;obtain⟨b,off,cap1,us,Q,e1,hPb,hQP,hel,hclose⟩:=hres.lens (kz DWrite.ds k hlt);have e2:A=some ⟨b,off,none⟩:=by injection e1
   subst e2;clear e1;obtain⟨u0,us0,e0,hl0⟩:=bE (n:=1) hel.len;subst e0;obtain⟨u1,us1,e0,hl1⟩:=bE (n:=0) hl0;subst e0;obtain rfl:=iH hl1;clear hl1;have hel:El wr b (off+j*2) 2 Q wr (DWrite.ds l[j]) [u0,u1]:=hel;obtain⟨A1,cap1,rfl,_,_⟩:=bW.form (xs:=l[j].row.map eI) (hel.fam.get (i:=1) rfl rfl);rw[length_map]at hel;have c0:wr.cell? ⟨b,off+j*2,none⟩=some (u0):=hel.cell 0 _ rfl;have f0:=hel.frozen (off+j*2);have c1:wr.cell? ⟨b,off+j*2+1,none⟩=some (.slice A1 l[j].row.length cap1):=hel.cell 1 _ rfl;have f1:=hel.frozen (off+j*2+1);have HC:=Lib.hid hclose;clear hclose hres h;have he1:=(hel.set (c:=0) ah (.int .i64 (q)) rfl);obtain⟨Q1,hQ1,hr1,hcl1⟩:=he1.sub (c:=1) rfl rfl;have HL1:=Lib.hid hcl1;clear hcl1 hel;go_wp2_with fail
   refine(lu l[j].row Q1 _ (q+1) _ hr1 ac ac).mono ?_;rintro e W1 ⟨rfl,t1,g1⟩;have hf1:=HL1.out W1 _ t1 g1;clear HL1 hr1;have hfin:=HC.out _ _ _ hf1;have htt:=ht.trans ((hf1).turn.mono (P':=P) (by rintro g (rfl|hg);exact hPb;exact hQP _ hg));have e1:=hq.out;have hq':Hid (q+1+aT cI l[j].row=k+aT bp (l.take (j+1))):=by
    unfold Hid;rw[bh hlt,e1];first|(unfold bp;omega)|omega
   have hm:bW _ P (.sl (((mkP gQ bp k j l).map DWrite.ds).set j (DWrite.ds (gQ q l[j])))) _:=hfin;rw[e1,gn DWrite.ds k hlt]at hm;try rw[<-e1]at hm
   clear HC hq e1 hfin hf1 t1 g1 he1 c0 f0 c1 f1;have HM:=Lib.hid hm;have HT:=Lib.hid htt;clear hm htt ht;go_wp2_with fail
   exact⟨⟨j+1,_,ac,by go_num,rfl,hq',HM.out,HT.out⟩,by simp[intOf];omega⟩
  ·have e:j=l.length:=ac;subst e;have H:j6 (k+aT bp l) P w (λw'=>bW w' P (.sl ((mkL gQ bp k l).map DWrite.ds)) (.slice A l.length cap)) (.returned (.int .i64 q)) wr:=by
    rw[iK]at hres;have e1:=hq.out;rw[take_length]at e1;exact⟨by rw[e1],ht,hres⟩
   clear hres ht h hcn;go_wp2
   go_ret
   exact H
theorem DN(l:(List DWrite))(k:Int)(h0:0<=k)(hk:k+aT bp l<=1000000000000):dF av 201 (.one (.sl (l.map DWrite.ds))) k (.one (.sl ((mkL gQ bp k l).map DWrite.ds))) (k+aT bp l):=YI call201 λP w v h=>DM l P w k v h h0 hk
theorem Jr(l:(List DMsg))(P:Nat->Prop)(w:World)(k:Int)(v:Value)(h:bW w P (.sl (l.map DMsg.ds)) v)(h0:0<=k)(hk:k+aT bO l<=1000000000000):
  Calls Tryz.prog 111 #[v,.int .i64 k] w (j6 (k+aT bO l) P w λw'=>bW w' P (.sl ((mkL kx bO k l).map DMsg.ds)) v):=by
 obtain⟨A,cap,rfl,hcl,hcm⟩:=h.form;rw[length_map]at hcl h⊢;unfold maxLen at hcm;have hcn:=bC (cnt:=bO) ic l;go_enter Tryz.func111,Tryz.ntmps111
 go_wp2
 go_loopw [1,5] (λc i wr=>∃(j:Nat) (q:Int),j<=l.length/\i= .int .i64 j/\c= .int .i64 q/\Hid (q=k+aT bO (l.take j))/\bW wr P (.sl ((mkP kx bO k j l).map DMsg.ds)) (.slice A l.length cap)/\du P w wr) (λ_ i _=>l.length-(intOf i).toNat)
 case atStart=>exact⟨0,k,Nat.zero_le _,rfl,rfl,by simp[Hid,aT],by rw[go];exact h,du.refl _ _⟩
 case round=>
  obtain⟨j,q,hj,rfl,rfl,hq,hres,ht⟩:=hrel;by_cases hlt:j<l.length
  ·have hc1:=hcn (j+1);rw[bh hlt]at hc1;have hc0:0<=aT bO (l.take j):=aQ ic _;have hn:=ic l[j];have hq1:0<=q:=by have:=hq.out;omega
   have hq2:q+bO l[j]<=1000000000000:=by have:=hq.out;omega
   have hi0:=aQ gN l[j].row;have hq3:q+2+aT cI l[j].row<=1000000000000:=by unfold bO at hq2;omega
   clear hc1 hc0 hcn hn;obtain⟨b,off,cap1,us,Q,e1,hPb,hQP,hel,hclose⟩:=hres.lens (kz DMsg.ds k hlt);have e2:A=some ⟨b,off,none⟩:=by injection e1
   subst e2;clear e1;obtain⟨u0,us0,e0,hl0⟩:=bE (n:=2) hel.len;subst e0;obtain⟨u1,us1,e0,hl1⟩:=bE (n:=1) hl0;subst e0;obtain⟨u2,us2,e0,hl2⟩:=bE (n:=0) hl1;subst e0;obtain rfl:=iH hl2;clear hl2;have hel:El wr b (off+j*3) 3 Q wr (DMsg.ds l[j]) [u0,u1,u2]:=hel;obtain⟨A2,cap2,rfl,_,_⟩:=bW.form (xs:=l[j].row.map eI) (hel.fam.get (i:=2) rfl rfl);rw[length_map]at hel;have c0:wr.cell? ⟨b,off+j*3,none⟩=some (u0):=hel.cell 0 _ rfl;have f0:=hel.frozen (off+j*3);have c1:wr.cell? ⟨b,off+j*3+1,none⟩=some (u1):=hel.cell 1 _ rfl;have f1:=hel.frozen (off+j*3+1);have c2:wr.cell? ⟨b,off+j*3+2,none⟩=some (.slice A2 l[j].row.length cap2):=hel.cell 2 _ rfl;have f2:=hel.frozen (off+j*3+2);have HC:=Lib.hid hclose;clear hclose hres h;have he2:=((hel.set (c:=0) ah (.int .i64 (q)) rfl).set (c:=1) ah (.int .i64 (q+1)) rfl);obtain⟨Q2,hQ2,hr2,hcl2⟩:=he2.sub (c:=2) rfl rfl;have HL2:=Lib.hid hcl2;clear hcl2 hel;go_wp2_with fail
   refine(lu l[j].row Q2 _ (q+1+1) _ hr2 ac ac).mono ?_;rintro e W2 ⟨rfl,t2,g2⟩;have hf2:=HL2.out W2 _ t2 g2;clear HL2 hr2;have hfin:=HC.out _ _ _ hf2;have htt:=ht.trans ((hf2).turn.mono (P':=P) (by rintro g (rfl|hg);exact hPb;exact hQP _ hg));have e1:=hq.out;have hq':Hid (q+1+1+aT cI l[j].row=k+aT bO (l.take (j+1))):=by
    unfold Hid;rw[bh hlt,e1];first|(unfold bO;omega)|omega
   have hm:bW _ P (.sl (((mkP kx bO k j l).map DMsg.ds).set j (DMsg.ds (kx q l[j])))) _:=hfin;rw[e1,gn DMsg.ds k hlt]at hm;try rw[<-e1]at hm
   clear HC hq e1 hfin hf2 t2 g2 he2 c0 f0 c1 f1 c2 f2;have HM:=Lib.hid hm;have HT:=Lib.hid htt;clear hm htt ht;go_wp2_with fail
   exact⟨⟨j+1,_,ac,by go_num,rfl,hq',HM.out,HT.out⟩,by simp[intOf];omega⟩
  ·have e:j=l.length:=ac;subst e;have H:j6 (k+aT bO l) P w (λw'=>bW w' P (.sl ((mkL kx bO k l).map DMsg.ds)) (.slice A l.length cap)) (.returned (.int .i64 q)) wr:=by
    rw[iK]at hres;have e1:=hq.out;rw[take_length]at e1;exact⟨by rw[e1],ht,hres⟩
   clear hres ht h hcn;go_wp2
   go_ret
   exact H
theorem Js(l:(List DMsg))(k:Int)(h0:0<=k)(hk:k+aT bO l<=1000000000000):dF av 111 (.one (.sl (l.map DMsg.ds))) k (.one (.sl ((mkL kx bO k l).map DMsg.ds))) (k+aT bO l):=YI call111 λP w v h=>Jr l P w k v h h0 hk
theorem Ha(l:(List Bool))(P:Nat->Prop)(w:World)(k:Int)(v:Value)(h:bW w P (.sl (l.map eB)) v)(h0:0<=k)(hk:k+aT cI l<=1000000000000):
  Calls Tryz.prog 42 #[v,.int .i64 k] w (j6 (k+aT cI l) P w λw'=>bW w' P (.sl ((mkL mB cI k l).map eB)) v):=by
 obtain⟨A,cap,rfl,hcl,hcm⟩:=h.form;rw[length_map]at hcl h⊢;unfold maxLen at hcm;have hcn:=bC (cnt:=cI) gN l;go_enter Tryz.func42,Tryz.ntmps42
 go_wp2
 go_loopw [1,5] (λc i wr=>∃(j:Nat) (q:Int),j<=l.length/\i= .int .i64 j/\c= .int .i64 q/\Hid (q=k+aT cI (l.take j))/\bW wr P (.sl ((mkP mB cI k j l).map eB)) (.slice A l.length cap)/\du P w wr) (λ_ i _=>l.length-(intOf i).toNat)
 case atStart=>exact⟨0,k,Nat.zero_le _,rfl,rfl,by simp[Hid,aT],by rw[go];exact h,du.refl _ _⟩
 case round=>
  obtain⟨j,q,hj,rfl,rfl,hq,hres,ht⟩:=hrel;by_cases hlt:j<l.length
  ·have hc1:=hcn (j+1);rw[bh hlt]at hc1;have hc0:0<=aT cI (l.take j):=aQ gN _;have hn:=gN l[j];have hq1:0<=q:=by have:=hq.out;omega
   have hq2:q+cI l[j]<=1000000000000:=by have:=hq.out;omega
   have hq3:q+1<=1000000000000:=hq2;clear hc1 hc0 hcn hn;obtain⟨b,off,cap1,us,Q,e1,hPb,hQP,hel,hclose⟩:=hres.lens (kz eB k hlt);have e2:A=some ⟨b,off,none⟩:=by injection e1
   subst e2;clear e1;have hone:off+j*(eB l[j]).length=off+j:=by show off+j*1=_;rw[Nat.mul_one]
   rw[hone]at hel hclose;obtain⟨u0,us0,e0,hl0⟩:=bE (n:=0) hel.len;subst e0;obtain rfl:=iH hl0;clear hl0;have hel:El wr b (off+j) 1 Q wr (eB l[j]) [u0]:=hel;have c0:wr.cell? ⟨b,off+j,none⟩=some (u0):=hel.cell 0 _ rfl;have f0:=hel.frozen (off+j);have HC:=Lib.hid hclose;clear hclose hres h;have hfin:=HC.out _ _ _ (hel.set (c:=0) ah (.bool ((q) % 3==0)) rfl);have htt:=ht.trans (((hel.set (c:=0) ah (.bool ((q) % 3==0)) rfl)).turn.mono (P':=P) (by rintro g (rfl|hg);exact hPb;exact hQP _ hg));have e1:=hq.out;have hq':Hid (q+1=k+aT cI (l.take (j+1))):=by
    unfold Hid;rw[bh hlt,e1];first|(unfold cI;omega)|omega
   have hm:bW _ P (.sl (((mkP mB cI k j l).map eB).set j (eB (mB q l[j])))) _:=hfin;rw[e1,gn eB k hlt]at hm;try rw[<-e1]at hm
   clear HC hq hfin e1;have HM:=Lib.hid hm;have HT:=Lib.hid htt;clear hm htt ht hel;go_wp2
   exact⟨⟨j+1,_,ac,by go_num,rfl,hq',HM.out,HT.out⟩,by simp[intOf];omega⟩
  ·have e:j=l.length:=ac;subst e;have H:j6 (k+aT cI l) P w (λw'=>bW w' P (.sl ((mkL mB cI k l).map eB)) (.slice A l.length cap)) (.returned (.int .i64 q)) wr:=by
    rw[iK]at hres;have e1:=hq.out;rw[take_length]at e1;exact⟨by rw[e1],ht,hres⟩
   clear hres ht h hcn;go_wp2
   go_ret
   exact H
theorem Hb(l:(List Bool))(k:Int)(h0:0<=k)(hk:k+aT cI l<=1000000000000):dF av 42 (.one (.sl (l.map eB))) k (.one (.sl ((mkL mB cI k l).map eB))) (k+aT cI l):=YI call42 λP w v h=>Ha l P w k v h h0 hk
def sc:List (List Nat):=bZ [0,1,0,3,0,5,6,28930,0x2071851030811c8]
theorem xy(l:List DEntry)(hl:l.length<=1048576):d5 av 332 [.one (.d (.sl (l.map DEntry.ds)))] [] [(3,.row 332 9 (l.map DEntry.ds))] [] (.val (.one (.own 3))):=by
 refine cR aN func332 rfl call332 ntmps332 (aaK results332) rfl λS pv=>?_;conv=>whnf
 repeat'((first|refine awz ?_|refine aI (by first|(intro y hy;obtain⟨a,_,rfl⟩:=List.mem_map.1 hy;rfl)|(simp;done)) ?_|refine aJ am ?_|exact rZ|fail)<;>conv=>whnf)
theorem OJ(b:DBook)(hl:b.entries.length<=1048576):d5 av 331 [.agg (b.ds.map .d)] [] [(903,.row 332 9 (b.entries.map DEntry.ds))] [] (.val (.agg [.d (dI b.base),.d (dI b.time),.own 903])):=by
 refine cR aN func331 rfl call331 ntmps331 (aaK results331) rfl λS pv=>?_;conv=>whnf
 repeat'(first|refine awz ?_|fail)
 (refine X7 aN 1 (tkc [0,1,2,3,4,5] (onc [6,7,8] .done)) [(1,9980)] sc ae ae ae ae (λRz=>?_);(conv=>whnf);intro bp0 up0;(conv=>whnf))
 repeat'(first|refine awz ?_|(refine Yb (xy b.entries hl) [(3,903)] rfl rfl ?_;conv=>whnf)|exact rZ|fail)
section
variable {α β:Type}
structure SmR {α:Type} (R:Rep α) (p:α->Prop):Prop where
 h:∀{w cs a F},R.rd w cs a F->p a
theorem SmR.any{R:Rep α}:SmR R λ_=>True:=⟨λ_=>trivial⟩
theorem Yj{R:Rep α}{S:Rep β}{p:α->Prop}{q:β->Prop}(h1:SmR R p)(h2:SmR S q):SmR (Yd R S) λx=>p x.1/\q x.2:=by
 refine⟨?_⟩;rintro w cs a F ⟨c1,c2,F1,F2,_,_,g1,g2⟩;exact⟨h1.h g1,h2.h g2⟩
theorem aaI{R:Rep α}{f:β->α}{p:α->Prop}(h:SmR R p):SmR (Yw f R) λx=>p (f x):=⟨λhr=>h.h hr⟩
theorem SmR.all{R:Rep α}{p:α->Prop}(h:SmR R p){w:World}:∀{l:List α} {xs:List Value} {F:List Nat},R.all w xs l F->∀y∈l,p y
 |[],_,_,_,y,hy=>by cases hy
 |a::l,_,_,⟨c1,c2,F1,F2,_,_,h1,h2⟩,y,hy=>by
  rcases List.mem_cons.1 hy with rfl|hy
  ·exact h.h h1
  ·exact SmR.all h h2 y hy
theorem SmR.sl{R:Rep α}{p:α->Prop}(h:SmR R p):SmR (Rep.sl R) λl=>l.length<=9223372036854775807/\∀y∈l,p y:=by
 refine⟨?_⟩;rintro w cs l F ⟨A,cap,xs,F1,_,hc,hm,_,hall,_⟩;have:maxLen<=9223372036854775807:=ah;exact⟨ac,SmR.all h hall⟩
theorem SmR.mono{R:Rep α}{p q:α->Prop}(h:SmR R p)(hq:∀a,p a->q a):SmR R q:=⟨λhr=>hq _ (h.h hr)⟩
theorem YM{R:Rep β}{S:Rep α}{f:β->α}{p:α->Prop}{q:β->Prop}(h:SmR S p)(e:R=Yw f S)(hq:∀a,p (f a)->q a):SmR R q:=by subst e;exact(aaI h).mono hq
theorem ON:SmR Y7 (Yu 9223372036854775807):=YM (Yj SmR.any (SmR.sl SmR.any)) rfl λx h=>h.2.1
theorem Dk:SmR YV (Yp 9223372036854775807):=YM (Yj (SmR.sl (SmR.sl SmR.any)) (SmR.sl ON)) rfl λx h=>⟨h.1.1,λy hy=>(h.1.2 y hy).1,h.2.1,h.2.2⟩
theorem SN:SmR Zt (YA 9223372036854775807):=YM (Yj Dk Dk) rfl λx h=>h
theorem Kg:SmR Y3 (Yo 9223372036854775807):=YM (Yj SmR.any (Yj SmR.any (Yj SmR.any (SmR.sl SmR.any)))) rfl λx h=>h.2.2.2.1
theorem Q9:SmR Zf (Yx 9223372036854775807):=YM (Yj SmR.any (Yj SmR.any (SmR.sl SmR.any))) rfl λx h=>h.2.2.1
theorem Kh:SmR YT (Yq 9223372036854775807):=YM (Yj SN (Yj Kg (Yj Kg (Yj SmR.any (Yj Q9 (Yj (SmR.sl SmR.any) (Yj SmR.any (SmR.sl SmR.any)))))))) rfl λx h=>⟨h.1,h.2.1,h.2.2.1,h.2.2.2.2.1,h.2.2.2.2.2.1.1,h.2.2.2.2.2.2.2.1⟩
theorem OK:SmR Y5 (Yt 9223372036854775807):=YM (Yj SmR.any (Yj SmR.any (Yj (SmR.sl SmR.any) (Yj (SmR.sl SmR.any) SmR.any)))) rfl λx h=>⟨h.2.2.1.1,h.2.2.2.1.1⟩
theorem OL:SmR Y6 (Yv 9223372036854775807):=YM (Yj Dk (Yj OK SmR.any)) rfl λx h=>⟨h.1,h.2.1⟩
theorem Ra:SmR Zg (YE 9223372036854775807):=YM (Yj SmR.any (Yj SmR.any (Yj SmR.any (Yj SmR.any (Yj SmR.any (SmR.sl SmR.any)))))) rfl λx h=>h.2.2.2.2.2.1
theorem Rb:SmR Zi (YC 9223372036854775807):=YM Ra rfl λx h=>h
theorem FQ:SmR YW (Yr 9223372036854775807):=YM (Yj SmR.any (Yj SmR.any (Yj Rb SmR.any))) rfl λx h=>h.2.2.1
theorem Dj:SmR YQ (Ys 9223372036854775807):=YM (Yj SmR.any (Yj (SmR.sl SmR.any) (Yj (SmR.sl SmR.any) SmR.any))) rfl λx h=>⟨h.2.1.1,h.2.2.1.1⟩
theorem SL:SmR Zq (Yy 9223372036854775807):=YM (Yj SmR.any (Yj SmR.any (SmR.sl SmR.any))) rfl λx h=>h.2.2.1
theorem SM:SmR Zr (Yz 9223372036854775807):=YM (Yj (SmR.sl SL) (SmR.sl SmR.any)) rfl λx h=>⟨h.1.1,h.1.2,h.2.1⟩
theorem OM:SmR Zo (Ym 9223372036854775807):=YM (Yj Kh (Yj OL (Yj FQ (Yj FQ (Yj Dj (Yj Dj (Yj SM (Yj (SmR.sl SmR.any) (SmR.sl SmR.any))))))))) rfl λx h=>⟨h.1,h.2.1,h.2.2.1,h.2.2.2.1,h.2.2.2.2.1,h.2.2.2.2.2.1,h.2.2.2.2.2.2.1,h.2.2.2.2.2.2.2.1.1,h.2.2.2.2.2.2.2.2.1⟩
end
end Go.Proofs.YtknefkdcokgpbaaGreat
