/- MkE -/
import Derived.Test.YtknefkdcokgpbaaGreatMkA
import Derived.Test.YtknefkdcokgpbaaGreatAvFO
import Derived.Test.YtknefkdcokgpbaaGreatAwx
import Derived.Test.YtknefkdcokgpbaaGreatHe
import Derived.Test.YtknefkdcokgpbaaGreatWOw
import Derived.Test.YtknefkdcokgpbaaGreatWEq
set_option maxHeartbeats 8000000
set_option linter.unusedVariables false
set_option linter.unusedSimpArgs false
set_option maxRecDepth 100000
open List (length_map take_length)
open Nat (zero_le)
namespace Go.Proofs.YtknefkdcokgpbaaGreat
open Go.Proofs.Tryz
open Go.ChangeShapes Go.WideShapes Go.RowKit
theorem He(l:(List DMark))(P:Nat->Prop)(w:World)(k:Int)(v:Value)(h:bW w P (.sl (l.map DMark.ds)) v)(h0:0<=k)(hk:k+aT bi l<=1000000000000):
  Calls Tryz.prog 104 #[v,.int .i64 k] w (j6 (k+aT bi l) P w λw'=>bW w' P (.sl ((mkL ij bi k l).map DMark.ds)) v):=by
 obtain⟨A,cap,rfl,hcl,hcm⟩:=h.form;rw[length_map]at hcl h⊢;unfold maxLen at hcm;have hcn:=bC (cnt:=bi) eC l;go_enter Tryz.func104,Tryz.ntmps104
 go_wp2
 go_loopw [1,5] (λc i wr=>∃(j:Nat) (q:Int),j<=l.length/\i= .int .i64 j/\c= .int .i64 q/\Hid (q=k+aT bi (l.take j))/\bW wr P (.sl ((mkP ij bi k j l).map DMark.ds)) (.slice A l.length cap)/\du P w wr) (λ_ i _=>l.length-(intOf i).toNat)
 case atStart=>exact⟨0,k,zero_le _,rfl,rfl,by simp[Hid,aT],by rw[go];exact h,du.refl _ _⟩
 case round=>
  obtain⟨j,q,hj,rfl,rfl,hq,hres,ht⟩:=hrel;by_cases hlt:j<l.length
  ·have hc1:=hcn (j+1);rw[bh hlt]at hc1;have hc0:0<=aT bi (l.take j):=aQ eC _;have hn:=eC l[j];have hq1:0<=q:=by have:=hq.out;omega
   have hq2:q+bi l[j]<=1000000000000:=by have:=hq.out;omega
   have hq3:q+3<=1000000000000:=by unfold bi at hq2;omega
   clear hc1 hc0 hcn hn;obtain⟨b,off,cap1,us,Q,e1,hPb,hQP,hel,hclose⟩:=hres.lens (kz DMark.ds k hlt);have e2:A=some ⟨b,off,none⟩:=by injection e1
   subst e2;clear e1;obtain⟨u0,us0,e0,hl0⟩:=bE (n:=2) hel.len;subst e0;obtain⟨u1,us1,e0,hl1⟩:=bE (n:=1) hl0;subst e0;obtain⟨u2,us2,e0,hl2⟩:=bE (n:=0) hl1;subst e0;obtain rfl:=iH hl2;clear hl2;have hel:El wr b (off+j*3) 3 Q wr (DMark.ds l[j]) [u0,u1,u2]:=hel;have c0:wr.cell? ⟨b,off+j*3,none⟩=some (u0):=hel.cell 0 _ rfl;have f0:=hel.frozen (off+j*3);have c1:wr.cell? ⟨b,off+j*3+1,none⟩=some (u1):=hel.cell 1 _ rfl;have f1:=hel.frozen (off+j*3+1);have c2:wr.cell? ⟨b,off+j*3+2,none⟩=some (u2):=hel.cell 2 _ rfl;have f2:=hel.frozen (off+j*3+2);have HC:=Lib.hid hclose;clear hclose hres h;have hfin:=HC.out _ _ _ (((hel.set (c:=0) ah (.int .i64 (q)) rfl).set (c:=1) ah (.int .i64 (q+1)) rfl).set (c:=2) ah (.int .i64 (q+1+1)) rfl);have htt:=ht.trans (((((hel.set (c:=0) ah (.int .i64 (q)) rfl).set (c:=1) ah (.int .i64 (q+1)) rfl).set (c:=2) ah (.int .i64 (q+1+1)) rfl)).turn.mono (P':=P) (by rintro g (rfl|hg);exact hPb;exact hQP _ hg));have e1:=hq.out;have hq':Hid (q+1+1+1=k+aT bi (l.take (j+1))):=by
    unfold Hid;rw[bh hlt,e1];first|(unfold bi;omega)|omega
   have hm:bW _ P (.sl (((mkP ij bi k j l).map DMark.ds).set j (DMark.ds (ij q l[j])))) _:=hfin;rw[e1,gn DMark.ds k hlt]at hm;try rw[<-e1]at hm
   clear HC hq hfin e1;have HM:=Lib.hid hm;have HT:=Lib.hid htt;clear hm htt ht hel;go_wp2
   exact⟨⟨j+1,_,ac,by go_num,rfl,hq',HM.out,HT.out⟩,by simp[intOf];omega⟩
  ·have e:j=l.length:=ac;subst e;have H:j6 (k+aT bi l) P w (λw'=>bW w' P (.sl ((mkL ij bi k l).map DMark.ds)) (.slice A l.length cap)) (.returned (.int .i64 q)) wr:=by
    rw[iK]at hres;have e1:=hq.out;rw[take_length]at e1;exact⟨by rw[e1],ht,hres⟩
   clear hres ht h hcn;go_wp2
   go_ret
   exact H
theorem xf(l:(List DMark))(k:Int)(h0:0<=k)(hk:k+aT bi l<=1000000000000):dF av 104 (.one (.sl (l.map DMark.ds))) k (.one (.sl ((mkL ij bi k l).map DMark.ds))) (k+aT bi l):=YI call104 λP w v h=>He l P w k v h h0 hk
theorem DJ(l:(List DEntry))(P:Nat->Prop)(w:World)(k:Int)(v:Value)(h:bW w P (.sl (l.map DEntry.ds)) v)(h0:0<=k)(hk:k+aT bu l<=1000000000000):
  Calls Tryz.prog 199 #[v,.int .i64 k] w (j6 (k+aT bu l) P w λw'=>bW w' P (.sl ((mkL gP bu k l).map DEntry.ds)) v):=by
 obtain⟨A,cap,rfl,hcl,hcm⟩:=h.form;rw[length_map]at hcl h⊢;unfold maxLen at hcm;have hcn:=bC (cnt:=bu) fr l;go_enter Tryz.func199,Tryz.ntmps199
 go_wp2
 go_loopw [1,5] (λc i wr=>∃(j:Nat) (q:Int),j<=l.length/\i= .int .i64 j/\c= .int .i64 q/\Hid (q=k+aT bu (l.take j))/\bW wr P (.sl ((mkP gP bu k j l).map DEntry.ds)) (.slice A l.length cap)/\du P w wr) (λ_ i _=>l.length-(intOf i).toNat)
 case atStart=>exact⟨0,k,zero_le _,rfl,rfl,by simp[Hid,aT],by rw[go];exact h,du.refl _ _⟩
 case round=>
  obtain⟨j,q,hj,rfl,rfl,hq,hres,ht⟩:=hrel;by_cases hlt:j<l.length
  ·have hc1:=hcn (j+1);rw[bh hlt]at hc1;have hc0:0<=aT bu (l.take j):=aQ fr _;have hn:=fr l[j];have hq1:0<=q:=by have:=hq.out;omega
   have hq2:q+bu l[j]<=1000000000000:=by have:=hq.out;omega
   have hq3:q+9<=1000000000000:=by unfold bu at hq2;omega
   clear hc1 hc0 hcn hn;obtain⟨b,off,cap1,us,Q,e1,hPb,hQP,hel,hclose⟩:=hres.lens (kz DEntry.ds k hlt);have e2:A=some ⟨b,off,none⟩:=by injection e1
   subst e2;clear e1;obtain⟨u0,us0,e0,hl0⟩:=bE (n:=8) hel.len;subst e0;obtain⟨u1,us1,e0,hl1⟩:=bE (n:=7) hl0;subst e0;obtain⟨u2,us2,e0,hl2⟩:=bE (n:=6) hl1;subst e0;obtain⟨u3,us3,e0,hl3⟩:=bE (n:=5) hl2;subst e0;obtain⟨u4,us4,e0,hl4⟩:=bE (n:=4) hl3;subst e0;obtain⟨u5,us5,e0,hl5⟩:=bE (n:=3) hl4;subst e0;obtain⟨u6,us6,e0,hl6⟩:=bE (n:=2) hl5;subst e0;obtain⟨u7,us7,e0,hl7⟩:=bE (n:=1) hl6;subst e0;obtain⟨u8,us8,e0,hl8⟩:=bE (n:=0) hl7;subst e0;obtain rfl:=iH hl8;clear hl8;have hel:El wr b (off+j*9) 9 Q wr (DEntry.ds l[j]) [u0,u1,u2,u3,u4,u5,u6,u7,u8]:=hel;have c0:wr.cell? ⟨b,off+j*9,none⟩=some (u0):=hel.cell 0 _ rfl;have f0:=hel.frozen (off+j*9);have c1:wr.cell? ⟨b,off+j*9+1,none⟩=some (u1):=hel.cell 1 _ rfl;have f1:=hel.frozen (off+j*9+1);have c2:wr.cell? ⟨b,off+j*9+2,none⟩=some (u2):=hel.cell 2 _ rfl;have f2:=hel.frozen (off+j*9+2);have c3:wr.cell? ⟨b,off+j*9+3,none⟩=some (u3):=hel.cell 3 _ rfl;have f3:=hel.frozen (off+j*9+3);have c4:wr.cell? ⟨b,off+j*9+4,none⟩=some (u4):=hel.cell 4 _ rfl;have f4:=hel.frozen (off+j*9+4);have c5:wr.cell? ⟨b,off+j*9+5,none⟩=some (u5):=hel.cell 5 _ rfl;have f5:=hel.frozen (off+j*9+5);have c6:wr.cell? ⟨b,off+j*9+6,none⟩=some (u6):=hel.cell 6 _ rfl;have f6:=hel.frozen (off+j*9+6);have c7:wr.cell? ⟨b,off+j*9+7,none⟩=some (u7):=hel.cell 7 _ rfl;have f7:=hel.frozen (off+j*9+7);have c8:wr.cell? ⟨b,off+j*9+8,none⟩=some (u8):=hel.cell 8 _ rfl;have f8:=hel.frozen (off+j*9+8);have HC:=Lib.hid hclose;clear hclose hres h;have hfin:=HC.out _ _ _ (((((((((hel.set (c:=0) ah (.int .i64 (q)) rfl).set (c:=1) ah (.int .i64 (q+1)) rfl).set (c:=2) ah (.int .i64 (q+1+1)) rfl).set (c:=3) ah (.int .i64 (q+1+1+1)) rfl).set (c:=4) ah (.int .i64 (q+1+1+1+1)) rfl).set (c:=5) ah (.int .i64 (q+1+1+1+1+1)) rfl).set (c:=6) ah (.int .i64 (q+1+1+1+1+1+1)) rfl).set (c:=7) ah (.int .i64 (q+1+1+1+1+1+1+1)) rfl).set (c:=8) ah (.int .i64 (q+1+1+1+1+1+1+1+1)) rfl);have htt:=ht.trans (((((((((((hel.set (c:=0) ah (.int .i64 (q)) rfl).set (c:=1) ah (.int .i64 (q+1)) rfl).set (c:=2) ah (.int .i64 (q+1+1)) rfl).set (c:=3) ah (.int .i64 (q+1+1+1)) rfl).set (c:=4) ah (.int .i64 (q+1+1+1+1)) rfl).set (c:=5) ah (.int .i64 (q+1+1+1+1+1)) rfl).set (c:=6) ah (.int .i64 (q+1+1+1+1+1+1)) rfl).set (c:=7) ah (.int .i64 (q+1+1+1+1+1+1+1)) rfl).set (c:=8) ah (.int .i64 (q+1+1+1+1+1+1+1+1)) rfl)).turn.mono (P':=P) (by rintro g (rfl|hg);exact hPb;exact hQP _ hg));have e1:=hq.out;have hq':Hid (q+1+1+1+1+1+1+1+1+1=k+aT bu (l.take (j+1))):=by
    unfold Hid;rw[bh hlt,e1];first|(unfold bu;omega)|omega
   have hm:bW _ P (.sl (((mkP gP bu k j l).map DEntry.ds).set j (DEntry.ds (gP q l[j])))) _:=hfin;rw[e1,gn DEntry.ds k hlt]at hm;try rw[<-e1]at hm
   clear HC hq hfin e1;have HM:=Lib.hid hm;have HT:=Lib.hid htt;clear hm htt ht hel;go_wp2
   exact⟨⟨j+1,_,ac,by go_num,rfl,hq',HM.out,HT.out⟩,by simp[intOf];omega⟩
  ·have e:j=l.length:=ac;subst e;have H:j6 (k+aT bu l) P w (λw'=>bW w' P (.sl ((mkL gP bu k l).map DEntry.ds)) (.slice A l.length cap)) (.returned (.int .i64 q)) wr:=by
    rw[iK]at hres;have e1:=hq.out;rw[take_length]at e1;exact⟨by rw[e1],ht,hres⟩
   clear hres ht h hcn;go_wp2
   go_ret
   exact H
theorem DK(l:(List DEntry))(k:Int)(h0:0<=k)(hk:k+aT bu l<=1000000000000):dF av 199 (.one (.sl (l.map DEntry.ds))) k (.one (.sl ((mkL gP bu k l).map DEntry.ds))) (k+aT bu l):=YI call199 λP w v h=>DJ l P w k v h h0 hk
theorem Jh(l:(List DAck))(P:Nat->Prop)(w:World)(k:Int)(v:Value)(h:bW w P (.sl (l.map DAck.ds)) v)(h0:0<=k)(hk:k+aT cg l<=1000000000000):
  Calls Tryz.prog 105 #[v,.int .i64 k] w (j6 (k+aT cg l) P w λw'=>bW w' P (.sl ((mkL lh cg k l).map DAck.ds)) v):=by
 obtain⟨A,cap,rfl,hcl,hcm⟩:=h.form;rw[length_map]at hcl h⊢;unfold maxLen at hcm;have hcn:=bC (cnt:=cg) hL l;go_enter Tryz.func105,Tryz.ntmps105
 go_wp2
 go_loopw [1,5] (λc i wr=>∃(j:Nat) (q:Int),j<=l.length/\i= .int .i64 j/\c= .int .i64 q/\Hid (q=k+aT cg (l.take j))/\bW wr P (.sl ((mkP lh cg k j l).map DAck.ds)) (.slice A l.length cap)/\du P w wr) (λ_ i _=>l.length-(intOf i).toNat)
 case atStart=>exact⟨0,k,zero_le _,rfl,rfl,by simp[Hid,aT],by rw[go];exact h,du.refl _ _⟩
 case round=>
  obtain⟨j,q,hj,rfl,rfl,hq,hres,ht⟩:=hrel;by_cases hlt:j<l.length
  ·have hc1:=hcn (j+1);rw[bh hlt]at hc1;have hc0:0<=aT cg (l.take j):=aQ hL _;have hn:=hL l[j];have hq1:0<=q:=by have:=hq.out;omega
   have hq2:q+cg l[j]<=1000000000000:=by have:=hq.out;omega
   have hq3:q+4<=1000000000000:=by unfold cg at hq2;omega
   clear hc1 hc0 hcn hn;obtain⟨b,off,cap1,us,Q,e1,hPb,hQP,hel,hclose⟩:=hres.lens (kz DAck.ds k hlt);have e2:A=some ⟨b,off,none⟩:=by injection e1
   subst e2;clear e1;obtain⟨u0,us0,e0,hl0⟩:=bE (n:=3) hel.len;subst e0;obtain⟨u1,us1,e0,hl1⟩:=bE (n:=2) hl0;subst e0;obtain⟨u2,us2,e0,hl2⟩:=bE (n:=1) hl1;subst e0;obtain⟨u3,us3,e0,hl3⟩:=bE (n:=0) hl2;subst e0;obtain rfl:=iH hl3;clear hl3;have hel:El wr b (off+j*4) 4 Q wr (DAck.ds l[j]) [u0,u1,u2,u3]:=hel;have c0:wr.cell? ⟨b,off+j*4,none⟩=some (u0):=hel.cell 0 _ rfl;have f0:=hel.frozen (off+j*4);have c1:wr.cell? ⟨b,off+j*4+1,none⟩=some (u1):=hel.cell 1 _ rfl;have f1:=hel.frozen (off+j*4+1);have c2:wr.cell? ⟨b,off+j*4+2,none⟩=some (u2):=hel.cell 2 _ rfl;have f2:=hel.frozen (off+j*4+2);have c3:wr.cell? ⟨b,off+j*4+3,none⟩=some (u3):=hel.cell 3 _ rfl;have f3:=hel.frozen (off+j*4+3);have HC:=Lib.hid hclose;clear hclose hres h;have hfin:=HC.out _ _ _ ((((hel.set (c:=0) ah (.int .i64 (q)) rfl).set (c:=1) ah (.int .i64 (q+1)) rfl).set (c:=2) ah (.int .i64 (q+1+1)) rfl).set (c:=3) ah (.int .i64 (q+1+1+1)) rfl);have htt:=ht.trans ((((((hel.set (c:=0) ah (.int .i64 (q)) rfl).set (c:=1) ah (.int .i64 (q+1)) rfl).set (c:=2) ah (.int .i64 (q+1+1)) rfl).set (c:=3) ah (.int .i64 (q+1+1+1)) rfl)).turn.mono (P':=P) (by rintro g (rfl|hg);exact hPb;exact hQP _ hg));have e1:=hq.out;have hq':Hid (q+1+1+1+1=k+aT cg (l.take (j+1))):=by
    unfold Hid;rw[bh hlt,e1];first|(unfold cg;omega)|omega
   have hm:bW _ P (.sl (((mkP lh cg k j l).map DAck.ds).set j (DAck.ds (lh q l[j])))) _:=hfin;rw[e1,gn DAck.ds k hlt]at hm;try rw[<-e1]at hm
   clear HC hq hfin e1;have HM:=Lib.hid hm;have HT:=Lib.hid htt;clear hm htt ht hel;go_wp2
   exact⟨⟨j+1,_,ac,by go_num,rfl,hq',HM.out,HT.out⟩,by simp[intOf];omega⟩
  ·have e:j=l.length:=ac;subst e;have H:j6 (k+aT cg l) P w (λw'=>bW w' P (.sl ((mkL lh cg k l).map DAck.ds)) (.slice A l.length cap)) (.returned (.int .i64 q)) wr:=by
    rw[iK]at hres;have e1:=hq.out;rw[take_length]at e1;exact⟨by rw[e1],ht,hres⟩
   clear hres ht h hcn;go_wp2
   go_ret
   exact H
theorem Ji(l:(List DAck))(k:Int)(h0:0<=k)(hk:k+aT cg l<=1000000000000):dF av 105 (.one (.sl (l.map DAck.ds))) k (.one (.sl ((mkL lh cg k l).map DAck.ds))) (k+aT cg l):=YI call105 λP w v h=>Jh l P w k v h h0 hk
theorem Hf(l:(List DPair))(P:Nat->Prop)(w:World)(k:Int)(v:Value)(h:bW w P (.sl (l.map DPair.ds)) v)(h0:0<=k)(hk:k+aT bw l<=1000000000000):
  Calls Tryz.prog 202 #[v,.int .i64 k] w (j6 (k+aT bw l) P w λw'=>bW w' P (.sl ((mkL iI bw k l).map DPair.ds)) v):=by
 obtain⟨A,cap,rfl,hcl,hcm⟩:=h.form;rw[length_map]at hcl h⊢;unfold maxLen at hcm;have hcn:=bC (cnt:=bw) gd l;go_enter Tryz.func202,Tryz.ntmps202
 go_wp2
 go_loopw [1,5] (λc i wr=>∃(j:Nat) (q:Int),j<=l.length/\i= .int .i64 j/\c= .int .i64 q/\Hid (q=k+aT bw (l.take j))/\bW wr P (.sl ((mkP iI bw k j l).map DPair.ds)) (.slice A l.length cap)/\du P w wr) (λ_ i _=>l.length-(intOf i).toNat)
 case atStart=>exact⟨0,k,zero_le _,rfl,rfl,by simp[Hid,aT],by rw[go];exact h,du.refl _ _⟩
 case round=>
  obtain⟨j,q,hj,rfl,rfl,hq,hres,ht⟩:=hrel;by_cases hlt:j<l.length
  ·have hc1:=hcn (j+1);rw[bh hlt]at hc1;have hc0:0<=aT bw (l.take j):=aQ gd _;have hn:=gd l[j];have hq1:0<=q:=by have:=hq.out;omega
   have hq2:q+bw l[j]<=1000000000000:=by have:=hq.out;omega
   have hq3:q+2<=1000000000000:=by unfold bw at hq2;omega
   clear hc1 hc0 hcn hn;obtain⟨b,off,cap1,us,Q,e1,hPb,hQP,hel,hclose⟩:=hres.lens (kz DPair.ds k hlt);have e2:A=some ⟨b,off,none⟩:=by injection e1
   subst e2;clear e1;obtain⟨u0,us0,e0,hl0⟩:=bE (n:=1) hel.len;subst e0;obtain⟨u1,us1,e0,hl1⟩:=bE (n:=0) hl0;subst e0;obtain rfl:=iH hl1;clear hl1;have hel:El wr b (off+j*2) 2 Q wr (DPair.ds l[j]) [u0,u1]:=hel;have c0:wr.cell? ⟨b,off+j*2,none⟩=some (u0):=hel.cell 0 _ rfl;have f0:=hel.frozen (off+j*2);have c1:wr.cell? ⟨b,off+j*2+1,none⟩=some (u1):=hel.cell 1 _ rfl;have f1:=hel.frozen (off+j*2+1);have HC:=Lib.hid hclose;clear hclose hres h;have hfin:=HC.out _ _ _ ((hel.set (c:=0) ah (.int .i64 (q)) rfl).set (c:=1) ah (.int .i64 (q+1)) rfl);have htt:=ht.trans ((((hel.set (c:=0) ah (.int .i64 (q)) rfl).set (c:=1) ah (.int .i64 (q+1)) rfl)).turn.mono (P':=P) (by rintro g (rfl|hg);exact hPb;exact hQP _ hg));have e1:=hq.out;have hq':Hid (q+1+1=k+aT bw (l.take (j+1))):=by
    unfold Hid;rw[bh hlt,e1];first|(unfold bw;omega)|omega
   have hm:bW _ P (.sl (((mkP iI bw k j l).map DPair.ds).set j (DPair.ds (iI q l[j])))) _:=hfin;rw[e1,gn DPair.ds k hlt]at hm;try rw[<-e1]at hm
   clear HC hq hfin e1;have HM:=Lib.hid hm;have HT:=Lib.hid htt;clear hm htt ht hel;go_wp2
   exact⟨⟨j+1,_,ac,by go_num,rfl,hq',HM.out,HT.out⟩,by simp[intOf];omega⟩
  ·have e:j=l.length:=ac;subst e;have H:j6 (k+aT bw l) P w (λw'=>bW w' P (.sl ((mkL iI bw k l).map DPair.ds)) (.slice A l.length cap)) (.returned (.int .i64 q)) wr:=by
    rw[iK]at hres;have e1:=hq.out;rw[take_length]at e1;exact⟨by rw[e1],ht,hres⟩
   clear hres ht h hcn;go_wp2
   go_ret
   exact H
theorem Hg(l:(List DPair))(k:Int)(h0:0<=k)(hk:k+aT bw l<=1000000000000):dF av 202 (.one (.sl (l.map DPair.ds))) k (.one (.sl ((mkL iI bw k l).map DPair.ds))) (k+aT bw l):=YI call202 λP w v h=>Hf l P w k v h h0 hk
theorem Jo(l:(List DJob))(P:Nat->Prop)(w:World)(k:Int)(v:Value)(h:bW w P (.sl (l.map DJob.ds)) v)(h0:0<=k)(hk:k+aT cj l<=1000000000000):
  Calls Tryz.prog 203 #[v,.int .i64 k] w (j6 (k+aT cj l) P w λw'=>bW w' P (.sl ((mkL ll cj k l).map DJob.ds)) v):=by
 obtain⟨A,cap,rfl,hcl,hcm⟩:=h.form;rw[length_map]at hcl h⊢;unfold maxLen at hcm;have hcn:=bC (cnt:=cj) ib l;go_enter Tryz.func203,Tryz.ntmps203
 go_wp2
 go_loopw [1,5] (λc i wr=>∃(j:Nat) (q:Int),j<=l.length/\i= .int .i64 j/\c= .int .i64 q/\Hid (q=k+aT cj (l.take j))/\bW wr P (.sl ((mkP ll cj k j l).map DJob.ds)) (.slice A l.length cap)/\du P w wr) (λ_ i _=>l.length-(intOf i).toNat)
 case atStart=>exact⟨0,k,zero_le _,rfl,rfl,by simp[Hid,aT],by rw[go];exact h,du.refl _ _⟩
 case round=>
  obtain⟨j,q,hj,rfl,rfl,hq,hres,ht⟩:=hrel;by_cases hlt:j<l.length
  ·have hc1:=hcn (j+1);rw[bh hlt]at hc1;have hc0:0<=aT cj (l.take j):=aQ ib _;have hn:=ib l[j];have hq1:0<=q:=by have:=hq.out;omega
   have hq2:q+cj l[j]<=1000000000000:=by have:=hq.out;omega
   have hq3:q+5<=1000000000000:=by unfold cj at hq2;omega
   clear hc1 hc0 hcn hn;obtain⟨b,off,cap1,us,Q,e1,hPb,hQP,hel,hclose⟩:=hres.lens (kz DJob.ds k hlt);have e2:A=some ⟨b,off,none⟩:=by injection e1
   subst e2;clear e1;obtain⟨u0,us0,e0,hl0⟩:=bE (n:=4) hel.len;subst e0;obtain⟨u1,us1,e0,hl1⟩:=bE (n:=3) hl0;subst e0;obtain⟨u2,us2,e0,hl2⟩:=bE (n:=2) hl1;subst e0;obtain⟨u3,us3,e0,hl3⟩:=bE (n:=1) hl2;subst e0;obtain⟨u4,us4,e0,hl4⟩:=bE (n:=0) hl3;subst e0;obtain rfl:=iH hl4;clear hl4;have hel:El wr b (off+j*5) 5 Q wr (DJob.ds l[j]) [u0,u1,u2,u3,u4]:=hel;have c0:wr.cell? ⟨b,off+j*5,none⟩=some (u0):=hel.cell 0 _ rfl;have f0:=hel.frozen (off+j*5);have c1:wr.cell? ⟨b,off+j*5+1,none⟩=some (u1):=hel.cell 1 _ rfl;have f1:=hel.frozen (off+j*5+1);have c2:wr.cell? ⟨b,off+j*5+2,none⟩=some (u2):=hel.cell 2 _ rfl;have f2:=hel.frozen (off+j*5+2);have c3:wr.cell? ⟨b,off+j*5+3,none⟩=some (u3):=hel.cell 3 _ rfl;have f3:=hel.frozen (off+j*5+3);have c4:wr.cell? ⟨b,off+j*5+4,none⟩=some (u4):=hel.cell 4 _ rfl;have f4:=hel.frozen (off+j*5+4);have HC:=Lib.hid hclose;clear hclose hres h;have hfin:=HC.out _ _ _ (((((hel.set (c:=0) ah (.int .i64 (q)) rfl).set (c:=1) ah (.int .i64 (q+1)) rfl).set (c:=2) ah (.int .i64 (q+1+1)) rfl).set (c:=3) ah (.int .i64 (q+1+1+1)) rfl).set (c:=4) ah (.int .i64 (q+1+1+1+1)) rfl);have htt:=ht.trans (((((((hel.set (c:=0) ah (.int .i64 (q)) rfl).set (c:=1) ah (.int .i64 (q+1)) rfl).set (c:=2) ah (.int .i64 (q+1+1)) rfl).set (c:=3) ah (.int .i64 (q+1+1+1)) rfl).set (c:=4) ah (.int .i64 (q+1+1+1+1)) rfl)).turn.mono (P':=P) (by rintro g (rfl|hg);exact hPb;exact hQP _ hg));have e1:=hq.out;have hq':Hid (q+1+1+1+1+1=k+aT cj (l.take (j+1))):=by
    unfold Hid;rw[bh hlt,e1];first|(unfold cj;omega)|omega
   have hm:bW _ P (.sl (((mkP ll cj k j l).map DJob.ds).set j (DJob.ds (ll q l[j])))) _:=hfin;rw[e1,gn DJob.ds k hlt]at hm;try rw[<-e1]at hm
   clear HC hq hfin e1;have HM:=Lib.hid hm;have HT:=Lib.hid htt;clear hm htt ht hel;go_wp2
   exact⟨⟨j+1,_,ac,by go_num,rfl,hq',HM.out,HT.out⟩,by simp[intOf];omega⟩
  ·have e:j=l.length:=ac;subst e;have H:j6 (k+aT cj l) P w (λw'=>bW w' P (.sl ((mkL ll cj k l).map DJob.ds)) (.slice A l.length cap)) (.returned (.int .i64 q)) wr:=by
    rw[iK]at hres;have e1:=hq.out;rw[take_length]at e1;exact⟨by rw[e1],ht,hres⟩
   clear hres ht h hcn;go_wp2
   go_ret
   exact H
theorem Jp(l:(List DJob))(k:Int)(h0:0<=k)(hk:k+aT cj l<=1000000000000):dF av 203 (.one (.sl (l.map DJob.ds))) k (.one (.sl ((mkL ll cj k l).map DJob.ds))) (k+aT cj l):=YI call203 λP w v h=>Jo l P w k v h h0 hk
theorem Jk(l:(List DDue))(P:Nat->Prop)(w:World)(k:Int)(v:Value)(h:bW w P (.sl (l.map DDue.ds)) v)(h0:0<=k)(hk:k+aT ch l<=1000000000000):
  Calls Tryz.prog 310 #[v,.int .i64 k] w (j6 (k+aT ch l) P w λw'=>bW w' P (.sl ((mkL li ch k l).map DDue.ds)) v):=by
 obtain⟨A,cap,rfl,hcl,hcm⟩:=h.form;rw[length_map]at hcl h⊢;unfold maxLen at hcm;have hcn:=bC (cnt:=ch) hX l;go_enter Tryz.func310,Tryz.ntmps310
 go_wp2
 go_loopw [1,5] (λc i wr=>∃(j:Nat) (q:Int),j<=l.length/\i= .int .i64 j/\c= .int .i64 q/\Hid (q=k+aT ch (l.take j))/\bW wr P (.sl ((mkP li ch k j l).map DDue.ds)) (.slice A l.length cap)/\du P w wr) (λ_ i _=>l.length-(intOf i).toNat)
 case atStart=>exact⟨0,k,zero_le _,rfl,rfl,by simp[Hid,aT],by rw[go];exact h,du.refl _ _⟩
 case round=>
  obtain⟨j,q,hj,rfl,rfl,hq,hres,ht⟩:=hrel;by_cases hlt:j<l.length
  ·have hc1:=hcn (j+1);rw[bh hlt]at hc1;have hc0:0<=aT ch (l.take j):=aQ hX _;have hn:=hX l[j];have hq1:0<=q:=by have:=hq.out;omega
   have hq2:q+ch l[j]<=1000000000000:=by have:=hq.out;omega
   have hq3:q+2<=1000000000000:=by unfold ch at hq2;omega
   clear hc1 hc0 hcn hn;obtain⟨b,off,cap1,us,Q,e1,hPb,hQP,hel,hclose⟩:=hres.lens (kz DDue.ds k hlt);have e2:A=some ⟨b,off,none⟩:=by injection e1
   subst e2;clear e1;obtain⟨u0,us0,e0,hl0⟩:=bE (n:=1) hel.len;subst e0;obtain⟨u1,us1,e0,hl1⟩:=bE (n:=0) hl0;subst e0;obtain rfl:=iH hl1;clear hl1;have hel:El wr b (off+j*2) 2 Q wr (DDue.ds l[j]) [u0,u1]:=hel;have c0:wr.cell? ⟨b,off+j*2,none⟩=some (u0):=hel.cell 0 _ rfl;have f0:=hel.frozen (off+j*2);have c1:wr.cell? ⟨b,off+j*2+1,none⟩=some (u1):=hel.cell 1 _ rfl;have f1:=hel.frozen (off+j*2+1);have HC:=Lib.hid hclose;clear hclose hres h;have hfin:=HC.out _ _ _ ((hel.set (c:=0) ah (.int .i64 (q)) rfl).set (c:=1) ah (.int .i64 (q+1)) rfl);have htt:=ht.trans ((((hel.set (c:=0) ah (.int .i64 (q)) rfl).set (c:=1) ah (.int .i64 (q+1)) rfl)).turn.mono (P':=P) (by rintro g (rfl|hg);exact hPb;exact hQP _ hg));have e1:=hq.out;have hq':Hid (q+1+1=k+aT ch (l.take (j+1))):=by
    unfold Hid;rw[bh hlt,e1];first|(unfold ch;omega)|omega
   have hm:bW _ P (.sl (((mkP li ch k j l).map DDue.ds).set j (DDue.ds (li q l[j])))) _:=hfin;rw[e1,gn DDue.ds k hlt]at hm;try rw[<-e1]at hm
   clear HC hq hfin e1;have HM:=Lib.hid hm;have HT:=Lib.hid htt;clear hm htt ht hel;go_wp2
   exact⟨⟨j+1,_,ac,by go_num,rfl,hq',HM.out,HT.out⟩,by simp[intOf];omega⟩
  ·have e:j=l.length:=ac;subst e;have H:j6 (k+aT ch l) P w (λw'=>bW w' P (.sl ((mkL li ch k l).map DDue.ds)) (.slice A l.length cap)) (.returned (.int .i64 q)) wr:=by
    rw[iK]at hres;have e1:=hq.out;rw[take_length]at e1;exact⟨by rw[e1],ht,hres⟩
   clear hres ht h hcn;go_wp2
   go_ret
   exact H
theorem Jl(l:(List DDue))(k:Int)(h0:0<=k)(hk:k+aT ch l<=1000000000000):dF av 310 (.one (.sl (l.map DDue.ds))) k (.one (.sl ((mkL li ch k l).map DDue.ds))) (k+aT ch l):=YI call310 λP w v h=>Jk l P w k v h h0 hk
theorem Hj(l:(List DWant))(P:Nat->Prop)(w:World)(k:Int)(v:Value)(h:bW w P (.sl (l.map DWant.ds)) v)(h0:0<=k)(hk:k+aT bx l<=1000000000000):
  Calls Tryz.prog 109 #[v,.int .i64 k] w (j6 (k+aT bx l) P w λw'=>bW w' P (.sl ((mkL iJ bx k l).map DWant.ds)) v):=by
 obtain⟨A,cap,rfl,hcl,hcm⟩:=h.form;rw[length_map]at hcl h⊢;unfold maxLen at hcm;have hcn:=bC (cnt:=bx) ge l;go_enter Tryz.func109,Tryz.ntmps109
 go_wp2
 go_loopw [1,5] (λc i wr=>∃(j:Nat) (q:Int),j<=l.length/\i= .int .i64 j/\c= .int .i64 q/\Hid (q=k+aT bx (l.take j))/\bW wr P (.sl ((mkP iJ bx k j l).map DWant.ds)) (.slice A l.length cap)/\du P w wr) (λ_ i _=>l.length-(intOf i).toNat)
 case atStart=>exact⟨0,k,zero_le _,rfl,rfl,by simp[Hid,aT],by rw[go];exact h,du.refl _ _⟩
 case round=>
  obtain⟨j,q,hj,rfl,rfl,hq,hres,ht⟩:=hrel;by_cases hlt:j<l.length
  ·have hc1:=hcn (j+1);rw[bh hlt]at hc1;have hc0:0<=aT bx (l.take j):=aQ ge _;have hn:=ge l[j];have hq1:0<=q:=by have:=hq.out;omega
   have hq2:q+bx l[j]<=1000000000000:=by have:=hq.out;omega
   have hq3:q+7<=1000000000000:=by unfold bx at hq2;omega
   clear hc1 hc0 hcn hn;obtain⟨b,off,cap1,us,Q,e1,hPb,hQP,hel,hclose⟩:=hres.lens (kz DWant.ds k hlt);have e2:A=some ⟨b,off,none⟩:=by injection e1
   subst e2;clear e1;obtain⟨u0,us0,e0,hl0⟩:=bE (n:=6) hel.len;subst e0;obtain⟨u1,us1,e0,hl1⟩:=bE (n:=5) hl0;subst e0;obtain⟨u2,us2,e0,hl2⟩:=bE (n:=4) hl1;subst e0;obtain⟨u3,us3,e0,hl3⟩:=bE (n:=3) hl2;subst e0;obtain⟨u4,us4,e0,hl4⟩:=bE (n:=2) hl3;subst e0;obtain⟨u5,us5,e0,hl5⟩:=bE (n:=1) hl4;subst e0;obtain⟨u6,us6,e0,hl6⟩:=bE (n:=0) hl5;subst e0;obtain rfl:=iH hl6;clear hl6;have hel:El wr b (off+j*7) 7 Q wr (DWant.ds l[j]) [u0,u1,u2,u3,u4,u5,u6]:=hel;have c0:wr.cell? ⟨b,off+j*7,none⟩=some (u0):=hel.cell 0 _ rfl;have f0:=hel.frozen (off+j*7);have c1:wr.cell? ⟨b,off+j*7+1,none⟩=some (u1):=hel.cell 1 _ rfl;have f1:=hel.frozen (off+j*7+1);have c2:wr.cell? ⟨b,off+j*7+2,none⟩=some (u2):=hel.cell 2 _ rfl;have f2:=hel.frozen (off+j*7+2);have c3:wr.cell? ⟨b,off+j*7+3,none⟩=some (u3):=hel.cell 3 _ rfl;have f3:=hel.frozen (off+j*7+3);have c4:wr.cell? ⟨b,off+j*7+4,none⟩=some (u4):=hel.cell 4 _ rfl;have f4:=hel.frozen (off+j*7+4);have c5:wr.cell? ⟨b,off+j*7+5,none⟩=some (u5):=hel.cell 5 _ rfl;have f5:=hel.frozen (off+j*7+5);have c6:wr.cell? ⟨b,off+j*7+6,none⟩=some (u6):=hel.cell 6 _ rfl;have f6:=hel.frozen (off+j*7+6);have HC:=Lib.hid hclose;clear hclose hres h;have hfin:=HC.out _ _ _ (((((((hel.set (c:=0) ah (.int .i64 (q)) rfl).set (c:=1) ah (.int .i64 (q+1)) rfl).set (c:=2) ah (.int .i64 (q+1+1)) rfl).set (c:=3) ah (.int .i64 (q+1+1+1)) rfl).set (c:=4) ah (.int .i64 (q+1+1+1+1)) rfl).set (c:=5) ah (.int .i64 (q+1+1+1+1+1)) rfl).set (c:=6) ah (.int .i64 (q+1+1+1+1+1+1)) rfl);have htt:=ht.trans (((((((((hel.set (c:=0) ah (.int .i64 (q)) rfl).set (c:=1) ah (.int .i64 (q+1)) rfl).set (c:=2) ah (.int .i64 (q+1+1)) rfl).set (c:=3) ah (.int .i64 (q+1+1+1)) rfl).set (c:=4) ah (.int .i64 (q+1+1+1+1)) rfl).set (c:=5) ah (.int .i64 (q+1+1+1+1+1)) rfl).set (c:=6) ah (.int .i64 (q+1+1+1+1+1+1)) rfl)).turn.mono (P':=P) (by rintro g (rfl|hg);exact hPb;exact hQP _ hg));have e1:=hq.out;have hq':Hid (q+1+1+1+1+1+1+1=k+aT bx (l.take (j+1))):=by
    unfold Hid;rw[bh hlt,e1];first|(unfold bx;omega)|omega
   have hm:bW _ P (.sl (((mkP iJ bx k j l).map DWant.ds).set j (DWant.ds (iJ q l[j])))) _:=hfin;rw[e1,gn DWant.ds k hlt]at hm;try rw[<-e1]at hm
   clear HC hq hfin e1;have HM:=Lib.hid hm;have HT:=Lib.hid htt;clear hm htt ht hel;go_wp2
   exact⟨⟨j+1,_,ac,by go_num,rfl,hq',HM.out,HT.out⟩,by simp[intOf];omega⟩
  ·have e:j=l.length:=ac;subst e;have H:j6 (k+aT bx l) P w (λw'=>bW w' P (.sl ((mkL iJ bx k l).map DWant.ds)) (.slice A l.length cap)) (.returned (.int .i64 q)) wr:=by
    rw[iK]at hres;have e1:=hq.out;rw[take_length]at e1;exact⟨by rw[e1],ht,hres⟩
   clear hres ht h hcn;go_wp2
   go_ret
   exact H
theorem Hk(l:(List DWant))(k:Int)(h0:0<=k)(hk:k+aT bx l<=1000000000000):dF av 109 (.one (.sl (l.map DWant.ds))) k (.one (.sl ((mkL iJ bx k l).map DWant.ds))) (k+aT bx l):=YI call109 λP w v h=>Hj l P w k v h h0 hk
theorem Jm(l:(List DGot))(P:Nat->Prop)(w:World)(k:Int)(v:Value)(h:bW w P (.sl (l.map DGot.ds)) v)(h0:0<=k)(hk:k+aT ci l<=1000000000000):
  Calls Tryz.prog 110 #[v,.int .i64 k] w (j6 (k+aT ci l) P w λw'=>bW w' P (.sl ((mkL lk ci k l).map DGot.ds)) v):=by
 obtain⟨A,cap,rfl,hcl,hcm⟩:=h.form;rw[length_map]at hcl h⊢;unfold maxLen at hcm;have hcn:=bC (cnt:=ci) ia l;go_enter Tryz.func110,Tryz.ntmps110
 go_wp2
 go_loopw [1,5] (λc i wr=>∃(j:Nat) (q:Int),j<=l.length/\i= .int .i64 j/\c= .int .i64 q/\Hid (q=k+aT ci (l.take j))/\bW wr P (.sl ((mkP lk ci k j l).map DGot.ds)) (.slice A l.length cap)/\du P w wr) (λ_ i _=>l.length-(intOf i).toNat)
 case atStart=>exact⟨0,k,zero_le _,rfl,rfl,by simp[Hid,aT],by rw[go];exact h,du.refl _ _⟩
 case round=>
  obtain⟨j,q,hj,rfl,rfl,hq,hres,ht⟩:=hrel;by_cases hlt:j<l.length
  ·have hc1:=hcn (j+1);rw[bh hlt]at hc1;have hc0:0<=aT ci (l.take j):=aQ ia _;have hn:=ia l[j];have hq1:0<=q:=by have:=hq.out;omega
   have hq2:q+ci l[j]<=1000000000000:=by have:=hq.out;omega
   have hq3:q+4<=1000000000000:=by unfold ci at hq2;omega
   clear hc1 hc0 hcn hn;obtain⟨b,off,cap1,us,Q,e1,hPb,hQP,hel,hclose⟩:=hres.lens (kz DGot.ds k hlt);have e2:A=some ⟨b,off,none⟩:=by injection e1
   subst e2;clear e1;obtain⟨u0,us0,e0,hl0⟩:=bE (n:=3) hel.len;subst e0;obtain⟨u1,us1,e0,hl1⟩:=bE (n:=2) hl0;subst e0;obtain⟨u2,us2,e0,hl2⟩:=bE (n:=1) hl1;subst e0;obtain⟨u3,us3,e0,hl3⟩:=bE (n:=0) hl2;subst e0;obtain rfl:=iH hl3;clear hl3;have hel:El wr b (off+j*4) 4 Q wr (DGot.ds l[j]) [u0,u1,u2,u3]:=hel;have c0:wr.cell? ⟨b,off+j*4,none⟩=some (u0):=hel.cell 0 _ rfl;have f0:=hel.frozen (off+j*4);have c1:wr.cell? ⟨b,off+j*4+1,none⟩=some (u1):=hel.cell 1 _ rfl;have f1:=hel.frozen (off+j*4+1);have c2:wr.cell? ⟨b,off+j*4+2,none⟩=some (u2):=hel.cell 2 _ rfl;have f2:=hel.frozen (off+j*4+2);have c3:wr.cell? ⟨b,off+j*4+3,none⟩=some (u3):=hel.cell 3 _ rfl;have f3:=hel.frozen (off+j*4+3);have HC:=Lib.hid hclose;clear hclose hres h;have hfin:=HC.out _ _ _ ((((hel.set (c:=0) ah (.int .i64 (q)) rfl).set (c:=1) ah (.int .i64 (q+1)) rfl).set (c:=2) ah (.int .i64 (q+1+1)) rfl).set (c:=3) ah (.int .i64 (q+1+1+1)) rfl);have htt:=ht.trans ((((((hel.set (c:=0) ah (.int .i64 (q)) rfl).set (c:=1) ah (.int .i64 (q+1)) rfl).set (c:=2) ah (.int .i64 (q+1+1)) rfl).set (c:=3) ah (.int .i64 (q+1+1+1)) rfl)).turn.mono (P':=P) (by rintro g (rfl|hg);exact hPb;exact hQP _ hg));have e1:=hq.out;have hq':Hid (q+1+1+1+1=k+aT ci (l.take (j+1))):=by
    unfold Hid;rw[bh hlt,e1];first|(unfold ci;omega)|omega
   have hm:bW _ P (.sl (((mkP lk ci k j l).map DGot.ds).set j (DGot.ds (lk q l[j])))) _:=hfin;rw[e1,gn DGot.ds k hlt]at hm;try rw[<-e1]at hm
   clear HC hq hfin e1;have HM:=Lib.hid hm;have HT:=Lib.hid htt;clear hm htt ht hel;go_wp2
   exact⟨⟨j+1,_,ac,by go_num,rfl,hq',HM.out,HT.out⟩,by simp[intOf];omega⟩
  ·have e:j=l.length:=ac;subst e;have H:j6 (k+aT ci l) P w (λw'=>bW w' P (.sl ((mkL lk ci k l).map DGot.ds)) (.slice A l.length cap)) (.returned (.int .i64 q)) wr:=by
    rw[iK]at hres;have e1:=hq.out;rw[take_length]at e1;exact⟨by rw[e1],ht,hres⟩
   clear hres ht h hcn;go_wp2
   go_ret
   exact H
theorem Jn(l:(List DGot))(k:Int)(h0:0<=k)(hk:k+aT ci l<=1000000000000):dF av 110 (.one (.sl (l.map DGot.ds))) k (.one (.sl ((mkL lk ci k l).map DGot.ds))) (k+aT ci l):=YI call110 λP w v h=>Jm l P w k v h h0 hk
theorem Hc(l:(List DLink))(P:Nat->Prop)(w:World)(k:Int)(v:Value)(h:bW w P (.sl (l.map DLink.ds)) v)(h0:0<=k)(hk:k+aT bK l<=1000000000000):
  Calls Tryz.prog 112 #[v,.int .i64 k] w (j6 (k+aT bK l) P w λw'=>bW w' P (.sl ((mkL jd bK k l).map DLink.ds)) v):=by
 obtain⟨A,cap,rfl,hcl,hcm⟩:=h.form;rw[length_map]at hcl h⊢;unfold maxLen at hcm;have hcn:=bC (cnt:=bK) f9 l;go_enter Tryz.func112,Tryz.ntmps112
 go_wp2
 go_loopw [1,5] (λc i wr=>∃(j:Nat) (q:Int),j<=l.length/\i= .int .i64 j/\c= .int .i64 q/\Hid (q=k+aT bK (l.take j))/\bW wr P (.sl ((mkP jd bK k j l).map DLink.ds)) (.slice A l.length cap)/\du P w wr) (λ_ i _=>l.length-(intOf i).toNat)
 case atStart=>exact⟨0,k,zero_le _,rfl,rfl,by simp[Hid,aT],by rw[go];exact h,du.refl _ _⟩
 case round=>
  obtain⟨j,q,hj,rfl,rfl,hq,hres,ht⟩:=hrel;by_cases hlt:j<l.length
  ·have hc1:=hcn (j+1);rw[bh hlt]at hc1;have hc0:0<=aT bK (l.take j):=aQ f9 _;have hn:=f9 l[j];have hq1:0<=q:=by have:=hq.out;omega
   have hq2:q+bK l[j]<=1000000000000:=by have:=hq.out;omega
   have hq3:q+2<=1000000000000:=by unfold bK at hq2;omega
   clear hc1 hc0 hcn hn;obtain⟨b,off,cap1,us,Q,e1,hPb,hQP,hel,hclose⟩:=hres.lens (kz DLink.ds k hlt);have e2:A=some ⟨b,off,none⟩:=by injection e1
   subst e2;clear e1;obtain⟨u0,us0,e0,hl0⟩:=bE (n:=1) hel.len;subst e0;obtain⟨u1,us1,e0,hl1⟩:=bE (n:=0) hl0;subst e0;obtain rfl:=iH hl1;clear hl1;have hel:El wr b (off+j*2) 2 Q wr (DLink.ds l[j]) [u0,u1]:=hel;have c0:wr.cell? ⟨b,off+j*2,none⟩=some (u0):=hel.cell 0 _ rfl;have f0:=hel.frozen (off+j*2);have c1:wr.cell? ⟨b,off+j*2+1,none⟩=some (u1):=hel.cell 1 _ rfl;have f1:=hel.frozen (off+j*2+1);have HC:=Lib.hid hclose;clear hclose hres h;have hfin:=HC.out _ _ _ ((hel.set (c:=0) ah (.int .i64 (q)) rfl).set (c:=1) ah (.int .i64 (q+1)) rfl);have htt:=ht.trans ((((hel.set (c:=0) ah (.int .i64 (q)) rfl).set (c:=1) ah (.int .i64 (q+1)) rfl)).turn.mono (P':=P) (by rintro g (rfl|hg);exact hPb;exact hQP _ hg));have e1:=hq.out;have hq':Hid (q+1+1=k+aT bK (l.take (j+1))):=by
    unfold Hid;rw[bh hlt,e1];first|(unfold bK;omega)|omega
   have hm:bW _ P (.sl (((mkP jd bK k j l).map DLink.ds).set j (DLink.ds (jd q l[j])))) _:=hfin;rw[e1,gn DLink.ds k hlt]at hm;try rw[<-e1]at hm
   clear HC hq hfin e1;have HM:=Lib.hid hm;have HT:=Lib.hid htt;clear hm htt ht hel;go_wp2
   exact⟨⟨j+1,_,ac,by go_num,rfl,hq',HM.out,HT.out⟩,by simp[intOf];omega⟩
  ·have e:j=l.length:=ac;subst e;have H:j6 (k+aT bK l) P w (λw'=>bW w' P (.sl ((mkL jd bK k l).map DLink.ds)) (.slice A l.length cap)) (.returned (.int .i64 q)) wr:=by
    rw[iK]at hres;have e1:=hq.out;rw[take_length]at e1;exact⟨by rw[e1],ht,hres⟩
   clear hres ht h hcn;go_wp2
   go_ret
   exact H
theorem Hd(l:(List DLink))(k:Int)(h0:0<=k)(hk:k+aT bK l<=1000000000000):dF av 112 (.one (.sl (l.map DLink.ds))) k (.one (.sl ((mkL jd bK k l).map DLink.ds))) (k+aT bK l):=YI call112 λP w v h=>Hc l P w k v h h0 hk
def ql(k:Int)(x:DDisk):DDisk:=⟨mkL gm bj (k) x.kept,mkL gQ bp (k+aT bj x.kept) x.wait⟩
def bI(x:DDisk):Int:=aT bj x.kept+aT bp x.wait
theorem gh(x:DDisk):0<=bI x:=by
 unfold bI;have:=aQ (cnt:=bj) fu x.kept;have:=aQ (cnt:=bp) ft x.wait;omega
theorem ta(x:DDisk)(k:Int)(h0:0<=k)(hk:k+bI x<=1000000000000):dF av 106 (.agg x.ds) k (.agg (ql k x).ds) (k+bI x):=by
 have n0:=aQ (cnt:=bj) fu x.kept;have n1:=aQ (cnt:=bp) ft x.wait;have hkk:=hk;unfold bI at hkk;refine gW aN func106 rfl call106 ntmps106 (aaK results106) λS P u=>?_;conv=>whnf
 repeat'((first|refine awy ?_|refine Yi 9001 0 ([]) ([.sl (x.wait.map DWrite.ds)]) [] [u 1] (Cj x.kept (k) ac ac) rfl rfl rfl rfl rfl ?_|refine Yi 9001 1 ([.sl ((mkL gm bj (k) x.kept).map bM)]) ([]) [u 0] [] (DN x.wait (k+aT bj x.kept) ac ac) rfl rfl rfl rfl rfl ?_|fail)<;>conv=>whnf)
 refine And.intro ?_ rfl;have e:k+aT bj x.kept+aT bp x.wait=k+bI x:=by unfold bI;omega
 show AP.val (pI (k+aT bj x.kept+aT bp x.wait))=AP.val (pI (k+bI x));rw[e]
def tg(k:Int)(x:DTwo):DTwo:=⟨ql (k) x.a,ql (k+bI x.a) x.b⟩
def bD(x:DTwo):Int:=bI x.a+bI x.b
theorem vM(x:DTwo):0<=bD x:=by
 unfold bD;have:=gh x.a;have:=gh x.b;omega
theorem LT(x:DTwo)(k:Int)(h0:0<=k)(hk:k+bD x<=1000000000000):dF av 101 (.agg x.ds) k (.agg (tg k x).ds) (k+bD x):=by
 have n0:=gh x.a;have n1:=gh x.b;have hkk:=hk;unfold bD at hkk;refine gW aN func101 rfl call101 ntmps101 (aaK results101) λS P u=>?_;conv=>whnf
 repeat'((first|refine awy ?_|refine Yi 9001 0 ([]) (DDisk.ds x.b) [] [u 2,u 3] (ta x.a (k) ac ac) rfl rfl rfl rfl rfl ?_|refine Yi 9001 2 (DDisk.ds (ql (k) x.a)) ([]) [u 0,u 1] [] (ta x.b (k+bI x.a) ac ac) rfl rfl rfl rfl rfl ?_|fail)<;>conv=>whnf)
 refine And.intro ?_ rfl;have e:k+bI x.a+bI x.b=k+bD x:=by unfold bD;omega
 show AP.val (pI (k+bI x.a+bI x.b))=AP.val (pI (k+bD x));rw[e]
def kA(k:Int)(x:DHead):DHead:=⟨x.num,x.base,x.time,mkL ij bi (k) x.seen⟩
def bf(x:DHead):Int:=aT bi x.seen
theorem jQ(x:DHead):0<=bf x:=by
 unfold bf;have:=aQ (cnt:=bi) eC x.seen;omega
theorem y1(x:DHead)(k:Int)(h0:0<=k)(hk:k+bf x<=1000000000000):dF av 102 (.agg x.ds) k (.agg (kA k x).ds) (k+bf x):=by
 have n0:=aQ (cnt:=bi) eC x.seen;have hkk:=hk;unfold bf at hkk;refine gW aN func102 rfl call102 ntmps102 (aaK results102) λS P u=>?_;conv=>whnf
 repeat'(first|refine awy ?_|(refine Yi 9001 3 ([dI x.num]++[dI x.base]++[dI x.time]) ([]) [.int .i64 x.num,.int .i64 x.base,.int .i64 x.time] [] (xf x.seen (k) ac ac) rfl rfl rfl rfl rfl ?_;conv=>whnf)|fail)
 refine And.intro ?_ rfl;have e:k+aT bi x.seen=k+bf x:=by unfold bf;omega
 show AP.val (pI (k+aT bi x.seen))=AP.val (pI (k+bf x));rw[e]
def xi(k:Int)(x:DBook):DBook:=⟨x.base,x.time,mkL gP bu (k) x.entries⟩
def cq(x:DBook):Int:=aT bu x.entries
theorem sw(x:DBook):0<=cq x:=by
 unfold cq;have:=aQ (cnt:=bu) fr x.entries;omega
theorem Jj(x:DBook)(k:Int)(h0:0<=k)(hk:k+cq x<=1000000000000):dF av 103 (.agg x.ds) k (.agg (xi k x).ds) (k+cq x):=by
 have n0:=aQ (cnt:=bu) fr x.entries;have hkk:=hk;unfold cq at hkk;refine gW aN func103 rfl call103 ntmps103 (aaK results103) λS P u=>?_;conv=>whnf
 repeat'(first|refine awy ?_|(refine Yi 9001 2 ([dI x.base]++[dI x.time]) ([]) [.int .i64 x.base,.int .i64 x.time] [] (DK x.entries (k) ac ac) rfl rfl rfl rfl rfl ?_;conv=>whnf)|fail)
 refine And.intro ?_ rfl;have e:k+aT bu x.entries=k+cq x:=by unfold cq;omega
 show AP.val (pI (k+aT bu x.entries))=AP.val (pI (k+cq x));rw[e]
def fE(k:Int)(x:DLogNode):DLogNode:=⟨tg (k) x.two,kA (k+bD x.two) x.head,kA (k+bD x.two+bf x.head) x.nxt,x.more,xi (k+bD x.two+bf x.head+bf x.nxt) x.book,mkL ij bi (k+bD x.two+bf x.head+bf x.nxt+cq x.book) x.seen,x.durable,mkL lh cg (k+bD x.two+bf x.head+bf x.nxt+cq x.book+aT bi x.seen) x.owe⟩
def aP(x:DLogNode):Int:=bD x.two+bf x.head+bf x.nxt+cq x.book+aT bi x.seen+aT cg x.owe
theorem mQ(x:DLogNode):0<=aP x:=by
 unfold aP;have:=vM x.two;have:=jQ x.head;have:=jQ x.nxt;have:=sw x.book;have:=aQ (cnt:=bi) eC x.seen;have:=aQ (cnt:=cg) hL x.owe;omega
def fT(x:DLogNode)(u:Nat->Value):List Value:=[u 0,u 1,u 2,u 3,.int .i64 x.head.num,.int .i64 x.head.base,.int .i64 x.head.time,u 7,.int .i64 x.nxt.num,.int .i64 x.nxt.base,.int .i64 x.nxt.time,u 11,.bool x.more,.int .i64 x.book.base,.int .i64 x.book.time,u 15,u 16,.int .i64 x.durable,u 18]
theorem Ck(x:DLogNode)(k:Int)(h0:0<=k)(hk:k+aP x<=1000000000000):dF av 36 (.agg x.ds) k (.agg (fE k x).ds) (k+aP x):=by
 have n0:=vM x.two;have n1:=jQ x.head;have n2:=jQ x.nxt;have n3:=sw x.book;have n4:=aQ (cnt:=bi) eC x.seen;have n5:=aQ (cnt:=cg) hL x.owe;have hkk:=hk;unfold aP at hkk;refine gW aN func36 rfl call36 ntmps36 (aaK results36) λS P u=>?_;conv=>whnf
 repeat'((first|refine awy ?_|refine Yi 9001 0 ([]) (DHead.ds x.head++DHead.ds x.nxt++[dB x.more]++DBook.ds x.book++[.sl (x.seen.map DMark.ds)]++[dI x.durable]++[.sl (x.owe.map DAck.ds)]) ((fT x u).take 0) ((fT x u).drop 4) (LT x.two (k) ac ac) rfl rfl rfl rfl rfl ?_|refine Yi 9001 4 (DTwo.ds (tg (k) x.two)) (DHead.ds x.nxt++[dB x.more]++DBook.ds x.book++[.sl (x.seen.map DMark.ds)]++[dI x.durable]++[.sl (x.owe.map DAck.ds)]) ((fT x u).take 4) ((fT x u).drop 8) (y1 x.head (k+bD x.two) ac ac) rfl rfl rfl rfl rfl ?_|refine Yi 9001 8 (DTwo.ds (tg (k) x.two)++DHead.ds (kA (k+bD x.two) x.head)) ([dB x.more]++DBook.ds x.book++[.sl (x.seen.map DMark.ds)]++[dI x.durable]++[.sl (x.owe.map DAck.ds)]) ((fT x u).take 8) ((fT x u).drop 12) (y1 x.nxt (k+bD x.two+bf x.head) ac ac) rfl rfl rfl rfl rfl ?_|refine Yi 9001 13 (DTwo.ds (tg (k) x.two)++DHead.ds (kA (k+bD x.two) x.head)++DHead.ds (kA (k+bD x.two+bf x.head) x.nxt)++[dB x.more]) ([.sl (x.seen.map DMark.ds)]++[dI x.durable]++[.sl (x.owe.map DAck.ds)]) ((fT x u).take 13) ((fT x u).drop 16) (Jj x.book (k+bD x.two+bf x.head+bf x.nxt) ac ac) rfl rfl rfl rfl rfl ?_|refine Yi 9001 16 (DTwo.ds (tg (k) x.two)++DHead.ds (kA (k+bD x.two) x.head)++DHead.ds (kA (k+bD x.two+bf x.head) x.nxt)++[dB x.more]++DBook.ds (xi (k+bD x.two+bf x.head+bf x.nxt) x.book)) ([dI x.durable]++[.sl (x.owe.map DAck.ds)]) ((fT x u).take 16) ((fT x u).drop 17) (xf x.seen (k+bD x.two+bf x.head+bf x.nxt+cq x.book) ac ac) rfl rfl rfl rfl rfl ?_|refine Yi 9001 18 (DTwo.ds (tg (k) x.two)++DHead.ds (kA (k+bD x.two) x.head)++DHead.ds (kA (k+bD x.two+bf x.head) x.nxt)++[dB x.more]++DBook.ds (xi (k+bD x.two+bf x.head+bf x.nxt) x.book)++[.sl ((mkL ij bi (k+bD x.two+bf x.head+bf x.nxt+cq x.book) x.seen).map DMark.ds)]++[dI x.durable]) ([]) ((fT x u).take 18) ((fT x u).drop 19) (Ji x.owe (k+bD x.two+bf x.head+bf x.nxt+cq x.book+aT bi x.seen) ac ac) rfl rfl rfl rfl rfl ?_|fail)<;>conv=>whnf)
 refine And.intro ?_ rfl;have e:k+bD x.two+bf x.head+bf x.nxt+cq x.book+aT bi x.seen+aT cg x.owe=k+aP x:=by unfold aP;omega
 show AP.val (pI (k+bD x.two+bf x.head+bf x.nxt+cq x.book+aT bi x.seen+aT cg x.owe))=AP.val (pI (k+aP x));rw[e]
def Cs(k:Int)(x:DState):DState:=⟨x.index,x.time,mkL iI bw (k) x.pairs,mkL ll cj (k+aT bw x.pairs) x.jobs,x.lease⟩
def cZ(x:DState):Int:=aT bw x.pairs+aT cj x.jobs
theorem pX(x:DState):0<=cZ x:=by
 unfold cZ;have:=aQ (cnt:=bw) gd x.pairs;have:=aQ (cnt:=cj) ib x.jobs;omega
theorem Hh(x:DState)(k:Int)(h0:0<=k)(hk:k+cZ x<=1000000000000):dF av 107 (.agg x.ds) k (.agg (Cs k x).ds) (k+cZ x):=by
 have n0:=aQ (cnt:=bw) gd x.pairs;have n1:=aQ (cnt:=cj) ib x.jobs;have hkk:=hk;unfold cZ at hkk;refine gW aN func107 rfl call107 ntmps107 (aaK results107) λS P u=>?_;conv=>whnf
 repeat'((first|refine awy ?_|refine Yi 9001 2 ([dI x.index]++[dI x.time]) ([.sl (x.jobs.map DJob.ds)]++DLease.ds x.lease) [.int .i64 x.index,.int .i64 x.time] [u 3,.int .i64 x.lease.holder,.int .i64 x.lease.epoch,.int .i64 x.lease.til] (Hg x.pairs (k) ac ac) rfl rfl rfl rfl rfl ?_|refine Yi 9001 3 ([dI x.index]++[dI x.time]++[.sl ((mkL iI bw (k) x.pairs).map DPair.ds)]) (DLease.ds x.lease) [.int .i64 x.index,.int .i64 x.time,u 2] [.int .i64 x.lease.holder,.int .i64 x.lease.epoch,.int .i64 x.lease.til] (Jp x.jobs (k+aT bw x.pairs) ac ac) rfl rfl rfl rfl rfl ?_|fail)<;>conv=>whnf)
 refine And.intro ?_ rfl;have e:k+aT bw x.pairs+aT cj x.jobs=k+cZ x:=by unfold cZ;omega
 show AP.val (pI (k+aT bw x.pairs+aT cj x.jobs))=AP.val (pI (k+cZ x));rw[e]
def jv(k:Int)(x:DStore):DStore:=⟨ql (k) x.disk,Cs (k+bI x.disk) x.state,x.num,x.last,x.busy⟩
def aZ(x:DStore):Int:=bI x.disk+cZ x.state
theorem pY(x:DStore):0<=aZ x:=by
 unfold aZ;have:=gh x.disk;have:=pX x.state;omega
theorem Hi(x:DStore)(k:Int)(h0:0<=k)(hk:k+aZ x<=1000000000000):dF av 37 (.agg x.ds) k (.agg (jv k x).ds) (k+aZ x):=by
 have n0:=gh x.disk;have n1:=pX x.state;have hkk:=hk;unfold aZ at hkk;refine gW aN func37 rfl call37 ntmps37 (aaK results37) λS P u=>?_;conv=>whnf
 repeat'((first|refine awy ?_|refine Yi 9001 0 ([]) (DState.ds x.state++[dI x.num]++[dI x.last]++[dI x.busy]) [] [.int .i64 x.state.index,.int .i64 x.state.time,u 4,u 5,.int .i64 x.state.lease.holder,.int .i64 x.state.lease.epoch,.int .i64 x.state.lease.til,.int .i64 x.num,.int .i64 x.last,.int .i64 x.busy] (ta x.disk (k) ac ac) rfl rfl rfl rfl rfl ?_|refine Yi 9001 2 (DDisk.ds (ql (k) x.disk)) ([dI x.num]++[dI x.last]++[dI x.busy]) [u 0,u 1] [.int .i64 x.num,.int .i64 x.last,.int .i64 x.busy] (Hh x.state (k+bI x.disk) ac ac) rfl rfl rfl rfl rfl ?_|fail)<;>conv=>whnf)
 refine And.intro ?_ rfl;have e:k+bI x.disk+cZ x.state=k+aZ x:=by unfold aZ;omega
 show AP.val (pI (k+bI x.disk+cZ x.state))=AP.val (pI (k+aZ x));rw[e]
def Hm(k:Int)(x:DJobs):DJobs:=⟨x.index,x.time,x.holder,x.epoch,x.til,mkL li ch (k) x.opens⟩
def dG(x:DJobs):Int:=aT ch x.opens
theorem sy(x:DJobs):0<=dG x:=by
 unfold dG;have:=aQ (cnt:=ch) hX x.opens;omega
theorem Jq(x:DJobs)(k:Int)(h0:0<=k)(hk:k+dG x<=1000000000000):dF av 204 (.agg x.ds) k (.agg (Hm k x).ds) (k+dG x):=by
 have n0:=aQ (cnt:=ch) hX x.opens;have hkk:=hk;unfold dG at hkk;refine gW aN func204 rfl call204 ntmps204 (aaK results204) λS P u=>?_;conv=>whnf
 repeat'(first|refine awy ?_|(refine Yi 9001 5 ([dI x.index]++[dI x.time]++[dI x.holder]++[dI x.epoch]++[dI x.til]) ([]) [.int .i64 x.index,.int .i64 x.time,.int .i64 x.holder,.int .i64 x.epoch,.int .i64 x.til] [] (Jl x.opens (k) ac ac) rfl rfl rfl rfl rfl ?_;conv=>whnf)|fail)
 refine And.intro ?_ rfl;have e:k+aT ch x.opens=k+dG x:=by unfold dG;omega
 show AP.val (pI (k+aT ch x.opens))=AP.val (pI (k+dG x));rw[e]
def Hn(k:Int)(x:DView):DView:=⟨Hm (k) x.jobs⟩
def dH(x:DView):Int:=dG x.jobs
theorem sA(x:DView):0<=dH x:=by
 unfold dH;have:=sy x.jobs;omega
theorem Jt(x:DView)(k:Int)(h0:0<=k)(hk:k+dH x<=1000000000000):dF av 108 (.agg x.ds) k (.agg (Hn k x).ds) (k+dH x):=by
 have n0:=sy x.jobs;have hkk:=hk;unfold dH at hkk;refine gW aN func108 rfl call108 ntmps108 (aaK results108) λS P u=>?_;conv=>whnf
 repeat'(first|refine awy ?_|(refine Yi 9001 0 ([]) ([]) [] [] (Jq x.jobs (k) ac ac) rfl rfl rfl rfl rfl ?_;conv=>whnf)|fail)
 refine And.intro ?_ rfl;have e:k+dG x.jobs=k+dH x:=by unfold dH;omega
 show AP.val (pI (k+dG x.jobs))=AP.val (pI (k+dH x));rw[e]
def fF(k:Int)(x:DSched):DSched:=⟨x.id,x.seq,Hn (k) x.view,x.busy,x.op,x.index⟩
def aR(x:DSched):Int:=dH x.view
theorem iZ(x:DSched):0<=aR x:=by
 unfold aR;have:=sA x.view;omega
def M1(x:DSched)(u:Nat->Value):List Value:=[.int .i64 x.id,.int .i64 x.seq,.int .i64 x.view.jobs.index,.int .i64 x.view.jobs.time,.int .i64 x.view.jobs.holder,.int .i64 x.view.jobs.epoch,.int .i64 x.view.jobs.til,u 7,.bool x.busy,.int .i64 x.op.kind,.int .i64 x.op.a,.int .i64 x.op.b,.int .i64 x.op.c,.int .i64 x.op.d,.int .i64 x.index]
theorem xg(x:DSched)(k:Int)(h0:0<=k)(hk:k+aR x<=1000000000000):dF av 38 (.agg x.ds) k (.agg (fF k x).ds) (k+aR x):=by
 have n0:=sA x.view;have hkk:=hk;unfold aR at hkk;refine gW aN func38 rfl call38 ntmps38 (aaK results38) λS P u=>?_;conv=>whnf
 repeat'(first|refine awy ?_|(refine Yi 9001 2 ([dI x.id]++[dI x.seq]) ([dB x.busy]++DOp.ds x.op++[dI x.index]) ((M1 x u).take 2) ((M1 x u).drop 8) (Jt x.view (k) ac ac) rfl rfl rfl rfl rfl ?_;conv=>whnf)|fail)
 refine And.intro ?_ rfl;have e:k+dH x.view=k+aR x:=by unfold aR;omega
 show AP.val (pI (k+dH x.view))=AP.val (pI (k+aR x));rw[e]
def gR(k:Int)(x:DClient):DClient:=⟨x.id,mkL iJ bx (k) x.todo,mkL lk ci (k+aT bx x.todo) x.gots,x.last⟩
def aY(x:DClient):Int:=aT bx x.todo+aT ci x.gots
theorem iw(x:DClient):0<=aY x:=by
 unfold aY;have:=aQ (cnt:=bx) ge x.todo;have:=aQ (cnt:=ci) ia x.gots;omega
theorem vh(x:DClient)(k:Int)(h0:0<=k)(hk:k+aY x<=1000000000000):dF av 39 (.agg x.ds) k (.agg (gR k x).ds) (k+aY x):=by
 have n0:=aQ (cnt:=bx) ge x.todo;have n1:=aQ (cnt:=ci) ia x.gots;have hkk:=hk;unfold aY at hkk;refine gW aN func39 rfl call39 ntmps39 (aaK results39) λS P u=>?_;conv=>whnf
 repeat'((first|refine awy ?_|refine Yi 9001 1 ([dI x.id]) ([.sl (x.gots.map DGot.ds)]++[dI x.last]) [.int .i64 x.id] [u 2,.int .i64 x.last] (Hk x.todo (k) ac ac) rfl rfl rfl rfl rfl ?_|refine Yi 9001 2 ([dI x.id]++[.sl ((mkL iJ bx (k) x.todo).map DWant.ds)]) ([dI x.last]) [.int .i64 x.id,u 1] [.int .i64 x.last] (Jn x.gots (k+aT bx x.todo) ac ac) rfl rfl rfl rfl rfl ?_|fail)<;>conv=>whnf)
 refine And.intro ?_ rfl;have e:k+aT bx x.todo+aT ci x.gots=k+aY x:=by unfold aY;omega
 show AP.val (pI (k+aT bx x.todo+aT ci x.gots))=AP.val (pI (k+aY x));rw[e]
def Cr(k:Int)(x:DNet):DNet:=⟨mkL kx bO (k) x.flight,mkL jd bK (k+aT bO x.flight) x.cuts⟩
def cO(x:DNet):Int:=aT bO x.flight+aT bK x.cuts
theorem vL(x:DNet):0<=cO x:=by
 unfold cO;have:=aQ (cnt:=bO) ic x.flight;have:=aQ (cnt:=bK) f9 x.cuts;omega
theorem LS(x:DNet)(k:Int)(h0:0<=k)(hk:k+cO x<=1000000000000):dF av 40 (.agg x.ds) k (.agg (Cr k x).ds) (k+cO x):=by
 have n0:=aQ (cnt:=bO) ic x.flight;have n1:=aQ (cnt:=bK) f9 x.cuts;have hkk:=hk;unfold cO at hkk;refine gW aN func40 rfl call40 ntmps40 (aaK results40) λS P u=>?_;conv=>whnf
 repeat'((first|refine awy ?_|refine Yi 9001 0 ([]) ([.sl (x.cuts.map DLink.ds)]) [] [u 1] (Js x.flight (k) ac ac) rfl rfl rfl rfl rfl ?_|refine Yi 9001 1 ([.sl ((mkL kx bO (k) x.flight).map DMsg.ds)]) ([]) [u 0] [] (Hd x.cuts (k+aT bO x.flight) ac ac) rfl rfl rfl rfl rfl ?_|fail)<;>conv=>whnf)
 refine And.intro ?_ rfl;have e:k+aT bO x.flight+aT bK x.cuts=k+cO x:=by unfold cO;omega
 show AP.val (pI (k+aT bO x.flight+aT bK x.cuts))=AP.val (pI (k+cO x));rw[e]
def JC(k:Int)(x:DWorld):DWorld:=⟨fE (k) x.log,jv (k+aP x.log) x.store,fF (k+aP x.log+aZ x.store) x.left,fF (k+aP x.log+aZ x.store+aR x.left) x.right,gR (k+aP x.log+aZ x.store+aR x.left+aR x.right) x.ann,gR (k+aP x.log+aZ x.store+aR x.left+aR x.right+aY x.ann) x.bob,Cr (k+aP x.log+aZ x.store+aR x.left+aR x.right+aY x.ann+aY x.bob) x.net,mkL mI cI (k+aP x.log+aZ x.store+aR x.left+aR x.right+aY x.ann+aY x.bob+cO x.net) x.clocks,mkL mB cI (k+aP x.log+aZ x.store+aR x.left+aR x.right+aY x.ann+aY x.bob+cO x.net+aT cI x.clocks) x.up⟩
def dw(x:DWorld):Int:=aP x.log+aZ x.store+aR x.left+aR x.right+aY x.ann+aY x.bob+cO x.net+aT cI x.clocks+aT cI x.up
theorem wL(x:DWorld):0<=dw x:=by
 unfold dw;have:=mQ x.log;have:=pY x.store;have:=iZ x.left;have:=iZ x.right;have:=iw x.ann;have:=iw x.bob;have:=vL x.net;have:=aQ (cnt:=cI) gN x.clocks;have:=aQ (cnt:=cI) gN x.up;omega
def fL(x:DWorld)(u:Nat->Value):List Value:=[u 0,u 1,u 2,u 3,.int .i64 x.log.head.num,.int .i64 x.log.head.base,.int .i64 x.log.head.time,u 7,.int .i64 x.log.nxt.num,.int .i64 x.log.nxt.base,.int .i64 x.log.nxt.time,u 11,.bool x.log.more,.int .i64 x.log.book.base,.int .i64 x.log.book.time,u 15,u 16,.int .i64 x.log.durable,u 18,u 19,u 20,.int .i64 x.store.state.index,.int .i64 x.store.state.time,u 23,u 24,.int .i64 x.store.state.lease.holder,.int .i64 x.store.state.lease.epoch,.int .i64 x.store.state.lease.til,.int .i64 x.store.num,.int .i64 x.store.last,.int .i64 x.store.busy,.int .i64 x.left.id,.int .i64 x.left.seq,.int .i64 x.left.view.jobs.index,.int .i64 x.left.view.jobs.time,.int .i64 x.left.view.jobs.holder,.int .i64 x.left.view.jobs.epoch,.int .i64 x.left.view.jobs.til,u 38,.bool x.left.busy,.int .i64 x.left.op.kind,.int .i64 x.left.op.a,.int .i64 x.left.op.b,.int .i64 x.left.op.c,.int .i64 x.left.op.d,.int .i64 x.left.index,.int .i64 x.right.id,.int .i64 x.right.seq,.int .i64 x.right.view.jobs.index,.int .i64 x.right.view.jobs.time,.int .i64 x.right.view.jobs.holder,.int .i64 x.right.view.jobs.epoch,.int .i64 x.right.view.jobs.til,u 53,.bool x.right.busy,.int .i64 x.right.op.kind,.int .i64 x.right.op.a,.int .i64 x.right.op.b,.int .i64 x.right.op.c,.int .i64 x.right.op.d,.int .i64 x.right.index,.int .i64 x.ann.id,u 62,u 63,.int .i64 x.ann.last,.int .i64 x.bob.id,u 66,u 67,.int .i64 x.bob.last,u 69,u 70,u 71,u 72]
theorem xh(x:DWorld)(k:Int)(h0:0<=k)(hk:k+dw x<=1000000000000):dF av 9 (.agg x.ds) k (.agg (JC k x).ds) (k+dw x):=by
 have n0:=mQ x.log;have n1:=pY x.store;have n2:=iZ x.left;have n3:=iZ x.right;have n4:=iw x.ann;have n5:=iw x.bob;have n6:=vL x.net;have n7:=aQ (cnt:=cI) gN x.clocks;have n8:=aQ (cnt:=cI) gN x.up;have hkk:=hk;unfold dw at hkk;refine gW aN func9 rfl call9 ntmps9 (aaK results9) λS P u=>?_;conv=>whnf
 repeat'((first|refine awy ?_|refine Yi 9001 0 ([]) (DStore.ds x.store++DSched.ds x.left++DSched.ds x.right++DClient.ds x.ann++DClient.ds x.bob++DNet.ds x.net++[.sl (x.clocks.map eI)]++[.sl (x.up.map eB)]) ((fL x u).take 0) ((fL x u).drop 19) (Ck x.log (k) ac ac) rfl rfl rfl rfl rfl ?_|refine Yi 9001 19 (DLogNode.ds (fE (k) x.log)) (DSched.ds x.left++DSched.ds x.right++DClient.ds x.ann++DClient.ds x.bob++DNet.ds x.net++[.sl (x.clocks.map eI)]++[.sl (x.up.map eB)]) ((fL x u).take 19) ((fL x u).drop 31) (Hi x.store (k+aP x.log) ac ac) rfl rfl rfl rfl rfl ?_|refine Yi 9001 31 (DLogNode.ds (fE (k) x.log)++DStore.ds (jv (k+aP x.log) x.store)) (DSched.ds x.right++DClient.ds x.ann++DClient.ds x.bob++DNet.ds x.net++[.sl (x.clocks.map eI)]++[.sl (x.up.map eB)]) ((fL x u).take 31) ((fL x u).drop 46) (xg x.left (k+aP x.log+aZ x.store) ac ac) rfl rfl rfl rfl rfl ?_|refine Yi 9001 46 (DLogNode.ds (fE (k) x.log)++DStore.ds (jv (k+aP x.log) x.store)++DSched.ds (fF (k+aP x.log+aZ x.store) x.left)) (DClient.ds x.ann++DClient.ds x.bob++DNet.ds x.net++[.sl (x.clocks.map eI)]++[.sl (x.up.map eB)]) ((fL x u).take 46) ((fL x u).drop 61) (xg x.right (k+aP x.log+aZ x.store+aR x.left) ac ac) rfl rfl rfl rfl rfl ?_|refine Yi 9001 61 (DLogNode.ds (fE (k) x.log)++DStore.ds (jv (k+aP x.log) x.store)++DSched.ds (fF (k+aP x.log+aZ x.store) x.left)++DSched.ds (fF (k+aP x.log+aZ x.store+aR x.left) x.right)) (DClient.ds x.bob++DNet.ds x.net++[.sl (x.clocks.map eI)]++[.sl (x.up.map eB)]) ((fL x u).take 61) ((fL x u).drop 65) (vh x.ann (k+aP x.log+aZ x.store+aR x.left+aR x.right) ac ac) rfl rfl rfl rfl rfl ?_|refine Yi 9001 65 (DLogNode.ds (fE (k) x.log)++DStore.ds (jv (k+aP x.log) x.store)++DSched.ds (fF (k+aP x.log+aZ x.store) x.left)++DSched.ds (fF (k+aP x.log+aZ x.store+aR x.left) x.right)++DClient.ds (gR (k+aP x.log+aZ x.store+aR x.left+aR x.right) x.ann)) (DNet.ds x.net++[.sl (x.clocks.map eI)]++[.sl (x.up.map eB)]) ((fL x u).take 65) ((fL x u).drop 69) (vh x.bob (k+aP x.log+aZ x.store+aR x.left+aR x.right+aY x.ann) ac ac) rfl rfl rfl rfl rfl ?_|refine Yi 9001 69 (DLogNode.ds (fE (k) x.log)++DStore.ds (jv (k+aP x.log) x.store)++DSched.ds (fF (k+aP x.log+aZ x.store) x.left)++DSched.ds (fF (k+aP x.log+aZ x.store+aR x.left) x.right)++DClient.ds (gR (k+aP x.log+aZ x.store+aR x.left+aR x.right) x.ann)++DClient.ds (gR (k+aP x.log+aZ x.store+aR x.left+aR x.right+aY x.ann) x.bob)) ([.sl (x.clocks.map eI)]++[.sl (x.up.map eB)]) ((fL x u).take 69) ((fL x u).drop 71) (LS x.net (k+aP x.log+aZ x.store+aR x.left+aR x.right+aY x.ann+aY x.bob) ac ac) rfl rfl rfl rfl rfl ?_|refine Yi 9001 71 (DLogNode.ds (fE (k) x.log)++DStore.ds (jv (k+aP x.log) x.store)++DSched.ds (fF (k+aP x.log+aZ x.store) x.left)++DSched.ds (fF (k+aP x.log+aZ x.store+aR x.left) x.right)++DClient.ds (gR (k+aP x.log+aZ x.store+aR x.left+aR x.right) x.ann)++DClient.ds (gR (k+aP x.log+aZ x.store+aR x.left+aR x.right+aY x.ann) x.bob)++DNet.ds (Cr (k+aP x.log+aZ x.store+aR x.left+aR x.right+aY x.ann+aY x.bob) x.net)) ([.sl (x.up.map eB)]) ((fL x u).take 71) ((fL x u).drop 72) (DL x.clocks (k+aP x.log+aZ x.store+aR x.left+aR x.right+aY x.ann+aY x.bob+cO x.net) ac ac) rfl rfl rfl rfl rfl ?_|refine Yi 9001 72 (DLogNode.ds (fE (k) x.log)++DStore.ds (jv (k+aP x.log) x.store)++DSched.ds (fF (k+aP x.log+aZ x.store) x.left)++DSched.ds (fF (k+aP x.log+aZ x.store+aR x.left) x.right)++DClient.ds (gR (k+aP x.log+aZ x.store+aR x.left+aR x.right) x.ann)++DClient.ds (gR (k+aP x.log+aZ x.store+aR x.left+aR x.right+aY x.ann) x.bob)++DNet.ds (Cr (k+aP x.log+aZ x.store+aR x.left+aR x.right+aY x.ann+aY x.bob) x.net)++[.sl ((mkL mI cI (k+aP x.log+aZ x.store+aR x.left+aR x.right+aY x.ann+aY x.bob+cO x.net) x.clocks).map eI)]) ([]) ((fL x u).take 72) ((fL x u).drop 73) (Hb x.up (k+aP x.log+aZ x.store+aR x.left+aR x.right+aY x.ann+aY x.bob+cO x.net+aT cI x.clocks) ac ac) rfl rfl rfl rfl rfl ?_|fail)<;>conv=>whnf)
 refine And.intro ?_ rfl;have e:k+aP x.log+aZ x.store+aR x.left+aR x.right+aY x.ann+aY x.bob+cO x.net+aT cI x.clocks+aT cI x.up=k+dw x:=by unfold dw;omega
 show AP.val (pI (k+aP x.log+aZ x.store+aR x.left+aR x.right+aY x.ann+aY x.bob+cO x.net+aT cI x.clocks+aT cI x.up))=AP.val (pI (k+dw x));rw[e]
theorem wE{α:Type}{c:α->Int}{f:α->Nat}(h:∀a,c a<=9*(1+(f a:Int))):∀l:List α,aT c l<=9*(jn f l:Int)
 |[]=>by simp[aT,jn]
 |a::r=>by have:=wE h r;have:=h a;simp only[aT,jn];omega
theorem eg{α:Type}{c:α->Int}(h:∀a,c a<=9):∀l:List α,aT c l<=9*(l.length:Int)
 |[]=>by simp[aT]
 |a::r=>by have:=eg h r;have:=h a;simp only[aT,List.length_cons];omega
theorem Lh(x:DMsg):bO x<=9*(1+(DMsg.cnt x:Int)):=by
 have:=eg (c:=cI) (λa=>by unfold cI;omega) x.row;unfold bO DMsg.cnt;omega
theorem GJ(x:DWrite):bp x<=9*(1+(DWrite.cnt x:Int)):=by
 have:=eg (c:=cI) (λa=>by unfold cI;omega) x.row;unfold bp DWrite.cnt;omega
theorem GK(y:(List Int)):bj y<=9*(1+(((y.length:Nat)):Int)):=by
 have:aT cI y<=9*(y.length:Int):=eg (c:=cI) (λa=>by unfold cI;omega) y;unfold bj;omega
theorem sx(x:DDisk):bI x<=9*(x.cnt:Int):=by
 have:=wE (c:=bj) (f:=(λl=>l.length)) GK x.kept;have:=wE (c:=bp) (f:=DWrite.cnt) GJ x.wait;unfold bI DDisk.cnt;omega
theorem Lj(x:DTwo):bD x<=9*(x.cnt:Int):=by
 have:=sx x.a;have:=sx x.b;unfold bD DTwo.cnt;omega
theorem yC(x:DHead):bf x<=9*(x.cnt:Int):=by
 have:=eg (c:=bi) (λa=>by unfold bi;omega) x.seen;unfold bf DHead.cnt;omega
theorem It(x:DBook):cq x<=9*(x.cnt:Int):=by
 have:=eg (c:=bu) (λa=>by unfold bu;omega) x.entries;unfold cq DBook.cnt;omega
theorem Bs(x:DLogNode):aP x<=9*(x.cnt:Int):=by
 have:=Lj x.two;have:=yC x.head;have:=yC x.nxt;have:=It x.book;have:=eg (c:=bi) (λa=>by unfold bi;omega) x.seen;have:=eg (c:=cg) (λa=>by unfold cg;omega) x.owe;unfold aP DLogNode.cnt;omega
theorem GL(x:DState):cZ x<=9*(x.cnt:Int):=by
 have:=eg (c:=bw) (λa=>by unfold bw;omega) x.pairs;have:=eg (c:=cj) (λa=>by unfold cj;omega) x.jobs;unfold cZ DState.cnt;omega
theorem GM(x:DStore):aZ x<=9*(x.cnt:Int):=by
 have:=sx x.disk;have:=GL x.state;unfold aZ DStore.cnt;omega
theorem Iu(x:DJobs):dG x<=9*(x.cnt:Int):=by
 have:=eg (c:=ch) (λa=>by unfold ch;omega) x.opens;unfold dG DJobs.cnt;omega
theorem Iv(x:DView):dH x<=9*(x.cnt:Int):=by
 have:=Iu x.jobs;unfold dH DView.cnt;omega
theorem wJ(x:DSched):aR x<=9*(x.cnt:Int):=by
 have:=Iv x.view;unfold aR DSched.cnt;omega
theorem uU(x:DClient):aY x<=9*(x.cnt:Int):=by
 have:=eg (c:=bx) (λa=>by unfold bx;omega) x.todo;have:=eg (c:=ci) (λa=>by unfold ci;omega) x.gots;unfold aY DClient.cnt;omega
theorem Li(x:DNet):cO x<=9*(x.cnt:Int):=by
 have:=wE (c:=bO) (f:=DMsg.cnt) Lh x.flight;have:=eg (c:=bK) (λa=>by unfold bK;omega) x.cuts;unfold cO DNet.cnt;omega
theorem wK(x:DWorld):dw x<=9*(x.cnt:Int):=by
 have:=Bs x.log;have:=GM x.store;have:=wJ x.left;have:=wJ x.right;have:=uU x.ann;have:=uU x.bob;have:=Li x.net;have:=eg (c:=cI) (λa=>by unfold cI;omega) x.clocks;have:=eg (c:=cI) (λa=>by unfold cI;omega) x.up;unfold dw DWorld.cnt;omega
theorem ky{α β:Type}{mk:Int->α->α}{cnt:α->Int}(f:α->β)(l:List α)(k0:Int){k:Nat}(hk:k<l.length):((mkL mk cnt k0 l).map f)[k]? =some (f (mk (k0+aT cnt (l.take k)) l[k])):=by
 rw[List.getElem?_map,List.getElem?_eq_getElem (by rw[cT];exact hk),M0 l k0 hk];rfl
theorem ndL{n:Int}(h:0<=n):decide (n<0)=false:=by simp only[decide_eq_false_iff_not];omega
theorem gk(l:(List Int))(hs:l.length<=1048576)(k:Int)(h0:0<=k)(hk:k+aT cI l<=1000000000000):aM av 48 [.one (.sl ((mkL mI cI k l).map eI)),pI k] (.val (pI (k+aT cI l))):=by
 have hn9:l.length<=1048576:=hs;have hl:(mkL mI cI k l).length=l.length:=cT _ _;have hcn:=bC (cnt:=cI) gN l;refine pO func48 call48 ntmps48 results48 λS=>?_;conv=>whnf
 repeat'(first|refine awz ?_|fail)
 refine X5 (λp:Nat×Int=>p.1<=l.length/\p.2=k+aT cI (l.take p.1)) (1::rg 4 16) (λp=>[(1,vI .i64 p.2),(5,vI .i64 (p.1:Int))]) (λ_=>[]) (λp=>l.length-p.1) (0,k) ⟨zero_le _,by simp[aT]⟩ ?_ X4 (λp hR=>?_)<;>(conv=>whnf)
 ·exact whd
 ·obtain⟨j,q⟩:=p;obtain⟨hj,hq⟩:=hR;simp only at hj hq;by_cases hlt:j<l.length
  ·have hc1:=hcn (j+1);rw[bh hlt]at hc1;have hc0:0<=aT cI (l.take j):=aQ gN _;have hn:=gN l[j];have hq1:0<=q:=ac;have hq2:q+cI l[j]<=1000000000000:=ac;have he:((mkL mI cI k l).map eI)[j]? =some (eI (mI q l[j])):=by rw[hq];exact ky eI l k hlt
   have hc:decide ((j:Int)<(((mkL mI cI k l).map eI).length:Int))=true:=by simp[hl];omega
   have e9:(cI l[j]:Int)=1:=rfl;have hq3:q+1<=1000000000000:=ac;have g0:=neI (q);clear hc1 hc0 hcn hn;repeat'((first|refine awz ?_|refine X8 j _ rfl he ?_|refine X3 ac ac ?_|fail)<;>conv=>whnf)
   refine bd.mk ⟨(j+1,q+1),⟨hlt,by simp only;rw[bh hlt];omega⟩,by simp only;omega,?_,X4⟩;exact hds
  ·have e:j=l.length:=ac;subst e;have hc:decide ((l.length:Int)<(((mkL mI cI k l).map eI).length:Int))=false:=by simp[hl]
   repeat'(first|refine awz ?_|fail)
   all_goals rw[hq,take_length]
theorem va(l:(List (List Int)))(hs:l.length<=1048576/\∀y∈l,y.length<=1048576)(k:Int)(h0:0<=k)(hk:k+aT bj l<=1000000000000):aM av 206 [.one (.sl ((mkL gm bj k l).map bM)),pI k] (.val (pI (k+aT bj l))):=by
 have hn9:l.length<=1048576:=hs.1;have hl:(mkL gm bj k l).length=l.length:=cT _ _;have hcn:=bC (cnt:=bj) fu l;refine pO func206 call206 ntmps206 results206 λS=>?_;conv=>whnf
 repeat'(first|refine awz ?_|fail)
 refine X5 (λp:Nat×Int=>p.1<=l.length/\p.2=k+aT bj (l.take p.1)) (1::rg 4 16) (λp=>[(1,vI .i64 p.2),(5,vI .i64 (p.1:Int))]) (λ_=>[]) (λp=>l.length-p.1) (0,k) ⟨zero_le _,by simp[aT]⟩ ?_ X4 (λp hR=>?_)<;>(conv=>whnf)
 ·exact whd
 ·obtain⟨j,q⟩:=p;obtain⟨hj,hq⟩:=hR;simp only at hj hq;by_cases hlt:j<l.length
  ·have hc1:=hcn (j+1);rw[bh hlt]at hc1;have hc0:0<=aT bj (l.take j):=aQ fu _;have hn:=fu l[j];have hq1:0<=q:=ac;have hq2:q+bj l[j]<=1000000000000:=ac;have he:((mkL gm bj k l).map bM)[j]? =some (bM (gm q l[j])):=by rw[hq];exact ky bM l k hlt
   have hc:decide ((j:Int)<(((mkL gm bj k l).map bM).length:Int))=true:=by simp[hl];omega
   have e9:(bj l[j]:Int)=aT cI l[j]:=rfl;have hi0:=aQ gN l[j];have hq3:q+aT cI l[j]<=1000000000000:=ac;have g0:decide (q+aT cI l[j]<0)=false:=ndL ac;clear hc1 hc0 hcn hn;repeat'((first|refine awz ?_|refine X8 j _ rfl he ?_|refine cP (gk l[j] (hs.2 _ (List.getElem_mem hlt)) (q) ac ac) ?_|refine X3 ac ac ?_|fail)<;>conv=>whnf)
   refine bd.mk ⟨(j+1,q+aT cI l[j]),⟨hlt,by simp only;rw[bh hlt];omega⟩,by simp only;omega,?_,X4⟩;exact hds
  ·have e:j=l.length:=ac;subst e;have hc:decide ((l.length:Int)<(((mkL gm bj k l).map bM).length:Int))=false:=by simp[hl]
   repeat'(first|refine awz ?_|fail)
   all_goals rw[hq,take_length]
theorem wU(l:(List DWrite))(hs:l.length<=1048576/\∀y∈l,Yu 1048576 y)(k:Int)(h0:0<=k)(hk:k+aT bp l<=1000000000000):aM av 207 [.one (.sl ((mkL gQ bp k l).map DWrite.ds)),pI k] (.val (pI (k+aT bp l))):=by
 have hn9:l.length<=1048576:=hs.1;have hl:(mkL gQ bp k l).length=l.length:=cT _ _;have hcn:=bC (cnt:=bp) ft l;refine pO func207 call207 ntmps207 results207 λS=>?_;conv=>whnf
 repeat'(first|refine awz ?_|fail)
 refine X5 (λp:Nat×Int=>p.1<=l.length/\p.2=k+aT bp (l.take p.1)) (1::rg 4 26) (λp=>[(1,vI .i64 p.2),(5,vI .i64 (p.1:Int))]) (λ_=>[]) (λp=>l.length-p.1) (0,k) ⟨zero_le _,by simp[aT]⟩ ?_ X4 (λp hR=>?_)<;>(conv=>whnf)
 ·exact whd
 ·obtain⟨j,q⟩:=p;obtain⟨hj,hq⟩:=hR;simp only at hj hq;by_cases hlt:j<l.length
  ·have hc1:=hcn (j+1);rw[bh hlt]at hc1;have hc0:0<=aT bp (l.take j):=aQ ft _;have hn:=ft l[j];have hq1:0<=q:=ac;have hq2:q+bp l[j]<=1000000000000:=ac;have he:((mkL gQ bp k l).map DWrite.ds)[j]? =some (DWrite.ds (gQ q l[j])):=by rw[hq];exact ky DWrite.ds l k hlt
   have hc:decide ((j:Int)<(((mkL gQ bp k l).map DWrite.ds).length:Int))=true:=by simp[hl];omega
   have e9:(bp l[j]:Int)=1+aT cI l[j].row:=rfl;have hi0:=aQ gN l[j].row;have hq3:q+1+aT cI l[j].row<=1000000000000:=ac;have g0:=neI (q);have g1:decide (q+1+aT cI l[j].row<0)=false:=ndL ac;clear hc1 hc0 hcn hn;repeat'((first|refine awz ?_|refine X8 j _ rfl he ?_|refine cP (gk l[j].row (hs.2 _ (List.getElem_mem hlt)) (q+1) ac ac) ?_|refine X3 ac ac ?_|fail)<;>conv=>whnf)
   refine bd.mk ⟨(j+1,q+1+aT cI l[j].row),⟨hlt,by simp only;rw[bh hlt];omega⟩,by simp only;omega,?_,X4⟩;exact hds
  ·have e:j=l.length:=ac;subst e;have hc:decide ((l.length:Int)<(((mkL gQ bp k l).map DWrite.ds).length:Int))=false:=by simp[hl]
   repeat'(first|refine awz ?_|fail)
   all_goals rw[hq,take_length]
theorem nN(l:(List DMark))(hs:l.length<=1048576)(k:Int)(h0:0<=k)(hk:k+aT bi l<=1000000000000):aM av 116 [.one (.sl ((mkL ij bi k l).map DMark.ds)),pI k] (.val (pI (k+aT bi l))):=by
 have hn9:l.length<=1048576:=hs;have hl:(mkL ij bi k l).length=l.length:=cT _ _;have hcn:=bC (cnt:=bi) eC l;refine pO func116 call116 ntmps116 results116 λS=>?_;conv=>whnf
 repeat'(first|refine awz ?_|fail)
 refine X5 (λp:Nat×Int=>p.1<=l.length/\p.2=k+aT bi (l.take p.1)) (1::rg 4 35) (λp=>[(1,vI .i64 p.2),(5,vI .i64 (p.1:Int))]) (λ_=>[]) (λp=>l.length-p.1) (0,k) ⟨zero_le _,by simp[aT]⟩ ?_ X4 (λp hR=>?_)<;>(conv=>whnf)
 ·exact whd
 ·obtain⟨j,q⟩:=p;obtain⟨hj,hq⟩:=hR;simp only at hj hq;by_cases hlt:j<l.length
  ·have hc1:=hcn (j+1);rw[bh hlt]at hc1;have hc0:0<=aT bi (l.take j):=aQ eC _;have hn:=eC l[j];have hq1:0<=q:=ac;have hq2:q+bi l[j]<=1000000000000:=ac;have he:((mkL ij bi k l).map DMark.ds)[j]? =some (DMark.ds (ij q l[j])):=by rw[hq];exact ky DMark.ds l k hlt
   have hc:decide ((j:Int)<(((mkL ij bi k l).map DMark.ds).length:Int))=true:=by simp[hl];omega
   have e9:(bi l[j]:Int)=3:=rfl;have hq3:q+3<=1000000000000:=ac;have g0:=neI (q);have g1:=neI (q+1);have g2:=neI (q+1+1);clear hc1 hc0 hcn hn;repeat'((first|refine awz ?_|refine X8 j _ rfl he ?_|refine X3 ac ac ?_|fail)<;>conv=>whnf)
   refine bd.mk ⟨(j+1,q+1+1+1),⟨hlt,by simp only;rw[bh hlt];omega⟩,by simp only;omega,?_,X4⟩;exact hds
  ·have e:j=l.length:=ac;subst e;have hc:decide ((l.length:Int)<(((mkL ij bi k l).map DMark.ds).length:Int))=false:=by simp[hl]
   repeat'(first|refine awz ?_|fail)
   all_goals rw[hq,take_length]
theorem wT(l:(List DEntry))(hs:l.length<=1048576)(k:Int)(h0:0<=k)(hk:k+aT bu l<=1000000000000):aM av 205 [.one (.sl ((mkL gP bu k l).map DEntry.ds)),pI k] (.val (pI (k+aT bu l))):=by
 have hn9:l.length<=1048576:=hs;have hl:(mkL gP bu k l).length=l.length:=cT _ _;have hcn:=bC (cnt:=bu) fr l;refine pO func205 call205 ntmps205 results205 λS=>?_;conv=>whnf
 repeat'(first|refine awz ?_|fail)
 refine X5 (λp:Nat×Int=>p.1<=l.length/\p.2=k+aT bu (l.take p.1)) (1::rg 4 94) (λp=>[(1,vI .i64 p.2),(5,vI .i64 (p.1:Int))]) (λ_=>[]) (λp=>l.length-p.1) (0,k) ⟨zero_le _,by simp[aT]⟩ ?_ X4 (λp hR=>?_)<;>(conv=>whnf)
 ·exact whd
 ·obtain⟨j,q⟩:=p;obtain⟨hj,hq⟩:=hR;simp only at hj hq;by_cases hlt:j<l.length
  ·have hc1:=hcn (j+1);rw[bh hlt]at hc1;have hc0:0<=aT bu (l.take j):=aQ fr _;have hn:=fr l[j];have hq1:0<=q:=ac;have hq2:q+bu l[j]<=1000000000000:=ac;have he:((mkL gP bu k l).map DEntry.ds)[j]? =some (DEntry.ds (gP q l[j])):=by rw[hq];exact ky DEntry.ds l k hlt
   have hc:decide ((j:Int)<(((mkL gP bu k l).map DEntry.ds).length:Int))=true:=by simp[hl];omega
   have e9:(bu l[j]:Int)=9:=rfl;have hq3:q+9<=1000000000000:=ac;have g0:=neI (q);have g1:=neI (q+1);have g2:=neI (q+1+1);have g3:=neI (q+1+1+1);have g4:=neI (q+1+1+1+1);have g5:=neI (q+1+1+1+1+1);have g6:=neI (q+1+1+1+1+1+1);have g7:=neI (q+1+1+1+1+1+1+1);have g8:=neI (q+1+1+1+1+1+1+1+1);clear hc1 hc0 hcn hn;repeat'((first|refine awz ?_|refine X8 j _ rfl he ?_|refine X3 ac ac ?_|fail)<;>conv=>whnf)
   refine bd.mk ⟨(j+1,q+1+1+1+1+1+1+1+1+1),⟨hlt,by simp only;rw[bh hlt];omega⟩,by simp only;omega,?_,X4⟩;exact hds
  ·have e:j=l.length:=ac;subst e;have hc:decide ((l.length:Int)<(((mkL gP bu k l).map DEntry.ds).length:Int))=false:=by simp[hl]
   repeat'(first|refine awz ?_|fail)
   all_goals rw[hq,take_length]
theorem BJ(l:(List DAck))(hs:l.length<=1048576)(k:Int)(h0:0<=k)(hk:k+aT cg l<=1000000000000):aM av 117 [.one (.sl ((mkL lh cg k l).map DAck.ds)),pI k] (.val (pI (k+aT cg l))):=by
 have hn9:l.length<=1048576:=hs;have hl:(mkL lh cg k l).length=l.length:=cT _ _;have hcn:=bC (cnt:=cg) hL l;refine pO func117 call117 ntmps117 results117 λS=>?_;conv=>whnf
 repeat'(first|refine awz ?_|fail)
 refine X5 (λp:Nat×Int=>p.1<=l.length/\p.2=k+aT cg (l.take p.1)) (1::rg 4 44) (λp=>[(1,vI .i64 p.2),(5,vI .i64 (p.1:Int))]) (λ_=>[]) (λp=>l.length-p.1) (0,k) ⟨zero_le _,by simp[aT]⟩ ?_ X4 (λp hR=>?_)<;>(conv=>whnf)
 ·exact whd
 ·obtain⟨j,q⟩:=p;obtain⟨hj,hq⟩:=hR;simp only at hj hq;by_cases hlt:j<l.length
  ·have hc1:=hcn (j+1);rw[bh hlt]at hc1;have hc0:0<=aT cg (l.take j):=aQ hL _;have hn:=hL l[j];have hq1:0<=q:=ac;have hq2:q+cg l[j]<=1000000000000:=ac;have he:((mkL lh cg k l).map DAck.ds)[j]? =some (DAck.ds (lh q l[j])):=by rw[hq];exact ky DAck.ds l k hlt
   have hc:decide ((j:Int)<(((mkL lh cg k l).map DAck.ds).length:Int))=true:=by simp[hl];omega
   have e9:(cg l[j]:Int)=4:=rfl;have hq3:q+4<=1000000000000:=ac;have g0:=neI (q);have g1:=neI (q+1);have g2:=neI (q+1+1);have g3:=neI (q+1+1+1);clear hc1 hc0 hcn hn;repeat'((first|refine awz ?_|refine X8 j _ rfl he ?_|refine X3 ac ac ?_|fail)<;>conv=>whnf)
   refine bd.mk ⟨(j+1,q+1+1+1+1),⟨hlt,by simp only;rw[bh hlt];omega⟩,by simp only;omega,?_,X4⟩;exact hds
  ·have e:j=l.length:=ac;subst e;have hc:decide ((l.length:Int)<(((mkL lh cg k l).map DAck.ds).length:Int))=false:=by simp[hl]
   repeat'(first|refine awz ?_|fail)
   all_goals rw[hq,take_length]
theorem yK(l:(List DPair))(hs:l.length<=1048576)(k:Int)(h0:0<=k)(hk:k+aT bw l<=1000000000000):aM av 208 [.one (.sl ((mkL iI bw k l).map DPair.ds)),pI k] (.val (pI (k+aT bw l))):=by
 have hn9:l.length<=1048576:=hs;have hl:(mkL iI bw k l).length=l.length:=cT _ _;have hcn:=bC (cnt:=bw) gd l;refine pO func208 call208 ntmps208 results208 λS=>?_;conv=>whnf
 repeat'(first|refine awz ?_|fail)
 refine X5 (λp:Nat×Int=>p.1<=l.length/\p.2=k+aT bw (l.take p.1)) (1::rg 4 26) (λp=>[(1,vI .i64 p.2),(5,vI .i64 (p.1:Int))]) (λ_=>[]) (λp=>l.length-p.1) (0,k) ⟨zero_le _,by simp[aT]⟩ ?_ X4 (λp hR=>?_)<;>(conv=>whnf)
 ·exact whd
 ·obtain⟨j,q⟩:=p;obtain⟨hj,hq⟩:=hR;simp only at hj hq;by_cases hlt:j<l.length
  ·have hc1:=hcn (j+1);rw[bh hlt]at hc1;have hc0:0<=aT bw (l.take j):=aQ gd _;have hn:=gd l[j];have hq1:0<=q:=ac;have hq2:q+bw l[j]<=1000000000000:=ac;have he:((mkL iI bw k l).map DPair.ds)[j]? =some (DPair.ds (iI q l[j])):=by rw[hq];exact ky DPair.ds l k hlt
   have hc:decide ((j:Int)<(((mkL iI bw k l).map DPair.ds).length:Int))=true:=by simp[hl];omega
   have e9:(bw l[j]:Int)=2:=rfl;have hq3:q+2<=1000000000000:=ac;have g0:=neI (q);have g1:=neI (q+1);clear hc1 hc0 hcn hn;repeat'((first|refine awz ?_|refine X8 j _ rfl he ?_|refine X3 ac ac ?_|fail)<;>conv=>whnf)
   refine bd.mk ⟨(j+1,q+1+1),⟨hlt,by simp only;rw[bh hlt];omega⟩,by simp only;omega,?_,X4⟩;exact hds
  ·have e:j=l.length:=ac;subst e;have hc:decide ((l.length:Int)<(((mkL iI bw k l).map DPair.ds).length:Int))=false:=by simp[hl]
   repeat'(first|refine awz ?_|fail)
   all_goals rw[hq,take_length]
theorem BN(l:(List DJob))(hs:l.length<=1048576)(k:Int)(h0:0<=k)(hk:k+aT cj l<=1000000000000):aM av 209 [.one (.sl ((mkL ll cj k l).map DJob.ds)),pI k] (.val (pI (k+aT cj l))):=by
 have hn9:l.length<=1048576:=hs;have hl:(mkL ll cj k l).length=l.length:=cT _ _;have hcn:=bC (cnt:=cj) ib l;refine pO func209 call209 ntmps209 results209 λS=>?_;conv=>whnf
 repeat'(first|refine awz ?_|fail)
 refine X5 (λp:Nat×Int=>p.1<=l.length/\p.2=k+aT cj (l.take p.1)) (1::rg 4 53) (λp=>[(1,vI .i64 p.2),(5,vI .i64 (p.1:Int))]) (λ_=>[]) (λp=>l.length-p.1) (0,k) ⟨zero_le _,by simp[aT]⟩ ?_ X4 (λp hR=>?_)<;>(conv=>whnf)
 ·exact whd
 ·obtain⟨j,q⟩:=p;obtain⟨hj,hq⟩:=hR;simp only at hj hq;by_cases hlt:j<l.length
  ·have hc1:=hcn (j+1);rw[bh hlt]at hc1;have hc0:0<=aT cj (l.take j):=aQ ib _;have hn:=ib l[j];have hq1:0<=q:=ac;have hq2:q+cj l[j]<=1000000000000:=ac;have he:((mkL ll cj k l).map DJob.ds)[j]? =some (DJob.ds (ll q l[j])):=by rw[hq];exact ky DJob.ds l k hlt
   have hc:decide ((j:Int)<(((mkL ll cj k l).map DJob.ds).length:Int))=true:=by simp[hl];omega
   have e9:(cj l[j]:Int)=5:=rfl;have hq3:q+5<=1000000000000:=ac;have g0:=neI (q);have g1:=neI (q+1);have g2:=neI (q+1+1);have g3:=neI (q+1+1+1);have g4:=neI (q+1+1+1+1);clear hc1 hc0 hcn hn;repeat'((first|refine awz ?_|refine X8 j _ rfl he ?_|refine X3 ac ac ?_|fail)<;>conv=>whnf)
   refine bd.mk ⟨(j+1,q+1+1+1+1+1),⟨hlt,by simp only;rw[bh hlt];omega⟩,by simp only;omega,?_,X4⟩;exact hds
  ·have e:j=l.length:=ac;subst e;have hc:decide ((l.length:Int)<(((mkL ll cj k l).map DJob.ds).length:Int))=false:=by simp[hl]
   repeat'(first|refine awz ?_|fail)
   all_goals rw[hq,take_length]
theorem BL(l:(List DDue))(hs:l.length<=1048576)(k:Int)(h0:0<=k)(hk:k+aT ch l<=1000000000000):aM av 311 [.one (.sl ((mkL li ch k l).map DDue.ds)),pI k] (.val (pI (k+aT ch l))):=by
 have hn9:l.length<=1048576:=hs;have hl:(mkL li ch k l).length=l.length:=cT _ _;have hcn:=bC (cnt:=ch) hX l;refine pO func311 call311 ntmps311 results311 λS=>?_;conv=>whnf
 repeat'(first|refine awz ?_|fail)
 refine X5 (λp:Nat×Int=>p.1<=l.length/\p.2=k+aT ch (l.take p.1)) (1::rg 4 26) (λp=>[(1,vI .i64 p.2),(5,vI .i64 (p.1:Int))]) (λ_=>[]) (λp=>l.length-p.1) (0,k) ⟨zero_le _,by simp[aT]⟩ ?_ X4 (λp hR=>?_)<;>(conv=>whnf)
 ·exact whd
 ·obtain⟨j,q⟩:=p;obtain⟨hj,hq⟩:=hR;simp only at hj hq;by_cases hlt:j<l.length
  ·have hc1:=hcn (j+1);rw[bh hlt]at hc1;have hc0:0<=aT ch (l.take j):=aQ hX _;have hn:=hX l[j];have hq1:0<=q:=ac;have hq2:q+ch l[j]<=1000000000000:=ac;have he:((mkL li ch k l).map DDue.ds)[j]? =some (DDue.ds (li q l[j])):=by rw[hq];exact ky DDue.ds l k hlt
   have hc:decide ((j:Int)<(((mkL li ch k l).map DDue.ds).length:Int))=true:=by simp[hl];omega
   have e9:(ch l[j]:Int)=2:=rfl;have hq3:q+2<=1000000000000:=ac;have g0:=neI (q);have g1:=neI (q+1);clear hc1 hc0 hcn hn;repeat'((first|refine awz ?_|refine X8 j _ rfl he ?_|refine X3 ac ac ?_|fail)<;>conv=>whnf)
   refine bd.mk ⟨(j+1,q+1+1),⟨hlt,by simp only;rw[bh hlt];omega⟩,by simp only;omega,?_,X4⟩;exact hds
  ·have e:j=l.length:=ac;subst e;have hc:decide ((l.length:Int)<(((mkL li ch k l).map DDue.ds).length:Int))=false:=by simp[hl]
   repeat'(first|refine awz ?_|fail)
   all_goals rw[hq,take_length]
theorem yN(l:(List DWant))(hs:l.length<=1048576)(k:Int)(h0:0<=k)(hk:k+aT bx l<=1000000000000):aM av 121 [.one (.sl ((mkL iJ bx k l).map DWant.ds)),pI k] (.val (pI (k+aT bx l))):=by
 have hn9:l.length<=1048576:=hs;have hl:(mkL iJ bx k l).length=l.length:=cT _ _;have hcn:=bC (cnt:=bx) ge l;refine pO func121 call121 ntmps121 results121 λS=>?_;conv=>whnf
 repeat'(first|refine awz ?_|fail)
 refine X5 (λp:Nat×Int=>p.1<=l.length/\p.2=k+aT bx (l.take p.1)) (1::rg 4 76) (λp=>[(1,vI .i64 p.2),(5,vI .i64 (p.1:Int))]) (λ_=>[]) (λp=>l.length-p.1) (0,k) ⟨zero_le _,by simp[aT]⟩ ?_ X4 (λp hR=>?_)<;>(conv=>whnf)
 ·exact whd
 ·obtain⟨j,q⟩:=p;obtain⟨hj,hq⟩:=hR;simp only at hj hq;by_cases hlt:j<l.length
  ·have hc1:=hcn (j+1);rw[bh hlt]at hc1;have hc0:0<=aT bx (l.take j):=aQ ge _;have hn:=ge l[j];have hq1:0<=q:=ac;have hq2:q+bx l[j]<=1000000000000:=ac;have he:((mkL iJ bx k l).map DWant.ds)[j]? =some (DWant.ds (iJ q l[j])):=by rw[hq];exact ky DWant.ds l k hlt
   have hc:decide ((j:Int)<(((mkL iJ bx k l).map DWant.ds).length:Int))=true:=by simp[hl];omega
   have e9:(bx l[j]:Int)=7:=rfl;have hq3:q+7<=1000000000000:=ac;have g0:=neI (q);have g1:=neI (q+1);have g2:=neI (q+1+1);have g3:=neI (q+1+1+1);have g4:=neI (q+1+1+1+1);have g5:=neI (q+1+1+1+1+1);have g6:=neI (q+1+1+1+1+1+1);clear hc1 hc0 hcn hn;repeat'((first|refine awz ?_|refine X8 j _ rfl he ?_|refine X3 ac ac ?_|fail)<;>conv=>whnf)
   refine bd.mk ⟨(j+1,q+1+1+1+1+1+1+1),⟨hlt,by simp only;rw[bh hlt];omega⟩,by simp only;omega,?_,X4⟩;exact hds
  ·have e:j=l.length:=ac;subst e;have hc:decide ((l.length:Int)<(((mkL iJ bx k l).map DWant.ds).length:Int))=false:=by simp[hl]
   repeat'(first|refine awz ?_|fail)
   all_goals rw[hq,take_length]
theorem BM(l:(List DGot))(hs:l.length<=1048576)(k:Int)(h0:0<=k)(hk:k+aT ci l<=1000000000000):aM av 122 [.one (.sl ((mkL lk ci k l).map DGot.ds)),pI k] (.val (pI (k+aT ci l))):=by
 have hn9:l.length<=1048576:=hs;have hl:(mkL lk ci k l).length=l.length:=cT _ _;have hcn:=bC (cnt:=ci) ia l;refine pO func122 call122 ntmps122 results122 λS=>?_;conv=>whnf
 repeat'(first|refine awz ?_|fail)
 refine X5 (λp:Nat×Int=>p.1<=l.length/\p.2=k+aT ci (l.take p.1)) (1::rg 4 44) (λp=>[(1,vI .i64 p.2),(5,vI .i64 (p.1:Int))]) (λ_=>[]) (λp=>l.length-p.1) (0,k) ⟨zero_le _,by simp[aT]⟩ ?_ X4 (λp hR=>?_)<;>(conv=>whnf)
 ·exact whd
 ·obtain⟨j,q⟩:=p;obtain⟨hj,hq⟩:=hR;simp only at hj hq;by_cases hlt:j<l.length
  ·have hc1:=hcn (j+1);rw[bh hlt]at hc1;have hc0:0<=aT ci (l.take j):=aQ ia _;have hn:=ia l[j];have hq1:0<=q:=ac;have hq2:q+ci l[j]<=1000000000000:=ac;have he:((mkL lk ci k l).map DGot.ds)[j]? =some (DGot.ds (lk q l[j])):=by rw[hq];exact ky DGot.ds l k hlt
   have hc:decide ((j:Int)<(((mkL lk ci k l).map DGot.ds).length:Int))=true:=by simp[hl];omega
   have e9:(ci l[j]:Int)=4:=rfl;have hq3:q+4<=1000000000000:=ac;have g0:=neI (q);have g1:=neI (q+1);have g2:=neI (q+1+1);have g3:=neI (q+1+1+1);clear hc1 hc0 hcn hn;repeat'((first|refine awz ?_|refine X8 j _ rfl he ?_|refine X3 ac ac ?_|fail)<;>conv=>whnf)
   refine bd.mk ⟨(j+1,q+1+1+1+1),⟨hlt,by simp only;rw[bh hlt];omega⟩,by simp only;omega,?_,X4⟩;exact hds
  ·have e:j=l.length:=ac;subst e;have hc:decide ((l.length:Int)<(((mkL lk ci k l).map DGot.ds).length:Int))=false:=by simp[hl]
   repeat'(first|refine awz ?_|fail)
   all_goals rw[hq,take_length]
theorem BP(l:(List DMsg))(hs:l.length<=1048576/\∀y∈l,Yy 1048576 y)(k:Int)(h0:0<=k)(hk:k+aT bO l<=1000000000000):aM av 123 [.one (.sl ((mkL kx bO k l).map DMsg.ds)),pI k] (.val (pI (k+aT bO l))):=by
 have hn9:l.length<=1048576:=hs.1;have hl:(mkL kx bO k l).length=l.length:=cT _ _;have hcn:=bC (cnt:=bO) ic l;refine pO func123 call123 ntmps123 results123 λS=>?_;conv=>whnf
 repeat'(first|refine awz ?_|fail)
 refine X5 (λp:Nat×Int=>p.1<=l.length/\p.2=k+aT bO (l.take p.1)) (1::rg 4 35) (λp=>[(1,vI .i64 p.2),(5,vI .i64 (p.1:Int))]) (λ_=>[]) (λp=>l.length-p.1) (0,k) ⟨zero_le _,by simp[aT]⟩ ?_ X4 (λp hR=>?_)<;>(conv=>whnf)
 ·exact whd
 ·obtain⟨j,q⟩:=p;obtain⟨hj,hq⟩:=hR;simp only at hj hq;by_cases hlt:j<l.length
  ·have hc1:=hcn (j+1);rw[bh hlt]at hc1;have hc0:0<=aT bO (l.take j):=aQ ic _;have hn:=ic l[j];have hq1:0<=q:=ac;have hq2:q+bO l[j]<=1000000000000:=ac;have he:((mkL kx bO k l).map DMsg.ds)[j]? =some (DMsg.ds (kx q l[j])):=by rw[hq];exact ky DMsg.ds l k hlt
   have hc:decide ((j:Int)<(((mkL kx bO k l).map DMsg.ds).length:Int))=true:=by simp[hl];omega
   have e9:(bO l[j]:Int)=2+aT cI l[j].row:=rfl;have hi0:=aQ gN l[j].row;have hq3:q+2+aT cI l[j].row<=1000000000000:=ac;have g0:=neI (q);have g1:=neI (q+1);have g2:decide (q+1+1+aT cI l[j].row<0)=false:=ndL ac;clear hc1 hc0 hcn hn;repeat'((first|refine awz ?_|refine X8 j _ rfl he ?_|refine cP (gk l[j].row (hs.2 _ (List.getElem_mem hlt)) (q+1+1) ac ac) ?_|refine X3 ac ac ?_|fail)<;>conv=>whnf)
   refine bd.mk ⟨(j+1,q+1+1+aT cI l[j].row),⟨hlt,by simp only;rw[bh hlt];omega⟩,by simp only;omega,?_,X4⟩;exact hds
  ·have e:j=l.length:=ac;subst e;have hc:decide ((l.length:Int)<(((mkL kx bO k l).map DMsg.ds).length:Int))=false:=by simp[hl]
   repeat'(first|refine awz ?_|fail)
   all_goals rw[hq,take_length]
theorem yJ(l:(List DLink))(hs:l.length<=1048576)(k:Int)(h0:0<=k)(hk:k+aT bK l<=1000000000000):aM av 124 [.one (.sl ((mkL jd bK k l).map DLink.ds)),pI k] (.val (pI (k+aT bK l))):=by
 have hn9:l.length<=1048576:=hs;have hl:(mkL jd bK k l).length=l.length:=cT _ _;have hcn:=bC (cnt:=bK) f9 l;refine pO func124 call124 ntmps124 results124 λS=>?_;conv=>whnf
 repeat'(first|refine awz ?_|fail)
 refine X5 (λp:Nat×Int=>p.1<=l.length/\p.2=k+aT bK (l.take p.1)) (1::rg 4 26) (λp=>[(1,vI .i64 p.2),(5,vI .i64 (p.1:Int))]) (λ_=>[]) (λp=>l.length-p.1) (0,k) ⟨zero_le _,by simp[aT]⟩ ?_ X4 (λp hR=>?_)<;>(conv=>whnf)
 ·exact whd
 ·obtain⟨j,q⟩:=p;obtain⟨hj,hq⟩:=hR;simp only at hj hq;by_cases hlt:j<l.length
  ·have hc1:=hcn (j+1);rw[bh hlt]at hc1;have hc0:0<=aT bK (l.take j):=aQ f9 _;have hn:=f9 l[j];have hq1:0<=q:=ac;have hq2:q+bK l[j]<=1000000000000:=ac;have he:((mkL jd bK k l).map DLink.ds)[j]? =some (DLink.ds (jd q l[j])):=by rw[hq];exact ky DLink.ds l k hlt
   have hc:decide ((j:Int)<(((mkL jd bK k l).map DLink.ds).length:Int))=true:=by simp[hl];omega
   have e9:(bK l[j]:Int)=2:=rfl;have hq3:q+2<=1000000000000:=ac;have g0:=neI (q);have g1:=neI (q+1);clear hc1 hc0 hcn hn;repeat'((first|refine awz ?_|refine X8 j _ rfl he ?_|refine X3 ac ac ?_|fail)<;>conv=>whnf)
   refine bd.mk ⟨(j+1,q+1+1),⟨hlt,by simp only;rw[bh hlt];omega⟩,by simp only;omega,?_,X4⟩;exact hds
  ·have e:j=l.length:=ac;subst e;have hc:decide ((l.length:Int)<(((mkL jd bK k l).map DLink.ds).length:Int))=false:=by simp[hl]
   repeat'(first|refine awz ?_|fail)
   all_goals rw[hq,take_length]
theorem yI(l:(List Bool))(hs:l.length<=1048576)(k:Int)(h0:0<=k)(hk:k+aT cI l<=1000000000000):aM av 49 [.one (.sl ((mkL mB cI k l).map eB)),pI k] (.val (pI (k+aT cI l))):=by
 have hn9:l.length<=1048576:=hs;have hl:(mkL mB cI k l).length=l.length:=cT _ _;have hcn:=bC (cnt:=cI) gN l;refine pO func49 call49 ntmps49 results49 λS=>?_;conv=>whnf
 repeat'(first|refine awz ?_|fail)
 refine X5 (λp:Nat×Int=>p.1<=l.length/\p.2=k+aT cI (l.take p.1)) (1::rg 4 18) (λp=>[(1,vI .i64 p.2),(5,vI .i64 (p.1:Int))]) (λ_=>[]) (λp=>l.length-p.1) (0,k) ⟨zero_le _,by simp[aT]⟩ ?_ X4 (λp hR=>?_)<;>(conv=>whnf)
 ·exact whd
 ·obtain⟨j,q⟩:=p;obtain⟨hj,hq⟩:=hR;simp only at hj hq;by_cases hlt:j<l.length
  ·have hc1:=hcn (j+1);rw[bh hlt]at hc1;have hc0:0<=aT cI (l.take j):=aQ gN _;have hn:=gN l[j];have hq1:0<=q:=ac;have hq2:q+cI l[j]<=1000000000000:=ac;have he:((mkL mB cI k l).map eB)[j]? =some (eB (mB q l[j])):=by rw[hq];exact ky eB l k hlt
   have hc:decide ((j:Int)<(((mkL mB cI k l).map eB).length:Int))=true:=by simp[hl];omega
   have e9:(cI l[j]:Int)=1:=rfl;have hq3:q+1<=1000000000000:=ac;have g0:(!(mB (q) l[j]==(Int.tmod (q) 3==0)))=false:=by rw[Int.tmod_eq_emod_of_nonneg ac];unfold mB;simp
   clear hc1 hc0 hcn hn;repeat'((first|refine awz ?_|refine X8 j _ rfl he ?_|refine And.intro ah ?_|refine X3 ac ac ?_|fail)<;>conv=>whnf)
   refine bd.mk ⟨(j+1,q+1),⟨hlt,by simp only;rw[bh hlt];omega⟩,by simp only;omega,?_,X4⟩;exact hds
  ·have e:j=l.length:=ac;subst e;have hc:decide ((l.length:Int)<(((mkL mB cI k l).map eB).length:Int))=false:=by simp[hl]
   repeat'(first|refine awz ?_|fail)
   all_goals rw[hq,take_length]
theorem k7(x:DDisk)(hs:Yp 1048576 x)(k:Int)(h0:0<=k)(hk:k+bI x<=1000000000000):aM av 118 [.agg (ql k x).ds,pI k] (.val (pI (k+bI x))):=by
 have n0:=aQ (cnt:=bj) fu x.kept;have n1:=aQ (cnt:=bp) ft x.wait;have hkk:=hk;unfold bI at hkk;have g0:decide (k+aT bj x.kept<0)=false:=ndL ac;have g1:decide (k+aT bj x.kept+aT bp x.wait<0)=false:=ndL ac;refine pO func118 call118 ntmps118 results118 λS=>?_;conv=>whnf
 repeat'((first|refine awz ?_|refine cP (va x.kept ⟨hs.1,hs.2.1⟩ (k) ac ac) ?_|refine cP (wU x.wait ⟨hs.2.2.1,hs.2.2.2⟩ (k+aT bj x.kept) ac ac) ?_|fail)<;>conv=>whnf)
 have e:k+aT bj x.kept+aT bp x.wait=k+bI x:=by unfold bI;omega
 show AP.val (pI (k+aT bj x.kept+aT bp x.wait))=AP.val (pI (k+bI x));rw[e]
theorem EV(x:DTwo)(hs:YA 1048576 x)(k:Int)(h0:0<=k)(hk:k+bD x<=1000000000000):aM av 113 [.agg (tg k x).ds,pI k] (.val (pI (k+bD x))):=by
 have n0:=gh x.a;have n1:=gh x.b;have hkk:=hk;unfold bD at hkk;have g0:decide (k+bI x.a<0)=false:=ndL ac;have g1:decide (k+bI x.a+bI x.b<0)=false:=ndL ac;refine pO func113 call113 ntmps113 results113 λS=>?_;conv=>whnf
 repeat'((first|refine awz ?_|refine cP (k7 x.a hs.1 (k) ac ac) ?_|refine cP (k7 x.b hs.2 (k+bI x.a) ac ac) ?_|fail)<;>conv=>whnf)
 have e:k+bI x.a+bI x.b=k+bD x:=by unfold bD;omega
 show AP.val (pI (k+bI x.a+bI x.b))=AP.val (pI (k+bD x));rw[e]
theorem p9(x:DHead)(hs:Yo 1048576 x)(k:Int)(h0:0<=k)(hk:k+bf x<=1000000000000):aM av 114 [.agg (kA k x).ds,pI k] (.val (pI (k+bf x))):=by
 have n0:=aQ (cnt:=bi) eC x.seen;have hkk:=hk;unfold bf at hkk;have g0:decide (k+aT bi x.seen<0)=false:=ndL ac;refine pO func114 call114 ntmps114 results114 λS=>?_;conv=>whnf
 repeat'(first|refine awz ?_|(refine cP (nN x.seen hs (k) ac ac) ?_;conv=>whnf)|fail)
 have e:k+aT bi x.seen=k+bf x:=by unfold bf;omega
 show AP.val (pI (k+aT bi x.seen))=AP.val (pI (k+bf x));rw[e]
theorem BK(x:DBook)(hs:Yx 1048576 x)(k:Int)(h0:0<=k)(hk:k+cq x<=1000000000000):aM av 115 [.agg (xi k x).ds,pI k] (.val (pI (k+cq x))):=by
 have n0:=aQ (cnt:=bu) fr x.entries;have hkk:=hk;unfold cq at hkk;have g0:decide (k+aT bu x.entries<0)=false:=ndL ac;refine pO func115 call115 ntmps115 results115 λS=>?_;conv=>whnf
 repeat'(first|refine awz ?_|(refine cP (wT x.entries hs (k) ac ac) ?_;conv=>whnf)|fail)
 have e:k+aT bu x.entries=k+cq x:=by unfold cq;omega
 show AP.val (pI (k+aT bu x.entries))=AP.val (pI (k+cq x));rw[e]
theorem vb(x:DLogNode)(hs:Yq 1048576 x)(k:Int)(h0:0<=k)(hk:k+aP x<=1000000000000):aM av 43 [.agg (fE k x).ds,pI k] (.val (pI (k+aP x))):=by
 have n0:=vM x.two;have n1:=jQ x.head;have n2:=jQ x.nxt;have n3:=sw x.book;have n4:=aQ (cnt:=bi) eC x.seen;have n5:=aQ (cnt:=cg) hL x.owe;have hkk:=hk;unfold aP at hkk;have g0:decide (k+bD x.two<0)=false:=ndL ac;have g1:decide (k+bD x.two+bf x.head<0)=false:=ndL ac;have g2:decide (k+bD x.two+bf x.head+bf x.nxt<0)=false:=ndL ac;have g3:decide (k+bD x.two+bf x.head+bf x.nxt+cq x.book<0)=false:=ndL ac;have g4:decide (k+bD x.two+bf x.head+bf x.nxt+cq x.book+aT bi x.seen<0)=false:=ndL ac;have g5:decide (k+bD x.two+bf x.head+bf x.nxt+cq x.book+aT bi x.seen+aT cg x.owe<0)=false:=ndL ac;refine pO func43 call43 ntmps43 results43 λS=>?_;conv=>whnf
 repeat'((first|refine awz ?_|refine cP (EV x.two hs.1 (k) ac ac) ?_|refine cP (p9 x.head hs.2.1 (k+bD x.two) ac ac) ?_|refine cP (p9 x.nxt hs.2.2.1 (k+bD x.two+bf x.head) ac ac) ?_|refine cP (BK x.book hs.2.2.2.1 (k+bD x.two+bf x.head+bf x.nxt) ac ac) ?_|refine cP (nN x.seen hs.2.2.2.2.1 (k+bD x.two+bf x.head+bf x.nxt+cq x.book) ac ac) ?_|refine cP (BJ x.owe hs.2.2.2.2.2 (k+bD x.two+bf x.head+bf x.nxt+cq x.book+aT bi x.seen) ac ac) ?_|fail)<;>conv=>whnf)
 have e:k+bD x.two+bf x.head+bf x.nxt+cq x.book+aT bi x.seen+aT cg x.owe=k+aP x:=by unfold aP;omega
 show AP.val (pI (k+bD x.two+bf x.head+bf x.nxt+cq x.book+aT bi x.seen+aT cg x.owe))=AP.val (pI (k+aP x));rw[e]
theorem yL(x:DState)(hs:Yt 1048576 x)(k:Int)(h0:0<=k)(hk:k+cZ x<=1000000000000):aM av 119 [.agg (Cs k x).ds,pI k] (.val (pI (k+cZ x))):=by
 have n0:=aQ (cnt:=bw) gd x.pairs;have n1:=aQ (cnt:=cj) ib x.jobs;have hkk:=hk;unfold cZ at hkk;have g0:decide (k+aT bw x.pairs<0)=false:=ndL ac;have g1:decide (k+aT bw x.pairs+aT cj x.jobs<0)=false:=ndL ac;refine pO func119 call119 ntmps119 results119 λS=>?_;conv=>whnf
 repeat'((first|refine awz ?_|refine cP (yK x.pairs hs.1 (k) ac ac) ?_|refine cP (BN x.jobs hs.2 (k+aT bw x.pairs) ac ac) ?_|fail)<;>conv=>whnf)
 have e:k+aT bw x.pairs+aT cj x.jobs=k+cZ x:=by unfold cZ;omega
 show AP.val (pI (k+aT bw x.pairs+aT cj x.jobs))=AP.val (pI (k+cZ x));rw[e]
theorem yM(x:DStore)(hs:Yv 1048576 x)(k:Int)(h0:0<=k)(hk:k+aZ x<=1000000000000):aM av 44 [.agg (jv k x).ds,pI k] (.val (pI (k+aZ x))):=by
 have n0:=gh x.disk;have n1:=pX x.state;have hkk:=hk;unfold aZ at hkk;have g0:decide (k+bI x.disk<0)=false:=ndL ac;have g1:decide (k+bI x.disk+cZ x.state<0)=false:=ndL ac;refine pO func44 call44 ntmps44 results44 λS=>?_;conv=>whnf
 repeat'((first|refine awz ?_|refine cP (k7 x.disk hs.1 (k) ac ac) ?_|refine cP (yL x.state hs.2 (k+bI x.disk) ac ac) ?_|fail)<;>conv=>whnf)
 have e:k+bI x.disk+cZ x.state=k+aZ x:=by unfold aZ;omega
 show AP.val (pI (k+bI x.disk+cZ x.state))=AP.val (pI (k+aZ x));rw[e]
theorem BO(x:DJobs)(hs:YE 1048576 x)(k:Int)(h0:0<=k)(hk:k+dG x<=1000000000000):aM av 210 [.agg (Hm k x).ds,pI k] (.val (pI (k+dG x))):=by
 have n0:=aQ (cnt:=ch) hX x.opens;have hkk:=hk;unfold dG at hkk;have g0:decide (k+aT ch x.opens<0)=false:=ndL ac;refine pO func210 call210 ntmps210 results210 λS=>?_;conv=>whnf
 repeat'(first|refine awz ?_|(refine cP (BL x.opens hs (k) ac ac) ?_;conv=>whnf)|fail)
 have e:k+aT ch x.opens=k+dG x:=by unfold dG;omega
 show AP.val (pI (k+aT ch x.opens))=AP.val (pI (k+dG x));rw[e]
theorem BQ(x:DView)(hs:YC 1048576 x)(k:Int)(h0:0<=k)(hk:k+dH x<=1000000000000):aM av 120 [.agg (Hn k x).ds,pI k] (.val (pI (k+dH x))):=by
 have n0:=sy x.jobs;have hkk:=hk;unfold dH at hkk;have g0:decide (k+dG x.jobs<0)=false:=ndL ac;refine pO func120 call120 ntmps120 results120 λS=>?_;conv=>whnf
 repeat'(first|refine awz ?_|(refine cP (BO x.jobs hs (k) ac ac) ?_;conv=>whnf)|fail)
 have e:k+dG x.jobs=k+dH x:=by unfold dH;omega
 show AP.val (pI (k+dG x.jobs))=AP.val (pI (k+dH x));rw[e]
theorem nO(x:DSched)(hs:Yr 1048576 x)(k:Int)(h0:0<=k)(hk:k+aR x<=1000000000000):aM av 45 [.agg (fF k x).ds,pI k] (.val (pI (k+aR x))):=by
 have n0:=sA x.view;have hkk:=hk;unfold aR at hkk;have g0:decide (k+dH x.view<0)=false:=ndL ac;refine pO func45 call45 ntmps45 results45 λS=>?_;conv=>whnf
 repeat'(first|refine awz ?_|(refine cP (BQ x.view hs (k) ac ac) ?_;conv=>whnf)|fail)
 have e:k+dH x.view=k+aR x:=by unfold aR;omega
 show AP.val (pI (k+dH x.view))=AP.val (pI (k+aR x));rw[e]
theorem mr(x:DClient)(hs:Ys 1048576 x)(k:Int)(h0:0<=k)(hk:k+aY x<=1000000000000):aM av 46 [.agg (gR k x).ds,pI k] (.val (pI (k+aY x))):=by
 have n0:=aQ (cnt:=bx) ge x.todo;have n1:=aQ (cnt:=ci) ia x.gots;have hkk:=hk;unfold aY at hkk;have g0:decide (k+aT bx x.todo<0)=false:=ndL ac;have g1:decide (k+aT bx x.todo+aT ci x.gots<0)=false:=ndL ac;refine pO func46 call46 ntmps46 results46 λS=>?_;conv=>whnf
 repeat'((first|refine awz ?_|refine cP (yN x.todo hs.1 (k) ac ac) ?_|refine cP (BM x.gots hs.2 (k+aT bx x.todo) ac ac) ?_|fail)<;>conv=>whnf)
 have e:k+aT bx x.todo+aT ci x.gots=k+aY x:=by unfold aY;omega
 show AP.val (pI (k+aT bx x.todo+aT ci x.gots))=AP.val (pI (k+aY x));rw[e]
theorem EU(x:DNet)(hs:Yz 1048576 x)(k:Int)(h0:0<=k)(hk:k+cO x<=1000000000000):aM av 47 [.agg (Cr k x).ds,pI k] (.val (pI (k+cO x))):=by
 have n0:=aQ (cnt:=bO) ic x.flight;have n1:=aQ (cnt:=bK) f9 x.cuts;have hkk:=hk;unfold cO at hkk;have g0:decide (k+aT bO x.flight<0)=false:=ndL ac;have g1:decide (k+aT bO x.flight+aT bK x.cuts<0)=false:=ndL ac;refine pO func47 call47 ntmps47 results47 λS=>?_;conv=>whnf
 repeat'((first|refine awz ?_|refine cP (BP x.flight ⟨hs.1,hs.2.1⟩ (k) ac ac) ?_|refine cP (yJ x.cuts hs.2.2 (k+aT bO x.flight) ac ac) ?_|fail)<;>conv=>whnf)
 have e:k+aT bO x.flight+aT bK x.cuts=k+cO x:=by unfold cO;omega
 show AP.val (pI (k+aT bO x.flight+aT bK x.cuts))=AP.val (pI (k+cO x));rw[e]
theorem yO(x:DWorld)(hs:Ym 1048576 x)(k:Int)(h0:0<=k)(hk:k+dw x<=1000000000000):aM av 10 [.agg (JC k x).ds,pI k] (.val (pI (k+dw x))):=by
 have n0:=mQ x.log;have n1:=pY x.store;have n2:=iZ x.left;have n3:=iZ x.right;have n4:=iw x.ann;have n5:=iw x.bob;have n6:=vL x.net;have n7:=aQ (cnt:=cI) gN x.clocks;have n8:=aQ (cnt:=cI) gN x.up;have hkk:=hk;unfold dw at hkk;have g0:decide (k+aP x.log<0)=false:=ndL ac;have g1:decide (k+aP x.log+aZ x.store<0)=false:=ndL ac;have g2:decide (k+aP x.log+aZ x.store+aR x.left<0)=false:=ndL ac;have g3:decide (k+aP x.log+aZ x.store+aR x.left+aR x.right<0)=false:=ndL ac;have g4:decide (k+aP x.log+aZ x.store+aR x.left+aR x.right+aY x.ann<0)=false:=ndL ac;have g5:decide (k+aP x.log+aZ x.store+aR x.left+aR x.right+aY x.ann+aY x.bob<0)=false:=ndL ac;have g6:decide (k+aP x.log+aZ x.store+aR x.left+aR x.right+aY x.ann+aY x.bob+cO x.net<0)=false:=ndL ac;have g7:decide (k+aP x.log+aZ x.store+aR x.left+aR x.right+aY x.ann+aY x.bob+cO x.net+aT cI x.clocks<0)=false:=ndL ac;have g8:decide (k+aP x.log+aZ x.store+aR x.left+aR x.right+aY x.ann+aY x.bob+cO x.net+aT cI x.clocks+aT cI x.up<0)=false:=ndL ac;refine pO func10 call10 ntmps10 results10 λS=>?_;conv=>whnf
 repeat'((first|refine awz ?_|refine cP (vb x.log hs.1 (k) ac ac) ?_|refine cP (yM x.store hs.2.1 (k+aP x.log) ac ac) ?_|refine cP (nO x.left hs.2.2.1 (k+aP x.log+aZ x.store) ac ac) ?_|refine cP (nO x.right hs.2.2.2.1 (k+aP x.log+aZ x.store+aR x.left) ac ac) ?_|refine cP (mr x.ann hs.2.2.2.2.1 (k+aP x.log+aZ x.store+aR x.left+aR x.right) ac ac) ?_|refine cP (mr x.bob hs.2.2.2.2.2.1 (k+aP x.log+aZ x.store+aR x.left+aR x.right+aY x.ann) ac ac) ?_|refine cP (EU x.net hs.2.2.2.2.2.2.1 (k+aP x.log+aZ x.store+aR x.left+aR x.right+aY x.ann+aY x.bob) ac ac) ?_|refine cP (gk x.clocks hs.2.2.2.2.2.2.2.1 (k+aP x.log+aZ x.store+aR x.left+aR x.right+aY x.ann+aY x.bob+cO x.net) ac ac) ?_|refine cP (yI x.up hs.2.2.2.2.2.2.2.2 (k+aP x.log+aZ x.store+aR x.left+aR x.right+aY x.ann+aY x.bob+cO x.net+aT cI x.clocks) ac ac) ?_|fail)<;>conv=>whnf)
 have e:k+aP x.log+aZ x.store+aR x.left+aR x.right+aY x.ann+aY x.bob+cO x.net+aT cI x.clocks+aT cI x.up=k+dw x:=by unfold dw;omega
 show AP.val (pI (k+aP x.log+aZ x.store+aR x.left+aR x.right+aY x.ann+aY x.bob+cO x.net+aT cI x.clocks+aT cI x.up))=AP.val (pI (k+dw x));rw[e]
end Go.Proofs.YtknefkdcokgpbaaGreat
