/- MkE -/
import Derived.Test.YtpdmakdpnejnfaaGreatK07
import Derived.Test.YtpdmakdpnejnfaaGreatK29
import Derived.Test.YtpdmakdpnejnfaaGreatK21
import Derived.Test.YtpdmakdpnejnfaaGreatK09
import Derived.Test.YtpdmakdpnejnfaaGreatK04
import Derived.Test.YtpdmakdpnejnfaaGreatK10
set_option maxHeartbeats 8000000
set_option linter.unusedVariables false
set_option linter.unusedSimpArgs false
set_option maxRecDepth 100000
open List (flatMap_cons getElem_mem length_append length_cons length_map length_nil length_set map_append mem_map take_length)
open Nat (zero_le)
open Bool (and_eq_true)
namespace Go.Proofs.YtpdmakdpnejnfaaGreat
open Go.Proofs.Tryz
open Go.ChangeShapes Go.WideShapes Go.RowKit
theorem Ib(l:(List DMark))(P:Nat->Prop)(w:World)(k:Int)(v:Value)(h:cf w P (.sl (l.map DMark.ds)) v)(h0:0<=k)(hk:k+aQ bk l<=1000000000000):
  Calls Tryz.prog 110 #[v,.int .i64 k] w (kI (k+aQ bk l) P w λw'=>cf w' P (.sl ((mkL iE bk k l).map DMark.ds)) v):=by
 obtain⟨A,cap,rfl,hcl,hcm⟩:=h.form;rw[length_map]at hcl h⊢;unfold maxLen at hcm;have hcn:=bG (cnt:=bk) fg l;go_enter Tryz.func110,Tryz.ntmps110
 go_wp2
 go_loopw [1,5] (λc i wr=>∃(j:Nat) (q:Int),j<=l.length/\i= .int .i64 j/\c= .int .i64 q/\Hid (q=k+aQ bk (l.take j))/\cf wr P (.sl ((mkP iE bk k j l).map DMark.ds)) (.slice A l.length cap)/\dK P w wr) (λ_ i _=>l.length-(intOf i).toNat)
 case atStart=>exact⟨0,k,zero_le _,rfl,rfl,by simp[Hid,aQ],by rw[gR];exact h,dK.refl _ _⟩
 case round=>
  obtain⟨j,q,hj,rfl,rfl,hq,hres,ht⟩:=hrel;by_cases hlt:j<l.length
  ·have hc1:=hcn (j+1);rw[bj hlt]at hc1;have hc0:0<=aQ bk (l.take j):=aO fg _;have hn:=fg l[j];have hq1:0<=q:=by have:=hq.out;omega
   have hq2:q+bk l[j]<=1000000000000:=by have:=hq.out;omega
   have hq3:q+3<=1000000000000:=by unfold bk at hq2;omega
   clear hc1 hc0 hcn hn;obtain⟨b,off,cap1,us,Q,e1,hPb,hQP,hel,hclose⟩:=hres.lens (kY DMark.ds k hlt);have e2:A=some ⟨b,off,none⟩:=by injection e1
   subst e2;clear e1;obtain⟨u0,us0,e0,hl0⟩:=bJ (n:=2) hel.len;subst e0;obtain⟨u1,us1,e0,hl1⟩:=bJ (n:=1) hl0;subst e0;obtain⟨u2,us2,e0,hl2⟩:=bJ (n:=0) hl1;subst e0;obtain rfl:=i7 hl2;clear hl2;have hel:El wr b (off+j*3) 3 Q wr (DMark.ds l[j]) [u0,u1,u2]:=hel;have c0:wr.cell? ⟨b,off+j*3,none⟩=some (u0):=hel.cell 0 _ rfl;have f0:=hel.frozen (off+j*3);have c1:wr.cell? ⟨b,off+j*3+1,none⟩=some (u1):=hel.cell 1 _ rfl;have f1:=hel.frozen (off+j*3+1);have c2:wr.cell? ⟨b,off+j*3+2,none⟩=some (u2):=hel.cell 2 _ rfl;have f2:=hel.frozen (off+j*3+2);have HC:=Lib.hid hclose;clear hclose hres h;have hfin:=HC.out _ _ _ (((hel.set (c:=0) ae (.int .i64 (q)) rfl).set (c:=1) ae (.int .i64 (q+1)) rfl).set (c:=2) ae (.int .i64 (q+1+1)) rfl);have htt:=ht.trans (((((hel.set (c:=0) ae (.int .i64 (q)) rfl).set (c:=1) ae (.int .i64 (q+1)) rfl).set (c:=2) ae (.int .i64 (q+1+1)) rfl)).turn.mono (P':=P) (by rintro g (rfl|hg);exact hPb;exact hQP _ hg));have e1:=hq.out;have hq':Hid (q+1+1+1=k+aQ bk (l.take (j+1))):=by
    unfold Hid;rw[bj hlt,e1];first|(unfold bk;omega)|omega
   have hm:cf _ P (.sl (((mkP iE bk k j l).map DMark.ds).set j (DMark.ds (iE q l[j])))) _:=hfin;rw[e1,gQ DMark.ds k hlt]at hm;try rw[<-e1]at hm
   clear HC hq hfin e1;have HM:=Lib.hid hm;have HT:=Lib.hid htt;clear hm htt ht hel;go_wp2
   exact⟨⟨j+1,_,aa,by go_num,rfl,hq',HM.out,HT.out⟩,by simp[intOf];omega⟩
  ·have e:j=l.length:=aa;subst e;have H:kI (k+aQ bk l) P w (λw'=>cf w' P (.sl ((mkL iE bk k l).map DMark.ds)) (.slice A l.length cap)) (.returned (.int .i64 q)) wr:=by
    rw[jc]at hres;have e1:=hq.out;rw[take_length]at e1;exact⟨by rw[e1],ht,hres⟩
   clear hres ht h hcn;go_wp2
   go_ret
   exact H
theorem yu(l:(List DMark))(k:Int)(h0:0<=k)(hk:k+aQ bk l<=1000000000000):dV av 110 (.one (.sl (l.map DMark.ds))) k (.one (.sl ((mkL iE bk k l).map DMark.ds))) (k+aQ bk l):=Yg call110 λP w v h=>Ib l P w k v h h0 hk
theorem EH(l:(List DEntry))(P:Nat->Prop)(w:World)(k:Int)(v:Value)(h:cf w P (.sl (l.map DEntry.ds)) v)(h0:0<=k)(hk:k+aQ bA l<=1000000000000):
  Calls Tryz.prog 200 #[v,.int .i64 k] w (kI (k+aQ bA l) P w λw'=>cf w' P (.sl ((mkL ib bA k l).map DEntry.ds)) v):=by
 obtain⟨A,cap,rfl,hcl,hcm⟩:=h.form;rw[length_map]at hcl h⊢;unfold maxLen at hcm;have hcn:=bG (cnt:=bA) fN l;go_enter Tryz.func200,Tryz.ntmps200
 go_wp2
 go_loopw [1,5] (λc i wr=>∃(j:Nat) (q:Int),j<=l.length/\i= .int .i64 j/\c= .int .i64 q/\Hid (q=k+aQ bA (l.take j))/\cf wr P (.sl ((mkP ib bA k j l).map DEntry.ds)) (.slice A l.length cap)/\dK P w wr) (λ_ i _=>l.length-(intOf i).toNat)
 case atStart=>exact⟨0,k,zero_le _,rfl,rfl,by simp[Hid,aQ],by rw[gR];exact h,dK.refl _ _⟩
 case round=>
  obtain⟨j,q,hj,rfl,rfl,hq,hres,ht⟩:=hrel;by_cases hlt:j<l.length
  ·have hc1:=hcn (j+1);rw[bj hlt]at hc1;have hc0:0<=aQ bA (l.take j):=aO fN _;have hn:=fN l[j];have hq1:0<=q:=by have:=hq.out;omega
   have hq2:q+bA l[j]<=1000000000000:=by have:=hq.out;omega
   have hq3:q+9<=1000000000000:=by unfold bA at hq2;omega
   clear hc1 hc0 hcn hn;obtain⟨b,off,cap1,us,Q,e1,hPb,hQP,hel,hclose⟩:=hres.lens (kY DEntry.ds k hlt);have e2:A=some ⟨b,off,none⟩:=by injection e1
   subst e2;clear e1;obtain⟨u0,us0,e0,hl0⟩:=bJ (n:=8) hel.len;subst e0;obtain⟨u1,us1,e0,hl1⟩:=bJ (n:=7) hl0;subst e0;obtain⟨u2,us2,e0,hl2⟩:=bJ (n:=6) hl1;subst e0;obtain⟨u3,us3,e0,hl3⟩:=bJ (n:=5) hl2;subst e0;obtain⟨u4,us4,e0,hl4⟩:=bJ (n:=4) hl3;subst e0;obtain⟨u5,us5,e0,hl5⟩:=bJ (n:=3) hl4;subst e0;obtain⟨u6,us6,e0,hl6⟩:=bJ (n:=2) hl5;subst e0;obtain⟨u7,us7,e0,hl7⟩:=bJ (n:=1) hl6;subst e0;obtain⟨u8,us8,e0,hl8⟩:=bJ (n:=0) hl7;subst e0;obtain rfl:=i7 hl8;clear hl8;have hel:El wr b (off+j*9) 9 Q wr (DEntry.ds l[j]) [u0,u1,u2,u3,u4,u5,u6,u7,u8]:=hel;have c0:wr.cell? ⟨b,off+j*9,none⟩=some (u0):=hel.cell 0 _ rfl;have f0:=hel.frozen (off+j*9);have c1:wr.cell? ⟨b,off+j*9+1,none⟩=some (u1):=hel.cell 1 _ rfl;have f1:=hel.frozen (off+j*9+1);have c2:wr.cell? ⟨b,off+j*9+2,none⟩=some (u2):=hel.cell 2 _ rfl;have f2:=hel.frozen (off+j*9+2);have c3:wr.cell? ⟨b,off+j*9+3,none⟩=some (u3):=hel.cell 3 _ rfl;have f3:=hel.frozen (off+j*9+3);have c4:wr.cell? ⟨b,off+j*9+4,none⟩=some (u4):=hel.cell 4 _ rfl;have f4:=hel.frozen (off+j*9+4);have c5:wr.cell? ⟨b,off+j*9+5,none⟩=some (u5):=hel.cell 5 _ rfl;have f5:=hel.frozen (off+j*9+5);have c6:wr.cell? ⟨b,off+j*9+6,none⟩=some (u6):=hel.cell 6 _ rfl;have f6:=hel.frozen (off+j*9+6);have c7:wr.cell? ⟨b,off+j*9+7,none⟩=some (u7):=hel.cell 7 _ rfl;have f7:=hel.frozen (off+j*9+7);have c8:wr.cell? ⟨b,off+j*9+8,none⟩=some (u8):=hel.cell 8 _ rfl;have f8:=hel.frozen (off+j*9+8);have HC:=Lib.hid hclose;clear hclose hres h;have hfin:=HC.out _ _ _ (((((((((hel.set (c:=0) ae (.int .i64 (q)) rfl).set (c:=1) ae (.int .i64 (q+1)) rfl).set (c:=2) ae (.int .i64 (q+1+1)) rfl).set (c:=3) ae (.int .i64 (q+1+1+1)) rfl).set (c:=4) ae (.int .i64 (q+1+1+1+1)) rfl).set (c:=5) ae (.int .i64 (q+1+1+1+1+1)) rfl).set (c:=6) ae (.int .i64 (q+1+1+1+1+1+1)) rfl).set (c:=7) ae (.int .i64 (q+1+1+1+1+1+1+1)) rfl).set (c:=8) ae (.int .i64 (q+1+1+1+1+1+1+1+1)) rfl);have htt:=ht.trans (((((((((((hel.set (c:=0) ae (.int .i64 (q)) rfl).set (c:=1) ae (.int .i64 (q+1)) rfl).set (c:=2) ae (.int .i64 (q+1+1)) rfl).set (c:=3) ae (.int .i64 (q+1+1+1)) rfl).set (c:=4) ae (.int .i64 (q+1+1+1+1)) rfl).set (c:=5) ae (.int .i64 (q+1+1+1+1+1)) rfl).set (c:=6) ae (.int .i64 (q+1+1+1+1+1+1)) rfl).set (c:=7) ae (.int .i64 (q+1+1+1+1+1+1+1)) rfl).set (c:=8) ae (.int .i64 (q+1+1+1+1+1+1+1+1)) rfl)).turn.mono (P':=P) (by rintro g (rfl|hg);exact hPb;exact hQP _ hg));have e1:=hq.out;have hq':Hid (q+1+1+1+1+1+1+1+1+1=k+aQ bA (l.take (j+1))):=by
    unfold Hid;rw[bj hlt,e1];first|(unfold bA;omega)|omega
   have hm:cf _ P (.sl (((mkP ib bA k j l).map DEntry.ds).set j (DEntry.ds (ib q l[j])))) _:=hfin;rw[e1,gQ DEntry.ds k hlt]at hm;try rw[<-e1]at hm
   clear HC hq hfin e1;have HM:=Lib.hid hm;have HT:=Lib.hid htt;clear hm htt ht hel;go_wp2
   exact⟨⟨j+1,_,aa,by go_num,rfl,hq',HM.out,HT.out⟩,by simp[intOf];omega⟩
  ·have e:j=l.length:=aa;subst e;have H:kI (k+aQ bA l) P w (λw'=>cf w' P (.sl ((mkL ib bA k l).map DEntry.ds)) (.slice A l.length cap)) (.returned (.int .i64 q)) wr:=by
    rw[jc]at hres;have e1:=hq.out;rw[take_length]at e1;exact⟨by rw[e1],ht,hres⟩
   clear hres ht h hcn;go_wp2
   go_ret
   exact H
theorem EI(l:(List DEntry))(k:Int)(h0:0<=k)(hk:k+aQ bA l<=1000000000000):dV av 200 (.one (.sl (l.map DEntry.ds))) k (.one (.sl ((mkL ib bA k l).map DEntry.ds))) (k+aQ bA l):=Yg call200 λP w v h=>EH l P w k v h h0 hk
theorem J9(l:(List DAck))(P:Nat->Prop)(w:World)(k:Int)(v:Value)(h:cf w P (.sl (l.map DAck.ds)) v)(h0:0<=k)(hk:k+aQ co l<=1000000000000):
  Calls Tryz.prog 111 #[v,.int .i64 k] w (kI (k+aQ co l) P w λw'=>cf w' P (.sl ((mkL lX co k l).map DAck.ds)) v):=by
 obtain⟨A,cap,rfl,hcl,hcm⟩:=h.form;rw[length_map]at hcl h⊢;unfold maxLen at hcm;have hcn:=bG (cnt:=co) it l;go_enter Tryz.func111,Tryz.ntmps111
 go_wp2
 go_loopw [1,5] (λc i wr=>∃(j:Nat) (q:Int),j<=l.length/\i= .int .i64 j/\c= .int .i64 q/\Hid (q=k+aQ co (l.take j))/\cf wr P (.sl ((mkP lX co k j l).map DAck.ds)) (.slice A l.length cap)/\dK P w wr) (λ_ i _=>l.length-(intOf i).toNat)
 case atStart=>exact⟨0,k,zero_le _,rfl,rfl,by simp[Hid,aQ],by rw[gR];exact h,dK.refl _ _⟩
 case round=>
  obtain⟨j,q,hj,rfl,rfl,hq,hres,ht⟩:=hrel;by_cases hlt:j<l.length
  ·have hc1:=hcn (j+1);rw[bj hlt]at hc1;have hc0:0<=aQ co (l.take j):=aO it _;have hn:=it l[j];have hq1:0<=q:=by have:=hq.out;omega
   have hq2:q+co l[j]<=1000000000000:=by have:=hq.out;omega
   have hq3:q+4<=1000000000000:=by unfold co at hq2;omega
   clear hc1 hc0 hcn hn;obtain⟨b,off,cap1,us,Q,e1,hPb,hQP,hel,hclose⟩:=hres.lens (kY DAck.ds k hlt);have e2:A=some ⟨b,off,none⟩:=by injection e1
   subst e2;clear e1;obtain⟨u0,us0,e0,hl0⟩:=bJ (n:=3) hel.len;subst e0;obtain⟨u1,us1,e0,hl1⟩:=bJ (n:=2) hl0;subst e0;obtain⟨u2,us2,e0,hl2⟩:=bJ (n:=1) hl1;subst e0;obtain⟨u3,us3,e0,hl3⟩:=bJ (n:=0) hl2;subst e0;obtain rfl:=i7 hl3;clear hl3;have hel:El wr b (off+j*4) 4 Q wr (DAck.ds l[j]) [u0,u1,u2,u3]:=hel;have c0:wr.cell? ⟨b,off+j*4,none⟩=some (u0):=hel.cell 0 _ rfl;have f0:=hel.frozen (off+j*4);have c1:wr.cell? ⟨b,off+j*4+1,none⟩=some (u1):=hel.cell 1 _ rfl;have f1:=hel.frozen (off+j*4+1);have c2:wr.cell? ⟨b,off+j*4+2,none⟩=some (u2):=hel.cell 2 _ rfl;have f2:=hel.frozen (off+j*4+2);have c3:wr.cell? ⟨b,off+j*4+3,none⟩=some (u3):=hel.cell 3 _ rfl;have f3:=hel.frozen (off+j*4+3);have HC:=Lib.hid hclose;clear hclose hres h;have hfin:=HC.out _ _ _ ((((hel.set (c:=0) ae (.int .i64 (q)) rfl).set (c:=1) ae (.int .i64 (q+1)) rfl).set (c:=2) ae (.int .i64 (q+1+1)) rfl).set (c:=3) ae (.int .i64 (q+1+1+1)) rfl);have htt:=ht.trans ((((((hel.set (c:=0) ae (.int .i64 (q)) rfl).set (c:=1) ae (.int .i64 (q+1)) rfl).set (c:=2) ae (.int .i64 (q+1+1)) rfl).set (c:=3) ae (.int .i64 (q+1+1+1)) rfl)).turn.mono (P':=P) (by rintro g (rfl|hg);exact hPb;exact hQP _ hg));have e1:=hq.out;have hq':Hid (q+1+1+1+1=k+aQ co (l.take (j+1))):=by
    unfold Hid;rw[bj hlt,e1];first|(unfold co;omega)|omega
   have hm:cf _ P (.sl (((mkP lX co k j l).map DAck.ds).set j (DAck.ds (lX q l[j])))) _:=hfin;rw[e1,gQ DAck.ds k hlt]at hm;try rw[<-e1]at hm
   clear HC hq hfin e1;have HM:=Lib.hid hm;have HT:=Lib.hid htt;clear hm htt ht hel;go_wp2
   exact⟨⟨j+1,_,aa,by go_num,rfl,hq',HM.out,HT.out⟩,by simp[intOf];omega⟩
  ·have e:j=l.length:=aa;subst e;have H:kI (k+aQ co l) P w (λw'=>cf w' P (.sl ((mkL lX co k l).map DAck.ds)) (.slice A l.length cap)) (.returned (.int .i64 q)) wr:=by
    rw[jc]at hres;have e1:=hq.out;rw[take_length]at e1;exact⟨by rw[e1],ht,hres⟩
   clear hres ht h hcn;go_wp2
   go_ret
   exact H
theorem Ka(l:(List DAck))(k:Int)(h0:0<=k)(hk:k+aQ co l<=1000000000000):dV av 111 (.one (.sl (l.map DAck.ds))) k (.one (.sl ((mkL lX co k l).map DAck.ds))) (k+aQ co l):=Yg call111 λP w v h=>J9 l P w k v h h0 hk
theorem Ic(l:(List DPair))(P:Nat->Prop)(w:World)(k:Int)(v:Value)(h:cf w P (.sl (l.map DPair.ds)) v)(h0:0<=k)(hk:k+aQ bB l<=1000000000000):
  Calls Tryz.prog 203 #[v,.int .i64 k] w (kI (k+aQ bB l) P w λw'=>cf w' P (.sl ((mkL ja bB k l).map DPair.ds)) v):=by
 obtain⟨A,cap,rfl,hcl,hcm⟩:=h.form;rw[length_map]at hcl h⊢;unfold maxLen at hcm;have hcn:=bG (cnt:=bB) gG l;go_enter Tryz.func203,Tryz.ntmps203
 go_wp2
 go_loopw [1,5] (λc i wr=>∃(j:Nat) (q:Int),j<=l.length/\i= .int .i64 j/\c= .int .i64 q/\Hid (q=k+aQ bB (l.take j))/\cf wr P (.sl ((mkP ja bB k j l).map DPair.ds)) (.slice A l.length cap)/\dK P w wr) (λ_ i _=>l.length-(intOf i).toNat)
 case atStart=>exact⟨0,k,zero_le _,rfl,rfl,by simp[Hid,aQ],by rw[gR];exact h,dK.refl _ _⟩
 case round=>
  obtain⟨j,q,hj,rfl,rfl,hq,hres,ht⟩:=hrel;by_cases hlt:j<l.length
  ·have hc1:=hcn (j+1);rw[bj hlt]at hc1;have hc0:0<=aQ bB (l.take j):=aO gG _;have hn:=gG l[j];have hq1:0<=q:=by have:=hq.out;omega
   have hq2:q+bB l[j]<=1000000000000:=by have:=hq.out;omega
   have hq3:q+2<=1000000000000:=by unfold bB at hq2;omega
   clear hc1 hc0 hcn hn;obtain⟨b,off,cap1,us,Q,e1,hPb,hQP,hel,hclose⟩:=hres.lens (kY DPair.ds k hlt);have e2:A=some ⟨b,off,none⟩:=by injection e1
   subst e2;clear e1;obtain⟨u0,us0,e0,hl0⟩:=bJ (n:=1) hel.len;subst e0;obtain⟨u1,us1,e0,hl1⟩:=bJ (n:=0) hl0;subst e0;obtain rfl:=i7 hl1;clear hl1;have hel:El wr b (off+j*2) 2 Q wr (DPair.ds l[j]) [u0,u1]:=hel;have c0:wr.cell? ⟨b,off+j*2,none⟩=some (u0):=hel.cell 0 _ rfl;have f0:=hel.frozen (off+j*2);have c1:wr.cell? ⟨b,off+j*2+1,none⟩=some (u1):=hel.cell 1 _ rfl;have f1:=hel.frozen (off+j*2+1);have HC:=Lib.hid hclose;clear hclose hres h;have hfin:=HC.out _ _ _ ((hel.set (c:=0) ae (.int .i64 (q)) rfl).set (c:=1) ae (.int .i64 (q+1)) rfl);have htt:=ht.trans ((((hel.set (c:=0) ae (.int .i64 (q)) rfl).set (c:=1) ae (.int .i64 (q+1)) rfl)).turn.mono (P':=P) (by rintro g (rfl|hg);exact hPb;exact hQP _ hg));have e1:=hq.out;have hq':Hid (q+1+1=k+aQ bB (l.take (j+1))):=by
    unfold Hid;rw[bj hlt,e1];first|(unfold bB;omega)|omega
   have hm:cf _ P (.sl (((mkP ja bB k j l).map DPair.ds).set j (DPair.ds (ja q l[j])))) _:=hfin;rw[e1,gQ DPair.ds k hlt]at hm;try rw[<-e1]at hm
   clear HC hq hfin e1;have HM:=Lib.hid hm;have HT:=Lib.hid htt;clear hm htt ht hel;go_wp2
   exact⟨⟨j+1,_,aa,by go_num,rfl,hq',HM.out,HT.out⟩,by simp[intOf];omega⟩
  ·have e:j=l.length:=aa;subst e;have H:kI (k+aQ bB l) P w (λw'=>cf w' P (.sl ((mkL ja bB k l).map DPair.ds)) (.slice A l.length cap)) (.returned (.int .i64 q)) wr:=by
    rw[jc]at hres;have e1:=hq.out;rw[take_length]at e1;exact⟨by rw[e1],ht,hres⟩
   clear hres ht h hcn;go_wp2
   go_ret
   exact H
theorem Id(l:(List DPair))(k:Int)(h0:0<=k)(hk:k+aQ bB l<=1000000000000):dV av 203 (.one (.sl (l.map DPair.ds))) k (.one (.sl ((mkL ja bB k l).map DPair.ds))) (k+aQ bB l):=Yg call203 λP w v h=>Ic l P w k v h h0 hk
theorem Kg(l:(List DJob))(P:Nat->Prop)(w:World)(k:Int)(v:Value)(h:cf w P (.sl (l.map DJob.ds)) v)(h0:0<=k)(hk:k+aQ ct l<=1000000000000):
  Calls Tryz.prog 204 #[v,.int .i64 k] w (kI (k+aQ ct l) P w λw'=>cf w' P (.sl ((mkL l0 ct k l).map DJob.ds)) v):=by
 obtain⟨A,cap,rfl,hcl,hcm⟩:=h.form;rw[length_map]at hcl h⊢;unfold maxLen at hcm;have hcn:=bG (cnt:=ct) iy l;go_enter Tryz.func204,Tryz.ntmps204
 go_wp2
 go_loopw [1,5] (λc i wr=>∃(j:Nat) (q:Int),j<=l.length/\i= .int .i64 j/\c= .int .i64 q/\Hid (q=k+aQ ct (l.take j))/\cf wr P (.sl ((mkP l0 ct k j l).map DJob.ds)) (.slice A l.length cap)/\dK P w wr) (λ_ i _=>l.length-(intOf i).toNat)
 case atStart=>exact⟨0,k,zero_le _,rfl,rfl,by simp[Hid,aQ],by rw[gR];exact h,dK.refl _ _⟩
 case round=>
  obtain⟨j,q,hj,rfl,rfl,hq,hres,ht⟩:=hrel;by_cases hlt:j<l.length
  ·have hc1:=hcn (j+1);rw[bj hlt]at hc1;have hc0:0<=aQ ct (l.take j):=aO iy _;have hn:=iy l[j];have hq1:0<=q:=by have:=hq.out;omega
   have hq2:q+ct l[j]<=1000000000000:=by have:=hq.out;omega
   have hq3:q+5<=1000000000000:=by unfold ct at hq2;omega
   clear hc1 hc0 hcn hn;obtain⟨b,off,cap1,us,Q,e1,hPb,hQP,hel,hclose⟩:=hres.lens (kY DJob.ds k hlt);have e2:A=some ⟨b,off,none⟩:=by injection e1
   subst e2;clear e1;obtain⟨u0,us0,e0,hl0⟩:=bJ (n:=4) hel.len;subst e0;obtain⟨u1,us1,e0,hl1⟩:=bJ (n:=3) hl0;subst e0;obtain⟨u2,us2,e0,hl2⟩:=bJ (n:=2) hl1;subst e0;obtain⟨u3,us3,e0,hl3⟩:=bJ (n:=1) hl2;subst e0;obtain⟨u4,us4,e0,hl4⟩:=bJ (n:=0) hl3;subst e0;obtain rfl:=i7 hl4;clear hl4;have hel:El wr b (off+j*5) 5 Q wr (DJob.ds l[j]) [u0,u1,u2,u3,u4]:=hel;have c0:wr.cell? ⟨b,off+j*5,none⟩=some (u0):=hel.cell 0 _ rfl;have f0:=hel.frozen (off+j*5);have c1:wr.cell? ⟨b,off+j*5+1,none⟩=some (u1):=hel.cell 1 _ rfl;have f1:=hel.frozen (off+j*5+1);have c2:wr.cell? ⟨b,off+j*5+2,none⟩=some (u2):=hel.cell 2 _ rfl;have f2:=hel.frozen (off+j*5+2);have c3:wr.cell? ⟨b,off+j*5+3,none⟩=some (u3):=hel.cell 3 _ rfl;have f3:=hel.frozen (off+j*5+3);have c4:wr.cell? ⟨b,off+j*5+4,none⟩=some (u4):=hel.cell 4 _ rfl;have f4:=hel.frozen (off+j*5+4);have HC:=Lib.hid hclose;clear hclose hres h;have hfin:=HC.out _ _ _ (((((hel.set (c:=0) ae (.int .i64 (q)) rfl).set (c:=1) ae (.int .i64 (q+1)) rfl).set (c:=2) ae (.int .i64 (q+1+1)) rfl).set (c:=3) ae (.int .i64 (q+1+1+1)) rfl).set (c:=4) ae (.int .i64 (q+1+1+1+1)) rfl);have htt:=ht.trans (((((((hel.set (c:=0) ae (.int .i64 (q)) rfl).set (c:=1) ae (.int .i64 (q+1)) rfl).set (c:=2) ae (.int .i64 (q+1+1)) rfl).set (c:=3) ae (.int .i64 (q+1+1+1)) rfl).set (c:=4) ae (.int .i64 (q+1+1+1+1)) rfl)).turn.mono (P':=P) (by rintro g (rfl|hg);exact hPb;exact hQP _ hg));have e1:=hq.out;have hq':Hid (q+1+1+1+1+1=k+aQ ct (l.take (j+1))):=by
    unfold Hid;rw[bj hlt,e1];first|(unfold ct;omega)|omega
   have hm:cf _ P (.sl (((mkP l0 ct k j l).map DJob.ds).set j (DJob.ds (l0 q l[j])))) _:=hfin;rw[e1,gQ DJob.ds k hlt]at hm;try rw[<-e1]at hm
   clear HC hq hfin e1;have HM:=Lib.hid hm;have HT:=Lib.hid htt;clear hm htt ht hel;go_wp2
   exact⟨⟨j+1,_,aa,by go_num,rfl,hq',HM.out,HT.out⟩,by simp[intOf];omega⟩
  ·have e:j=l.length:=aa;subst e;have H:kI (k+aQ ct l) P w (λw'=>cf w' P (.sl ((mkL l0 ct k l).map DJob.ds)) (.slice A l.length cap)) (.returned (.int .i64 q)) wr:=by
    rw[jc]at hres;have e1:=hq.out;rw[take_length]at e1;exact⟨by rw[e1],ht,hres⟩
   clear hres ht h hcn;go_wp2
   go_ret
   exact H
theorem Kh(l:(List DJob))(k:Int)(h0:0<=k)(hk:k+aQ ct l<=1000000000000):dV av 204 (.one (.sl (l.map DJob.ds))) k (.one (.sl ((mkL l0 ct k l).map DJob.ds))) (k+aQ ct l):=Yg call204 λP w v h=>Kg l P w k v h h0 hk
theorem Kc(l:(List DDue))(P:Nat->Prop)(w:World)(k:Int)(v:Value)(h:cf w P (.sl (l.map DDue.ds)) v)(h0:0<=k)(hk:k+aQ cp l<=1000000000000):
  Calls Tryz.prog 283 #[v,.int .i64 k] w (kI (k+aQ cp l) P w λw'=>cf w' P (.sl ((mkL lY cp k l).map DDue.ds)) v):=by
 obtain⟨A,cap,rfl,hcl,hcm⟩:=h.form;rw[length_map]at hcl h⊢;unfold maxLen at hcm;have hcn:=bG (cnt:=cp) iu l;go_enter Tryz.func283,Tryz.ntmps283
 go_wp2
 go_loopw [1,5] (λc i wr=>∃(j:Nat) (q:Int),j<=l.length/\i= .int .i64 j/\c= .int .i64 q/\Hid (q=k+aQ cp (l.take j))/\cf wr P (.sl ((mkP lY cp k j l).map DDue.ds)) (.slice A l.length cap)/\dK P w wr) (λ_ i _=>l.length-(intOf i).toNat)
 case atStart=>exact⟨0,k,zero_le _,rfl,rfl,by simp[Hid,aQ],by rw[gR];exact h,dK.refl _ _⟩
 case round=>
  obtain⟨j,q,hj,rfl,rfl,hq,hres,ht⟩:=hrel;by_cases hlt:j<l.length
  ·have hc1:=hcn (j+1);rw[bj hlt]at hc1;have hc0:0<=aQ cp (l.take j):=aO iu _;have hn:=iu l[j];have hq1:0<=q:=by have:=hq.out;omega
   have hq2:q+cp l[j]<=1000000000000:=by have:=hq.out;omega
   have hq3:q+2<=1000000000000:=by unfold cp at hq2;omega
   clear hc1 hc0 hcn hn;obtain⟨b,off,cap1,us,Q,e1,hPb,hQP,hel,hclose⟩:=hres.lens (kY DDue.ds k hlt);have e2:A=some ⟨b,off,none⟩:=by injection e1
   subst e2;clear e1;obtain⟨u0,us0,e0,hl0⟩:=bJ (n:=1) hel.len;subst e0;obtain⟨u1,us1,e0,hl1⟩:=bJ (n:=0) hl0;subst e0;obtain rfl:=i7 hl1;clear hl1;have hel:El wr b (off+j*2) 2 Q wr (DDue.ds l[j]) [u0,u1]:=hel;have c0:wr.cell? ⟨b,off+j*2,none⟩=some (u0):=hel.cell 0 _ rfl;have f0:=hel.frozen (off+j*2);have c1:wr.cell? ⟨b,off+j*2+1,none⟩=some (u1):=hel.cell 1 _ rfl;have f1:=hel.frozen (off+j*2+1);have HC:=Lib.hid hclose;clear hclose hres h;have hfin:=HC.out _ _ _ ((hel.set (c:=0) ae (.int .i64 (q)) rfl).set (c:=1) ae (.int .i64 (q+1)) rfl);have htt:=ht.trans ((((hel.set (c:=0) ae (.int .i64 (q)) rfl).set (c:=1) ae (.int .i64 (q+1)) rfl)).turn.mono (P':=P) (by rintro g (rfl|hg);exact hPb;exact hQP _ hg));have e1:=hq.out;have hq':Hid (q+1+1=k+aQ cp (l.take (j+1))):=by
    unfold Hid;rw[bj hlt,e1];first|(unfold cp;omega)|omega
   have hm:cf _ P (.sl (((mkP lY cp k j l).map DDue.ds).set j (DDue.ds (lY q l[j])))) _:=hfin;rw[e1,gQ DDue.ds k hlt]at hm;try rw[<-e1]at hm
   clear HC hq hfin e1;have HM:=Lib.hid hm;have HT:=Lib.hid htt;clear hm htt ht hel;go_wp2
   exact⟨⟨j+1,_,aa,by go_num,rfl,hq',HM.out,HT.out⟩,by simp[intOf];omega⟩
  ·have e:j=l.length:=aa;subst e;have H:kI (k+aQ cp l) P w (λw'=>cf w' P (.sl ((mkL lY cp k l).map DDue.ds)) (.slice A l.length cap)) (.returned (.int .i64 q)) wr:=by
    rw[jc]at hres;have e1:=hq.out;rw[take_length]at e1;exact⟨by rw[e1],ht,hres⟩
   clear hres ht h hcn;go_wp2
   go_ret
   exact H
theorem Kd(l:(List DDue))(k:Int)(h0:0<=k)(hk:k+aQ cp l<=1000000000000):dV av 283 (.one (.sl (l.map DDue.ds))) k (.one (.sl ((mkL lY cp k l).map DDue.ds))) (k+aQ cp l):=Yg call283 λP w v h=>Kc l P w k v h h0 hk
theorem Ig(l:(List DWant))(P:Nat->Prop)(w:World)(k:Int)(v:Value)(h:cf w P (.sl (l.map DWant.ds)) v)(h0:0<=k)(hk:k+aQ bC l<=1000000000000):
  Calls Tryz.prog 115 #[v,.int .i64 k] w (kI (k+aQ bC l) P w λw'=>cf w' P (.sl ((mkL jb bC k l).map DWant.ds)) v):=by
 obtain⟨A,cap,rfl,hcl,hcm⟩:=h.form;rw[length_map]at hcl h⊢;unfold maxLen at hcm;have hcn:=bG (cnt:=bC) gH l;go_enter Tryz.func115,Tryz.ntmps115
 go_wp2
 go_loopw [1,5] (λc i wr=>∃(j:Nat) (q:Int),j<=l.length/\i= .int .i64 j/\c= .int .i64 q/\Hid (q=k+aQ bC (l.take j))/\cf wr P (.sl ((mkP jb bC k j l).map DWant.ds)) (.slice A l.length cap)/\dK P w wr) (λ_ i _=>l.length-(intOf i).toNat)
 case atStart=>exact⟨0,k,zero_le _,rfl,rfl,by simp[Hid,aQ],by rw[gR];exact h,dK.refl _ _⟩
 case round=>
  obtain⟨j,q,hj,rfl,rfl,hq,hres,ht⟩:=hrel;by_cases hlt:j<l.length
  ·have hc1:=hcn (j+1);rw[bj hlt]at hc1;have hc0:0<=aQ bC (l.take j):=aO gH _;have hn:=gH l[j];have hq1:0<=q:=by have:=hq.out;omega
   have hq2:q+bC l[j]<=1000000000000:=by have:=hq.out;omega
   have hq3:q+7<=1000000000000:=by unfold bC at hq2;omega
   clear hc1 hc0 hcn hn;obtain⟨b,off,cap1,us,Q,e1,hPb,hQP,hel,hclose⟩:=hres.lens (kY DWant.ds k hlt);have e2:A=some ⟨b,off,none⟩:=by injection e1
   subst e2;clear e1;obtain⟨u0,us0,e0,hl0⟩:=bJ (n:=6) hel.len;subst e0;obtain⟨u1,us1,e0,hl1⟩:=bJ (n:=5) hl0;subst e0;obtain⟨u2,us2,e0,hl2⟩:=bJ (n:=4) hl1;subst e0;obtain⟨u3,us3,e0,hl3⟩:=bJ (n:=3) hl2;subst e0;obtain⟨u4,us4,e0,hl4⟩:=bJ (n:=2) hl3;subst e0;obtain⟨u5,us5,e0,hl5⟩:=bJ (n:=1) hl4;subst e0;obtain⟨u6,us6,e0,hl6⟩:=bJ (n:=0) hl5;subst e0;obtain rfl:=i7 hl6;clear hl6;have hel:El wr b (off+j*7) 7 Q wr (DWant.ds l[j]) [u0,u1,u2,u3,u4,u5,u6]:=hel;have c0:wr.cell? ⟨b,off+j*7,none⟩=some (u0):=hel.cell 0 _ rfl;have f0:=hel.frozen (off+j*7);have c1:wr.cell? ⟨b,off+j*7+1,none⟩=some (u1):=hel.cell 1 _ rfl;have f1:=hel.frozen (off+j*7+1);have c2:wr.cell? ⟨b,off+j*7+2,none⟩=some (u2):=hel.cell 2 _ rfl;have f2:=hel.frozen (off+j*7+2);have c3:wr.cell? ⟨b,off+j*7+3,none⟩=some (u3):=hel.cell 3 _ rfl;have f3:=hel.frozen (off+j*7+3);have c4:wr.cell? ⟨b,off+j*7+4,none⟩=some (u4):=hel.cell 4 _ rfl;have f4:=hel.frozen (off+j*7+4);have c5:wr.cell? ⟨b,off+j*7+5,none⟩=some (u5):=hel.cell 5 _ rfl;have f5:=hel.frozen (off+j*7+5);have c6:wr.cell? ⟨b,off+j*7+6,none⟩=some (u6):=hel.cell 6 _ rfl;have f6:=hel.frozen (off+j*7+6);have HC:=Lib.hid hclose;clear hclose hres h;have hfin:=HC.out _ _ _ (((((((hel.set (c:=0) ae (.int .i64 (q)) rfl).set (c:=1) ae (.int .i64 (q+1)) rfl).set (c:=2) ae (.int .i64 (q+1+1)) rfl).set (c:=3) ae (.int .i64 (q+1+1+1)) rfl).set (c:=4) ae (.int .i64 (q+1+1+1+1)) rfl).set (c:=5) ae (.int .i64 (q+1+1+1+1+1)) rfl).set (c:=6) ae (.int .i64 (q+1+1+1+1+1+1)) rfl);have htt:=ht.trans (((((((((hel.set (c:=0) ae (.int .i64 (q)) rfl).set (c:=1) ae (.int .i64 (q+1)) rfl).set (c:=2) ae (.int .i64 (q+1+1)) rfl).set (c:=3) ae (.int .i64 (q+1+1+1)) rfl).set (c:=4) ae (.int .i64 (q+1+1+1+1)) rfl).set (c:=5) ae (.int .i64 (q+1+1+1+1+1)) rfl).set (c:=6) ae (.int .i64 (q+1+1+1+1+1+1)) rfl)).turn.mono (P':=P) (by rintro g (rfl|hg);exact hPb;exact hQP _ hg));have e1:=hq.out;have hq':Hid (q+1+1+1+1+1+1+1=k+aQ bC (l.take (j+1))):=by
    unfold Hid;rw[bj hlt,e1];first|(unfold bC;omega)|omega
   have hm:cf _ P (.sl (((mkP jb bC k j l).map DWant.ds).set j (DWant.ds (jb q l[j])))) _:=hfin;rw[e1,gQ DWant.ds k hlt]at hm;try rw[<-e1]at hm
   clear HC hq hfin e1;have HM:=Lib.hid hm;have HT:=Lib.hid htt;clear hm htt ht hel;go_wp2
   exact⟨⟨j+1,_,aa,by go_num,rfl,hq',HM.out,HT.out⟩,by simp[intOf];omega⟩
  ·have e:j=l.length:=aa;subst e;have H:kI (k+aQ bC l) P w (λw'=>cf w' P (.sl ((mkL jb bC k l).map DWant.ds)) (.slice A l.length cap)) (.returned (.int .i64 q)) wr:=by
    rw[jc]at hres;have e1:=hq.out;rw[take_length]at e1;exact⟨by rw[e1],ht,hres⟩
   clear hres ht h hcn;go_wp2
   go_ret
   exact H
theorem Ih(l:(List DWant))(k:Int)(h0:0<=k)(hk:k+aQ bC l<=1000000000000):dV av 115 (.one (.sl (l.map DWant.ds))) k (.one (.sl ((mkL jb bC k l).map DWant.ds))) (k+aQ bC l):=Yg call115 λP w v h=>Ig l P w k v h h0 hk
theorem Ke(l:(List DGot))(P:Nat->Prop)(w:World)(k:Int)(v:Value)(h:cf w P (.sl (l.map DGot.ds)) v)(h0:0<=k)(hk:k+aQ cq l<=1000000000000):
  Calls Tryz.prog 116 #[v,.int .i64 k] w (kI (k+aQ cq l) P w λw'=>cf w' P (.sl ((mkL lZ cq k l).map DGot.ds)) v):=by
 obtain⟨A,cap,rfl,hcl,hcm⟩:=h.form;rw[length_map]at hcl h⊢;unfold maxLen at hcm;have hcn:=bG (cnt:=cq) iw l;go_enter Tryz.func116,Tryz.ntmps116
 go_wp2
 go_loopw [1,5] (λc i wr=>∃(j:Nat) (q:Int),j<=l.length/\i= .int .i64 j/\c= .int .i64 q/\Hid (q=k+aQ cq (l.take j))/\cf wr P (.sl ((mkP lZ cq k j l).map DGot.ds)) (.slice A l.length cap)/\dK P w wr) (λ_ i _=>l.length-(intOf i).toNat)
 case atStart=>exact⟨0,k,zero_le _,rfl,rfl,by simp[Hid,aQ],by rw[gR];exact h,dK.refl _ _⟩
 case round=>
  obtain⟨j,q,hj,rfl,rfl,hq,hres,ht⟩:=hrel;by_cases hlt:j<l.length
  ·have hc1:=hcn (j+1);rw[bj hlt]at hc1;have hc0:0<=aQ cq (l.take j):=aO iw _;have hn:=iw l[j];have hq1:0<=q:=by have:=hq.out;omega
   have hq2:q+cq l[j]<=1000000000000:=by have:=hq.out;omega
   have hq3:q+4<=1000000000000:=by unfold cq at hq2;omega
   clear hc1 hc0 hcn hn;obtain⟨b,off,cap1,us,Q,e1,hPb,hQP,hel,hclose⟩:=hres.lens (kY DGot.ds k hlt);have e2:A=some ⟨b,off,none⟩:=by injection e1
   subst e2;clear e1;obtain⟨u0,us0,e0,hl0⟩:=bJ (n:=3) hel.len;subst e0;obtain⟨u1,us1,e0,hl1⟩:=bJ (n:=2) hl0;subst e0;obtain⟨u2,us2,e0,hl2⟩:=bJ (n:=1) hl1;subst e0;obtain⟨u3,us3,e0,hl3⟩:=bJ (n:=0) hl2;subst e0;obtain rfl:=i7 hl3;clear hl3;have hel:El wr b (off+j*4) 4 Q wr (DGot.ds l[j]) [u0,u1,u2,u3]:=hel;have c0:wr.cell? ⟨b,off+j*4,none⟩=some (u0):=hel.cell 0 _ rfl;have f0:=hel.frozen (off+j*4);have c1:wr.cell? ⟨b,off+j*4+1,none⟩=some (u1):=hel.cell 1 _ rfl;have f1:=hel.frozen (off+j*4+1);have c2:wr.cell? ⟨b,off+j*4+2,none⟩=some (u2):=hel.cell 2 _ rfl;have f2:=hel.frozen (off+j*4+2);have c3:wr.cell? ⟨b,off+j*4+3,none⟩=some (u3):=hel.cell 3 _ rfl;have f3:=hel.frozen (off+j*4+3);have HC:=Lib.hid hclose;clear hclose hres h;have hfin:=HC.out _ _ _ ((((hel.set (c:=0) ae (.int .i64 (q)) rfl).set (c:=1) ae (.int .i64 (q+1)) rfl).set (c:=2) ae (.int .i64 (q+1+1)) rfl).set (c:=3) ae (.int .i64 (q+1+1+1)) rfl);have htt:=ht.trans ((((((hel.set (c:=0) ae (.int .i64 (q)) rfl).set (c:=1) ae (.int .i64 (q+1)) rfl).set (c:=2) ae (.int .i64 (q+1+1)) rfl).set (c:=3) ae (.int .i64 (q+1+1+1)) rfl)).turn.mono (P':=P) (by rintro g (rfl|hg);exact hPb;exact hQP _ hg));have e1:=hq.out;have hq':Hid (q+1+1+1+1=k+aQ cq (l.take (j+1))):=by
    unfold Hid;rw[bj hlt,e1];first|(unfold cq;omega)|omega
   have hm:cf _ P (.sl (((mkP lZ cq k j l).map DGot.ds).set j (DGot.ds (lZ q l[j])))) _:=hfin;rw[e1,gQ DGot.ds k hlt]at hm;try rw[<-e1]at hm
   clear HC hq hfin e1;have HM:=Lib.hid hm;have HT:=Lib.hid htt;clear hm htt ht hel;go_wp2
   exact⟨⟨j+1,_,aa,by go_num,rfl,hq',HM.out,HT.out⟩,by simp[intOf];omega⟩
  ·have e:j=l.length:=aa;subst e;have H:kI (k+aQ cq l) P w (λw'=>cf w' P (.sl ((mkL lZ cq k l).map DGot.ds)) (.slice A l.length cap)) (.returned (.int .i64 q)) wr:=by
    rw[jc]at hres;have e1:=hq.out;rw[take_length]at e1;exact⟨by rw[e1],ht,hres⟩
   clear hres ht h hcn;go_wp2
   go_ret
   exact H
theorem Kf(l:(List DGot))(k:Int)(h0:0<=k)(hk:k+aQ cq l<=1000000000000):dV av 116 (.one (.sl (l.map DGot.ds))) k (.one (.sl ((mkL lZ cq k l).map DGot.ds))) (k+aQ cq l):=Yg call116 λP w v h=>Ke l P w k v h h0 hk
theorem H9(l:(List DLink))(P:Nat->Prop)(w:World)(k:Int)(v:Value)(h:cf w P (.sl (l.map DLink.ds)) v)(h0:0<=k)(hk:k+aQ bQ l<=1000000000000):
  Calls Tryz.prog 118 #[v,.int .i64 k] w (kI (k+aQ bQ l) P w λw'=>cf w' P (.sl ((mkL jF bQ k l).map DLink.ds)) v):=by
 obtain⟨A,cap,rfl,hcl,hcm⟩:=h.form;rw[length_map]at hcl h⊢;unfold maxLen at hcm;have hcn:=bG (cnt:=bQ) gF l;go_enter Tryz.func118,Tryz.ntmps118
 go_wp2
 go_loopw [1,5] (λc i wr=>∃(j:Nat) (q:Int),j<=l.length/\i= .int .i64 j/\c= .int .i64 q/\Hid (q=k+aQ bQ (l.take j))/\cf wr P (.sl ((mkP jF bQ k j l).map DLink.ds)) (.slice A l.length cap)/\dK P w wr) (λ_ i _=>l.length-(intOf i).toNat)
 case atStart=>exact⟨0,k,zero_le _,rfl,rfl,by simp[Hid,aQ],by rw[gR];exact h,dK.refl _ _⟩
 case round=>
  obtain⟨j,q,hj,rfl,rfl,hq,hres,ht⟩:=hrel;by_cases hlt:j<l.length
  ·have hc1:=hcn (j+1);rw[bj hlt]at hc1;have hc0:0<=aQ bQ (l.take j):=aO gF _;have hn:=gF l[j];have hq1:0<=q:=by have:=hq.out;omega
   have hq2:q+bQ l[j]<=1000000000000:=by have:=hq.out;omega
   have hq3:q+2<=1000000000000:=by unfold bQ at hq2;omega
   clear hc1 hc0 hcn hn;obtain⟨b,off,cap1,us,Q,e1,hPb,hQP,hel,hclose⟩:=hres.lens (kY DLink.ds k hlt);have e2:A=some ⟨b,off,none⟩:=by injection e1
   subst e2;clear e1;obtain⟨u0,us0,e0,hl0⟩:=bJ (n:=1) hel.len;subst e0;obtain⟨u1,us1,e0,hl1⟩:=bJ (n:=0) hl0;subst e0;obtain rfl:=i7 hl1;clear hl1;have hel:El wr b (off+j*2) 2 Q wr (DLink.ds l[j]) [u0,u1]:=hel;have c0:wr.cell? ⟨b,off+j*2,none⟩=some (u0):=hel.cell 0 _ rfl;have f0:=hel.frozen (off+j*2);have c1:wr.cell? ⟨b,off+j*2+1,none⟩=some (u1):=hel.cell 1 _ rfl;have f1:=hel.frozen (off+j*2+1);have HC:=Lib.hid hclose;clear hclose hres h;have hfin:=HC.out _ _ _ ((hel.set (c:=0) ae (.int .i64 (q)) rfl).set (c:=1) ae (.int .i64 (q+1)) rfl);have htt:=ht.trans ((((hel.set (c:=0) ae (.int .i64 (q)) rfl).set (c:=1) ae (.int .i64 (q+1)) rfl)).turn.mono (P':=P) (by rintro g (rfl|hg);exact hPb;exact hQP _ hg));have e1:=hq.out;have hq':Hid (q+1+1=k+aQ bQ (l.take (j+1))):=by
    unfold Hid;rw[bj hlt,e1];first|(unfold bQ;omega)|omega
   have hm:cf _ P (.sl (((mkP jF bQ k j l).map DLink.ds).set j (DLink.ds (jF q l[j])))) _:=hfin;rw[e1,gQ DLink.ds k hlt]at hm;try rw[<-e1]at hm
   clear HC hq hfin e1;have HM:=Lib.hid hm;have HT:=Lib.hid htt;clear hm htt ht hel;go_wp2
   exact⟨⟨j+1,_,aa,by go_num,rfl,hq',HM.out,HT.out⟩,by simp[intOf];omega⟩
  ·have e:j=l.length:=aa;subst e;have H:kI (k+aQ bQ l) P w (λw'=>cf w' P (.sl ((mkL jF bQ k l).map DLink.ds)) (.slice A l.length cap)) (.returned (.int .i64 q)) wr:=by
    rw[jc]at hres;have e1:=hq.out;rw[take_length]at e1;exact⟨by rw[e1],ht,hres⟩
   clear hres ht h hcn;go_wp2
   go_ret
   exact H
theorem Ia(l:(List DLink))(k:Int)(h0:0<=k)(hk:k+aQ bQ l<=1000000000000):dV av 118 (.one (.sl (l.map DLink.ds))) k (.one (.sl ((mkL jF bQ k l).map DLink.ds))) (k+aQ bQ l):=Yg call118 λP w v h=>H9 l P w k v h h0 hk
def rC(k:Int)(x:DDisk):DDisk:=⟨mkL gP bm (k) x.kept,mkL ic bu (k+aQ bm x.kept) x.wait⟩
def bO(x:DDisk):Int:=aQ bm x.kept+aQ bu x.wait
theorem gI(x:DDisk):0<=bO x:=by
 unfold bO;have:=aO (cnt:=bm) fP x.kept;have:=aO (cnt:=bu) fO x.wait;omega
theorem uF(x:DDisk)(k:Int)(h0:0<=k)(hk:k+bO x<=1000000000000):dV av 112 (.agg x.ds) k (.agg (rC k x).ds) (k+bO x):=by
 have n0:=aO (cnt:=bm) fP x.kept;have n1:=aO (cnt:=bu) fO x.wait;have hkk:=hk;unfold bO at hkk;refine il aM func112 rfl call112 ntmps112 (aaX results112) λS P u=>?_;conv=>whnf
 repeat'((first|refine awy ?_|refine XN 9001 0 ([]) ([.sl (x.wait.map DWrite.ds)]) [] [u 1] (Dl x.kept (k) aa aa) rfl rfl rfl rfl rfl ?_|refine XN 9001 1 ([.sl ((mkL gP bm (k) x.kept).map bD)]) ([]) [u 0] [] (EM x.wait (k+aQ bm x.kept) aa aa) rfl rfl rfl rfl rfl ?_|fail)<;>conv=>whnf)
 refine And.intro ?_ rfl;have e:k+aQ bm x.kept+aQ bu x.wait=k+bO x:=by unfold bO;omega
 show AP.val (pI (k+aQ bm x.kept+aQ bu x.wait))=AP.val (pI (k+bO x));rw[e]
def uH(k:Int)(x:DTwo):DTwo:=⟨rC (k) x.a,rC (k+bO x.a) x.b⟩
def bH(x:DTwo):Int:=bO x.a+bO x.b
theorem w8(x:DTwo):0<=bH x:=by
 unfold bH;have:=gI x.a;have:=gI x.b;omega
theorem MF(x:DTwo)(k:Int)(h0:0<=k)(hk:k+bH x<=1000000000000):dV av 107 (.agg x.ds) k (.agg (uH k x).ds) (k+bH x):=by
 have n0:=gI x.a;have n1:=gI x.b;have hkk:=hk;unfold bH at hkk;refine il aM func107 rfl call107 ntmps107 (aaX results107) λS P u=>?_;conv=>whnf
 repeat'((first|refine awy ?_|refine XN 9001 0 ([]) (DDisk.ds x.b) [] [u 2,u 3] (uF x.a (k) aa aa) rfl rfl rfl rfl rfl ?_|refine XN 9001 2 (DDisk.ds (rC (k) x.a)) ([]) [u 0,u 1] [] (uF x.b (k+bO x.a) aa aa) rfl rfl rfl rfl rfl ?_|fail)<;>conv=>whnf)
 refine And.intro ?_ rfl;have e:k+bO x.a+bO x.b=k+bH x:=by unfold bH;omega
 show AP.val (pI (k+bO x.a+bO x.b))=AP.val (pI (k+bH x));rw[e]
def kZ(k:Int)(x:DHead):DHead:=⟨x.num,x.base,x.time,mkL iE bk (k) x.seen⟩
def bg(x:DHead):Int:=aQ bk x.seen
theorem kq(x:DHead):0<=bg x:=by
 unfold bg;have:=aO (cnt:=bk) fg x.seen;omega
theorem Ah(x:DHead)(k:Int)(h0:0<=k)(hk:k+bg x<=1000000000000):dV av 108 (.agg x.ds) k (.agg (kZ k x).ds) (k+bg x):=by
 have n0:=aO (cnt:=bk) fg x.seen;have hkk:=hk;unfold bg at hkk;refine il aM func108 rfl call108 ntmps108 (aaX results108) λS P u=>?_;conv=>whnf
 repeat'(first|refine awy ?_|(refine XN 9001 3 ([dI x.num]++[dI x.base]++[dI x.time]) ([]) [.int .i64 x.num,.int .i64 x.base,.int .i64 x.time] [] (yu x.seen (k) aa aa) rfl rfl rfl rfl rfl ?_;conv=>whnf)|fail)
 refine And.intro ?_ rfl;have e:k+aQ bk x.seen=k+bg x:=by unfold bg;omega
 show AP.val (pI (k+aQ bk x.seen))=AP.val (pI (k+bg x));rw[e]
def yy(k:Int)(x:DBook):DBook:=⟨x.base,x.time,mkL ib bA (k) x.entries⟩
def cJ(x:DBook):Int:=aQ bA x.entries
theorem tU(x:DBook):0<=cJ x:=by
 unfold cJ;have:=aO (cnt:=bA) fN x.entries;omega
theorem Kb(x:DBook)(k:Int)(h0:0<=k)(hk:k+cJ x<=1000000000000):dV av 109 (.agg x.ds) k (.agg (yy k x).ds) (k+cJ x):=by
 have n0:=aO (cnt:=bA) fN x.entries;have hkk:=hk;unfold cJ at hkk;refine il aM func109 rfl call109 ntmps109 (aaX results109) λS P u=>?_;conv=>whnf
 repeat'(first|refine awy ?_|(refine XN 9001 2 ([dI x.base]++[dI x.time]) ([]) [.int .i64 x.base,.int .i64 x.time] [] (EI x.entries (k) aa aa) rfl rfl rfl rfl rfl ?_;conv=>whnf)|fail)
 refine And.intro ?_ rfl;have e:k+aQ bA x.entries=k+cJ x:=by unfold cJ;omega
 show AP.val (pI (k+aQ bA x.entries))=AP.val (pI (k+cJ x));rw[e]
def ge(k:Int)(x:DLogNode):DLogNode:=⟨uH (k) x.two,kZ (k+bH x.two) x.head,kZ (k+bH x.two+bg x.head) x.nxt,x.more,yy (k+bH x.two+bg x.head+bg x.nxt) x.book,mkL iE bk (k+bH x.two+bg x.head+bg x.nxt+cJ x.book) x.seen,x.durable,mkL lX co (k+bH x.two+bg x.head+bg x.nxt+cJ x.book+aQ bk x.seen) x.owe⟩
def aN(x:DLogNode):Int:=bH x.two+bg x.head+bg x.nxt+cJ x.book+aQ bk x.seen+aQ co x.owe
theorem nZ(x:DLogNode):0<=aN x:=by
 unfold aN;have:=w8 x.two;have:=kq x.head;have:=kq x.nxt;have:=tU x.book;have:=aO (cnt:=bk) fg x.seen;have:=aO (cnt:=co) it x.owe;omega
def gB(x:DLogNode)(u:Nat->Value):List Value:=[u 0,u 1,u 2,u 3,.int .i64 x.head.num,.int .i64 x.head.base,.int .i64 x.head.time,u 7,.int .i64 x.nxt.num,.int .i64 x.nxt.base,.int .i64 x.nxt.time,u 11,.bool x.more,.int .i64 x.book.base,.int .i64 x.book.time,u 15,u 16,.int .i64 x.durable,u 18]
theorem Dm(x:DLogNode)(k:Int)(h0:0<=k)(hk:k+aN x<=1000000000000):dV av 37 (.agg x.ds) k (.agg (ge k x).ds) (k+aN x):=by
 have n0:=w8 x.two;have n1:=kq x.head;have n2:=kq x.nxt;have n3:=tU x.book;have n4:=aO (cnt:=bk) fg x.seen;have n5:=aO (cnt:=co) it x.owe;have hkk:=hk;unfold aN at hkk;refine il aM func37 rfl call37 ntmps37 (aaX results37) λS P u=>?_;conv=>whnf
 repeat'((first|refine awy ?_|refine XN 9001 0 ([]) (DHead.ds x.head++DHead.ds x.nxt++[dB x.more]++DBook.ds x.book++[.sl (x.seen.map DMark.ds)]++[dI x.durable]++[.sl (x.owe.map DAck.ds)]) ((gB x u).take 0) ((gB x u).drop 4) (MF x.two (k) aa aa) rfl rfl rfl rfl rfl ?_|refine XN 9001 4 (DTwo.ds (uH (k) x.two)) (DHead.ds x.nxt++[dB x.more]++DBook.ds x.book++[.sl (x.seen.map DMark.ds)]++[dI x.durable]++[.sl (x.owe.map DAck.ds)]) ((gB x u).take 4) ((gB x u).drop 8) (Ah x.head (k+bH x.two) aa aa) rfl rfl rfl rfl rfl ?_|refine XN 9001 8 (DTwo.ds (uH (k) x.two)++DHead.ds (kZ (k+bH x.two) x.head)) ([dB x.more]++DBook.ds x.book++[.sl (x.seen.map DMark.ds)]++[dI x.durable]++[.sl (x.owe.map DAck.ds)]) ((gB x u).take 8) ((gB x u).drop 12) (Ah x.nxt (k+bH x.two+bg x.head) aa aa) rfl rfl rfl rfl rfl ?_|refine XN 9001 13 (DTwo.ds (uH (k) x.two)++DHead.ds (kZ (k+bH x.two) x.head)++DHead.ds (kZ (k+bH x.two+bg x.head) x.nxt)++[dB x.more]) ([.sl (x.seen.map DMark.ds)]++[dI x.durable]++[.sl (x.owe.map DAck.ds)]) ((gB x u).take 13) ((gB x u).drop 16) (Kb x.book (k+bH x.two+bg x.head+bg x.nxt) aa aa) rfl rfl rfl rfl rfl ?_|refine XN 9001 16 (DTwo.ds (uH (k) x.two)++DHead.ds (kZ (k+bH x.two) x.head)++DHead.ds (kZ (k+bH x.two+bg x.head) x.nxt)++[dB x.more]++DBook.ds (yy (k+bH x.two+bg x.head+bg x.nxt) x.book)) ([dI x.durable]++[.sl (x.owe.map DAck.ds)]) ((gB x u).take 16) ((gB x u).drop 17) (yu x.seen (k+bH x.two+bg x.head+bg x.nxt+cJ x.book) aa aa) rfl rfl rfl rfl rfl ?_|refine XN 9001 18 (DTwo.ds (uH (k) x.two)++DHead.ds (kZ (k+bH x.two) x.head)++DHead.ds (kZ (k+bH x.two+bg x.head) x.nxt)++[dB x.more]++DBook.ds (yy (k+bH x.two+bg x.head+bg x.nxt) x.book)++[.sl ((mkL iE bk (k+bH x.two+bg x.head+bg x.nxt+cJ x.book) x.seen).map DMark.ds)]++[dI x.durable]) ([]) ((gB x u).take 18) ((gB x u).drop 19) (Ka x.owe (k+bH x.two+bg x.head+bg x.nxt+cJ x.book+aQ bk x.seen) aa aa) rfl rfl rfl rfl rfl ?_|fail)<;>conv=>whnf)
 refine And.intro ?_ rfl;have e:k+bH x.two+bg x.head+bg x.nxt+cJ x.book+aQ bk x.seen+aQ co x.owe=k+aN x:=by unfold aN;omega
 show AP.val (pI (k+bH x.two+bg x.head+bg x.nxt+cJ x.book+aQ bk x.seen+aQ co x.owe))=AP.val (pI (k+aN x));rw[e]
def Dw(k:Int)(x:DState):DState:=⟨x.index,x.time,mkL ja bB (k) x.pairs,mkL l0 ct (k+aQ bB x.pairs) x.jobs,x.lease⟩
def dt(x:DState):Int:=aQ bB x.pairs+aQ ct x.jobs
theorem qV(x:DState):0<=dt x:=by
 unfold dt;have:=aO (cnt:=bB) gG x.pairs;have:=aO (cnt:=ct) iy x.jobs;omega
theorem Ie(x:DState)(k:Int)(h0:0<=k)(hk:k+dt x<=1000000000000):dV av 113 (.agg x.ds) k (.agg (Dw k x).ds) (k+dt x):=by
 have n0:=aO (cnt:=bB) gG x.pairs;have n1:=aO (cnt:=ct) iy x.jobs;have hkk:=hk;unfold dt at hkk;refine il aM func113 rfl call113 ntmps113 (aaX results113) λS P u=>?_;conv=>whnf
 repeat'((first|refine awy ?_|refine XN 9001 2 ([dI x.index]++[dI x.time]) ([.sl (x.jobs.map DJob.ds)]++DLease.ds x.lease) [.int .i64 x.index,.int .i64 x.time] [u 3,.int .i64 x.lease.holder,.int .i64 x.lease.epoch,.int .i64 x.lease.til] (Id x.pairs (k) aa aa) rfl rfl rfl rfl rfl ?_|refine XN 9001 3 ([dI x.index]++[dI x.time]++[.sl ((mkL ja bB (k) x.pairs).map DPair.ds)]) (DLease.ds x.lease) [.int .i64 x.index,.int .i64 x.time,u 2] [.int .i64 x.lease.holder,.int .i64 x.lease.epoch,.int .i64 x.lease.til] (Kh x.jobs (k+aQ bB x.pairs) aa aa) rfl rfl rfl rfl rfl ?_|fail)<;>conv=>whnf)
 refine And.intro ?_ rfl;have e:k+aQ bB x.pairs+aQ ct x.jobs=k+dt x:=by unfold dt;omega
 show AP.val (pI (k+aQ bB x.pairs+aQ ct x.jobs))=AP.val (pI (k+dt x));rw[e]
def jS(k:Int)(x:DStore):DStore:=⟨rC (k) x.disk,Dw (k+bO x.disk) x.state,x.num,x.last,x.busy⟩
def aX(x:DStore):Int:=bO x.disk+dt x.state
theorem qW(x:DStore):0<=aX x:=by
 unfold aX;have:=gI x.disk;have:=qV x.state;omega
theorem If(x:DStore)(k:Int)(h0:0<=k)(hk:k+aX x<=1000000000000):dV av 38 (.agg x.ds) k (.agg (jS k x).ds) (k+aX x):=by
 have n0:=gI x.disk;have n1:=qV x.state;have hkk:=hk;unfold aX at hkk;refine il aM func38 rfl call38 ntmps38 (aaX results38) λS P u=>?_;conv=>whnf
 repeat'((first|refine awy ?_|refine XN 9001 0 ([]) (DState.ds x.state++[dI x.num]++[dI x.last]++[dI x.busy]) [] [.int .i64 x.state.index,.int .i64 x.state.time,u 4,u 5,.int .i64 x.state.lease.holder,.int .i64 x.state.lease.epoch,.int .i64 x.state.lease.til,.int .i64 x.num,.int .i64 x.last,.int .i64 x.busy] (uF x.disk (k) aa aa) rfl rfl rfl rfl rfl ?_|refine XN 9001 2 (DDisk.ds (rC (k) x.disk)) ([dI x.num]++[dI x.last]++[dI x.busy]) [u 0,u 1] [.int .i64 x.num,.int .i64 x.last,.int .i64 x.busy] (Ie x.state (k+bO x.disk) aa aa) rfl rfl rfl rfl rfl ?_|fail)<;>conv=>whnf)
 refine And.intro ?_ rfl;have e:k+bO x.disk+dt x.state=k+aX x:=by unfold aX;omega
 show AP.val (pI (k+bO x.disk+dt x.state))=AP.val (pI (k+aX x));rw[e]
def Ij(k:Int)(x:DJobs):DJobs:=⟨x.index,x.time,x.holder,x.epoch,x.til,mkL lY cp (k) x.opens⟩
def dW(x:DJobs):Int:=aQ cp x.opens
theorem tX(x:DJobs):0<=dW x:=by
 unfold dW;have:=aO (cnt:=cp) iu x.opens;omega
theorem Ki(x:DJobs)(k:Int)(h0:0<=k)(hk:k+dW x<=1000000000000):dV av 205 (.agg x.ds) k (.agg (Ij k x).ds) (k+dW x):=by
 have n0:=aO (cnt:=cp) iu x.opens;have hkk:=hk;unfold dW at hkk;refine il aM func205 rfl call205 ntmps205 (aaX results205) λS P u=>?_;conv=>whnf
 repeat'(first|refine awy ?_|(refine XN 9001 5 ([dI x.index]++[dI x.time]++[dI x.holder]++[dI x.epoch]++[dI x.til]) ([]) [.int .i64 x.index,.int .i64 x.time,.int .i64 x.holder,.int .i64 x.epoch,.int .i64 x.til] [] (Kd x.opens (k) aa aa) rfl rfl rfl rfl rfl ?_;conv=>whnf)|fail)
 refine And.intro ?_ rfl;have e:k+aQ cp x.opens=k+dW x:=by unfold dW;omega
 show AP.val (pI (k+aQ cp x.opens))=AP.val (pI (k+dW x));rw[e]
def Ik(k:Int)(x:DView):DView:=⟨Ij (k) x.jobs⟩
def dX(x:DView):Int:=dW x.jobs
theorem tY(x:DView):0<=dX x:=by
 unfold dX;have:=tX x.jobs;omega
theorem Kl(x:DView)(k:Int)(h0:0<=k)(hk:k+dX x<=1000000000000):dV av 114 (.agg x.ds) k (.agg (Ik k x).ds) (k+dX x):=by
 have n0:=tX x.jobs;have hkk:=hk;unfold dX at hkk;refine il aM func114 rfl call114 ntmps114 (aaX results114) λS P u=>?_;conv=>whnf
 repeat'(first|refine awy ?_|(refine XN 9001 0 ([]) ([]) [] [] (Ki x.jobs (k) aa aa) rfl rfl rfl rfl rfl ?_;conv=>whnf)|fail)
 refine And.intro ?_ rfl;have e:k+dW x.jobs=k+dX x:=by unfold dX;omega
 show AP.val (pI (k+dW x.jobs))=AP.val (pI (k+dX x));rw[e]
def gh(k:Int)(x:DSched):DSched:=⟨x.id,x.seq,Ik (k) x.view,x.busy,x.op,x.index⟩
def aP(x:DSched):Int:=dX x.view
theorem jA(x:DSched):0<=aP x:=by
 unfold aP;have:=tY x.view;omega
def NI(x:DSched)(u:Nat->Value):List Value:=[.int .i64 x.id,.int .i64 x.seq,.int .i64 x.view.jobs.index,.int .i64 x.view.jobs.time,.int .i64 x.view.jobs.holder,.int .i64 x.view.jobs.epoch,.int .i64 x.view.jobs.til,u 7,.bool x.busy,.int .i64 x.op.kind,.int .i64 x.op.a,.int .i64 x.op.b,.int .i64 x.op.c,.int .i64 x.op.d,.int .i64 x.index]
theorem yv(x:DSched)(k:Int)(h0:0<=k)(hk:k+aP x<=1000000000000):dV av 39 (.agg x.ds) k (.agg (gh k x).ds) (k+aP x):=by
 have n0:=tY x.view;have hkk:=hk;unfold aP at hkk;refine il aM func39 rfl call39 ntmps39 (aaX results39) λS P u=>?_;conv=>whnf
 repeat'(first|refine awy ?_|(refine XN 9001 2 ([dI x.id]++[dI x.seq]) ([dB x.busy]++DOp.ds x.op++[dI x.index]) ((NI x u).take 2) ((NI x u).drop 8) (Kl x.view (k) aa aa) rfl rfl rfl rfl rfl ?_;conv=>whnf)|fail)
 refine And.intro ?_ rfl;have e:k+dX x.view=k+aP x:=by unfold aP;omega
 show AP.val (pI (k+dX x.view))=AP.val (pI (k+aP x));rw[e]
def ie(k:Int)(x:DClient):DClient:=⟨x.id,mkL jb bC (k) x.todo,mkL lZ cq (k+aQ bC x.todo) x.gots,x.last⟩
def aW(x:DClient):Int:=aQ bC x.todo+aQ cq x.gots
theorem iP(x:DClient):0<=aW x:=by
 unfold aW;have:=aO (cnt:=bC) gH x.todo;have:=aO (cnt:=cq) iw x.gots;omega
theorem wD(x:DClient)(k:Int)(h0:0<=k)(hk:k+aW x<=1000000000000):dV av 40 (.agg x.ds) k (.agg (ie k x).ds) (k+aW x):=by
 have n0:=aO (cnt:=bC) gH x.todo;have n1:=aO (cnt:=cq) iw x.gots;have hkk:=hk;unfold aW at hkk;refine il aM func40 rfl call40 ntmps40 (aaX results40) λS P u=>?_;conv=>whnf
 repeat'((first|refine awy ?_|refine XN 9001 1 ([dI x.id]) ([.sl (x.gots.map DGot.ds)]++[dI x.last]) [.int .i64 x.id] [u 2,.int .i64 x.last] (Ih x.todo (k) aa aa) rfl rfl rfl rfl rfl ?_|refine XN 9001 2 ([dI x.id]++[.sl ((mkL jb bC (k) x.todo).map DWant.ds)]) ([dI x.last]) [.int .i64 x.id,u 1] [.int .i64 x.last] (Kf x.gots (k+aQ bC x.todo) aa aa) rfl rfl rfl rfl rfl ?_|fail)<;>conv=>whnf)
 refine And.intro ?_ rfl;have e:k+aQ bC x.todo+aQ cq x.gots=k+aW x:=by unfold aW;omega
 show AP.val (pI (k+aQ bC x.todo+aQ cq x.gots))=AP.val (pI (k+aW x));rw[e]
def Dv(k:Int)(x:DNet):DNet:=⟨mkL kW bS (k) x.flight,mkL jF bQ (k+aQ bS x.flight) x.cuts⟩
def dg(x:DNet):Int:=aQ bS x.flight+aQ bQ x.cuts
theorem w7(x:DNet):0<=dg x:=by
 unfold dg;have:=aO (cnt:=bS) iz x.flight;have:=aO (cnt:=bQ) gF x.cuts;omega
theorem ME(x:DNet)(k:Int)(h0:0<=k)(hk:k+dg x<=1000000000000):dV av 41 (.agg x.ds) k (.agg (Dv k x).ds) (k+dg x):=by
 have n0:=aO (cnt:=bS) iz x.flight;have n1:=aO (cnt:=bQ) gF x.cuts;have hkk:=hk;unfold dg at hkk;refine il aM func41 rfl call41 ntmps41 (aaX results41) λS P u=>?_;conv=>whnf
 repeat'((first|refine awy ?_|refine XN 9001 0 ([]) ([.sl (x.cuts.map DLink.ds)]) [] [u 1] (Kk x.flight (k) aa aa) rfl rfl rfl rfl rfl ?_|refine XN 9001 1 ([.sl ((mkL kW bS (k) x.flight).map DMsg.ds)]) ([]) [u 0] [] (Ia x.cuts (k+aQ bS x.flight) aa aa) rfl rfl rfl rfl rfl ?_|fail)<;>conv=>whnf)
 refine And.intro ?_ rfl;have e:k+aQ bS x.flight+aQ bQ x.cuts=k+dg x:=by unfold dg;omega
 show AP.val (pI (k+aQ bS x.flight+aQ bQ x.cuts))=AP.val (pI (k+dg x));rw[e]
def Ks(k:Int)(x:DWorld):DWorld:=⟨ge (k) x.log,jS (k+aN x.log) x.store,gh (k+aN x.log+aX x.store) x.left,gh (k+aN x.log+aX x.store+aP x.left) x.right,ie (k+aN x.log+aX x.store+aP x.left+aP x.right) x.ann,ie (k+aN x.log+aX x.store+aP x.left+aP x.right+aW x.ann) x.bob,Dv (k+aN x.log+aX x.store+aP x.left+aP x.right+aW x.ann+aW x.bob) x.net,mkL mI cI (k+aN x.log+aX x.store+aP x.left+aP x.right+aW x.ann+aW x.bob+dg x.net) x.clocks,mkL mB cI (k+aN x.log+aX x.store+aP x.left+aP x.right+aW x.ann+aW x.bob+dg x.net+aQ cI x.clocks) x.up⟩
def dL(x:DWorld):Int:=aN x.log+aX x.store+aP x.left+aP x.right+aW x.ann+aW x.bob+dg x.net+aQ cI x.clocks+aQ cI x.up
theorem xQ(x:DWorld):0<=dL x:=by
 unfold dL;have:=nZ x.log;have:=qW x.store;have:=jA x.left;have:=jA x.right;have:=iP x.ann;have:=iP x.bob;have:=w7 x.net;have:=aO (cnt:=cI) hH x.clocks;have:=aO (cnt:=cI) hH x.up;omega
def gt(x:DWorld)(u:Nat->Value):List Value:=[u 0,u 1,u 2,u 3,.int .i64 x.log.head.num,.int .i64 x.log.head.base,.int .i64 x.log.head.time,u 7,.int .i64 x.log.nxt.num,.int .i64 x.log.nxt.base,.int .i64 x.log.nxt.time,u 11,.bool x.log.more,.int .i64 x.log.book.base,.int .i64 x.log.book.time,u 15,u 16,.int .i64 x.log.durable,u 18,u 19,u 20,.int .i64 x.store.state.index,.int .i64 x.store.state.time,u 23,u 24,.int .i64 x.store.state.lease.holder,.int .i64 x.store.state.lease.epoch,.int .i64 x.store.state.lease.til,.int .i64 x.store.num,.int .i64 x.store.last,.int .i64 x.store.busy,.int .i64 x.left.id,.int .i64 x.left.seq,.int .i64 x.left.view.jobs.index,.int .i64 x.left.view.jobs.time,.int .i64 x.left.view.jobs.holder,.int .i64 x.left.view.jobs.epoch,.int .i64 x.left.view.jobs.til,u 38,.bool x.left.busy,.int .i64 x.left.op.kind,.int .i64 x.left.op.a,.int .i64 x.left.op.b,.int .i64 x.left.op.c,.int .i64 x.left.op.d,.int .i64 x.left.index,.int .i64 x.right.id,.int .i64 x.right.seq,.int .i64 x.right.view.jobs.index,.int .i64 x.right.view.jobs.time,.int .i64 x.right.view.jobs.holder,.int .i64 x.right.view.jobs.epoch,.int .i64 x.right.view.jobs.til,u 53,.bool x.right.busy,.int .i64 x.right.op.kind,.int .i64 x.right.op.a,.int .i64 x.right.op.b,.int .i64 x.right.op.c,.int .i64 x.right.op.d,.int .i64 x.right.index,.int .i64 x.ann.id,u 62,u 63,.int .i64 x.ann.last,.int .i64 x.bob.id,u 66,u 67,.int .i64 x.bob.last,u 69,u 70,u 71,u 72]
theorem yw(x:DWorld)(k:Int)(h0:0<=k)(hk:k+dL x<=1000000000000):dV av 9 (.agg x.ds) k (.agg (Ks k x).ds) (k+dL x):=by
 have n0:=nZ x.log;have n1:=qW x.store;have n2:=jA x.left;have n3:=jA x.right;have n4:=iP x.ann;have n5:=iP x.bob;have n6:=w7 x.net;have n7:=aO (cnt:=cI) hH x.clocks;have n8:=aO (cnt:=cI) hH x.up;have hkk:=hk;unfold dL at hkk;refine il aM func9 rfl call9 ntmps9 (aaX results9) λS P u=>?_;conv=>whnf
 repeat'((first|refine awy ?_|refine XN 9001 0 ([]) (DStore.ds x.store++DSched.ds x.left++DSched.ds x.right++DClient.ds x.ann++DClient.ds x.bob++DNet.ds x.net++[.sl (x.clocks.map eI)]++[.sl (x.up.map eB)]) ((gt x u).take 0) ((gt x u).drop 19) (Dm x.log (k) aa aa) rfl rfl rfl rfl rfl ?_|refine XN 9001 19 (DLogNode.ds (ge (k) x.log)) (DSched.ds x.left++DSched.ds x.right++DClient.ds x.ann++DClient.ds x.bob++DNet.ds x.net++[.sl (x.clocks.map eI)]++[.sl (x.up.map eB)]) ((gt x u).take 19) ((gt x u).drop 31) (If x.store (k+aN x.log) aa aa) rfl rfl rfl rfl rfl ?_|refine XN 9001 31 (DLogNode.ds (ge (k) x.log)++DStore.ds (jS (k+aN x.log) x.store)) (DSched.ds x.right++DClient.ds x.ann++DClient.ds x.bob++DNet.ds x.net++[.sl (x.clocks.map eI)]++[.sl (x.up.map eB)]) ((gt x u).take 31) ((gt x u).drop 46) (yv x.left (k+aN x.log+aX x.store) aa aa) rfl rfl rfl rfl rfl ?_|refine XN 9001 46 (DLogNode.ds (ge (k) x.log)++DStore.ds (jS (k+aN x.log) x.store)++DSched.ds (gh (k+aN x.log+aX x.store) x.left)) (DClient.ds x.ann++DClient.ds x.bob++DNet.ds x.net++[.sl (x.clocks.map eI)]++[.sl (x.up.map eB)]) ((gt x u).take 46) ((gt x u).drop 61) (yv x.right (k+aN x.log+aX x.store+aP x.left) aa aa) rfl rfl rfl rfl rfl ?_|refine XN 9001 61 (DLogNode.ds (ge (k) x.log)++DStore.ds (jS (k+aN x.log) x.store)++DSched.ds (gh (k+aN x.log+aX x.store) x.left)++DSched.ds (gh (k+aN x.log+aX x.store+aP x.left) x.right)) (DClient.ds x.bob++DNet.ds x.net++[.sl (x.clocks.map eI)]++[.sl (x.up.map eB)]) ((gt x u).take 61) ((gt x u).drop 65) (wD x.ann (k+aN x.log+aX x.store+aP x.left+aP x.right) aa aa) rfl rfl rfl rfl rfl ?_|refine XN 9001 65 (DLogNode.ds (ge (k) x.log)++DStore.ds (jS (k+aN x.log) x.store)++DSched.ds (gh (k+aN x.log+aX x.store) x.left)++DSched.ds (gh (k+aN x.log+aX x.store+aP x.left) x.right)++DClient.ds (ie (k+aN x.log+aX x.store+aP x.left+aP x.right) x.ann)) (DNet.ds x.net++[.sl (x.clocks.map eI)]++[.sl (x.up.map eB)]) ((gt x u).take 65) ((gt x u).drop 69) (wD x.bob (k+aN x.log+aX x.store+aP x.left+aP x.right+aW x.ann) aa aa) rfl rfl rfl rfl rfl ?_|refine XN 9001 69 (DLogNode.ds (ge (k) x.log)++DStore.ds (jS (k+aN x.log) x.store)++DSched.ds (gh (k+aN x.log+aX x.store) x.left)++DSched.ds (gh (k+aN x.log+aX x.store+aP x.left) x.right)++DClient.ds (ie (k+aN x.log+aX x.store+aP x.left+aP x.right) x.ann)++DClient.ds (ie (k+aN x.log+aX x.store+aP x.left+aP x.right+aW x.ann) x.bob)) ([.sl (x.clocks.map eI)]++[.sl (x.up.map eB)]) ((gt x u).take 69) ((gt x u).drop 71) (ME x.net (k+aN x.log+aX x.store+aP x.left+aP x.right+aW x.ann+aW x.bob) aa aa) rfl rfl rfl rfl rfl ?_|refine XN 9001 71 (DLogNode.ds (ge (k) x.log)++DStore.ds (jS (k+aN x.log) x.store)++DSched.ds (gh (k+aN x.log+aX x.store) x.left)++DSched.ds (gh (k+aN x.log+aX x.store+aP x.left) x.right)++DClient.ds (ie (k+aN x.log+aX x.store+aP x.left+aP x.right) x.ann)++DClient.ds (ie (k+aN x.log+aX x.store+aP x.left+aP x.right+aW x.ann) x.bob)++DNet.ds (Dv (k+aN x.log+aX x.store+aP x.left+aP x.right+aW x.ann+aW x.bob) x.net)) ([.sl (x.up.map eB)]) ((gt x u).take 71) ((gt x u).drop 72) (EK x.clocks (k+aN x.log+aX x.store+aP x.left+aP x.right+aW x.ann+aW x.bob+dg x.net) aa aa) rfl rfl rfl rfl rfl ?_|refine XN 9001 72 (DLogNode.ds (ge (k) x.log)++DStore.ds (jS (k+aN x.log) x.store)++DSched.ds (gh (k+aN x.log+aX x.store) x.left)++DSched.ds (gh (k+aN x.log+aX x.store+aP x.left) x.right)++DClient.ds (ie (k+aN x.log+aX x.store+aP x.left+aP x.right) x.ann)++DClient.ds (ie (k+aN x.log+aX x.store+aP x.left+aP x.right+aW x.ann) x.bob)++DNet.ds (Dv (k+aN x.log+aX x.store+aP x.left+aP x.right+aW x.ann+aW x.bob) x.net)++[.sl ((mkL mI cI (k+aN x.log+aX x.store+aP x.left+aP x.right+aW x.ann+aW x.bob+dg x.net) x.clocks).map eI)]) ([]) ((gt x u).take 72) ((gt x u).drop 73) (H8 x.up (k+aN x.log+aX x.store+aP x.left+aP x.right+aW x.ann+aW x.bob+dg x.net+aQ cI x.clocks) aa aa) rfl rfl rfl rfl rfl ?_|fail)<;>conv=>whnf)
 refine And.intro ?_ rfl;have e:k+aN x.log+aX x.store+aP x.left+aP x.right+aW x.ann+aW x.bob+dg x.net+aQ cI x.clocks+aQ cI x.up=k+dL x:=by unfold dL;omega
 show AP.val (pI (k+aN x.log+aX x.store+aP x.left+aP x.right+aW x.ann+aW x.bob+dg x.net+aQ cI x.clocks+aQ cI x.up))=AP.val (pI (k+dL x));rw[e]
section
variable {a:Int}{n:Nat}{α:Type}
theorem fD{b:Int}(h:a=b):AP.val (.one (dI a))=rI b:=by rw[h]
theorem aG.sz{E:bz}{S:bR}{f:FuncId}{args:List AV}{st:ASt}{K:AV->ASt->Prop}{p:AP1}{left:Int}(hc:aL E f [p,pI left] (rI (max (left-a) (-1))))(hps:aPs args (· =[p,pI left]))
    (h1:decide (left-a<0)=true->K (vI .i64 (-1)) st) (h2:decide (left-a<0)=false->K (vI .i64 (left-a)) st):aG E S f args st K:=by
  refine Xt hc hps ?_;cases h:decide (left-a<0)with
  |true=>
    have e:max (left-a) (-1)= -1:=by simp only[decide_eq_true_eq]at h;omega
    rw[e];exact h1 h
  |false=>
    have e:max (left-a) (-1)=left-a:=by simp only[decide_eq_false_iff_not]at h;omega
    rw[e];exact h2 h
def jO{α:Type}(f:α->Nat):List α->Nat
  |[]=>0
  |x::r=>1+f x+jO f r
theorem mw(f:α->Nat):∀l:List α,l.length<=jO f l
  |[]=>Nat.le_refl _
  |x::r=>by have:=mw f r;simp only[List.length_cons,jO];omega
theorem xN{f:α->Nat}:∀{l:List α} {y:α},y∈l->f y<=jO f l
  |x::r,y,h=>by
    rcases List.mem_cons.1 h with rfl|h
    · simp only[jO];omega
    · have:=xN (f:=f) h;simp only[jO];omega
theorem lM(f:α->Nat):∀(l:List α) (k:Nat),(l.length:Int)-(l.take k).length+jO f (l.take k)<=jO f l
  |[],k=>by simp[jO]
  |x::r,0=>by have:=mw f (x::r);simp[jO]at*;omega
  |x::r,k+1=>by have:=lM f r k;simp only[List.take_succ_cons,List.length_cons,jO]at*;omega
theorem vn(f:α->Nat):∀(l:List α) (k:Nat) (h:k<l.length),jO f (l.take (k+1))=jO f (l.take k)+1+f l[k]
  |x::r,0,h=>by simp[jO]
  |x::r,k+1,h=>by
    have:=vn f r k (by simpa using h);simp only[List.take_succ_cons,jO,List.getElem_cons_succ]at*
    omega
def DWrite.cnt(x:DWrite):Nat:=x.row.length
theorem Ze{x:DWrite}(h:x.cnt<=n):X0 n x:=by
  unfold DWrite.cnt at h;unfold X0;exact aa
def DDisk.cnt(x:DDisk):Nat:=jO (λl=>l.length) x.kept+jO DWrite.cnt x.wait
theorem Yu{x:DDisk}(h:x.cnt<=n):XV n x:=by
  unfold DDisk.cnt at h;unfold XV;exact⟨(by have:=mw (λl=>l.length) x.kept;omega),(λy hy=>(by have:y.length<=_:=xN (f:=(λl=>l.length)) hy;omega)),(by have:=mw DWrite.cnt x.wait;omega),(λy hy=>Ze (by have:=xN (f:=DWrite.cnt) hy;omega))⟩
def DTwo.cnt(x:DTwo):Nat:=DDisk.cnt x.a+DDisk.cnt x.b
theorem ZB{x:DTwo}(h:x.cnt<=n):X8 n x:=by
  unfold DTwo.cnt at h;unfold X8;exact⟨(Yu aa),(Yu aa)⟩
def DHead.cnt(x:DHead):Nat:=x.seen.length
theorem YL{x:DHead}(h:x.cnt<=n):XW n x:=by
  unfold DHead.cnt at h;unfold XW;exact aa
def DBook.cnt(x:DBook):Nat:=x.entries.length
theorem Zn{x:DBook}(h:x.cnt<=n):X5 n x:=by
  unfold DBook.cnt at h;unfold X5;exact aa
def DLogNode.cnt(x:DLogNode):Nat:=DTwo.cnt x.two+DHead.cnt x.head+DHead.cnt x.nxt+DBook.cnt x.book+x.seen.length+x.owe.length
theorem Y0{x:DLogNode}(h:x.cnt<=n):XT n x:=by
  unfold DLogNode.cnt at h;unfold XT;exact⟨(ZB aa),(YL aa),(YL aa),(Zn aa),aa,aa⟩
def DState.cnt(x:DState):Nat:=x.pairs.length+x.jobs.length
theorem Zb{x:DState}(h:x.cnt<=n):X1 n x:=by
  unfold DState.cnt at h;unfold X1;exact⟨aa,aa⟩
def DStore.cnt(x:DStore):Nat:=DDisk.cnt x.disk+DState.cnt x.state
theorem Zc{x:DStore}(h:x.cnt<=n):X3 n x:=by
  unfold DStore.cnt at h;unfold X3;exact⟨(Yu aa),(Zb aa)⟩
def DJobs.cnt(x:DJobs):Nat:=x.opens.length
theorem Zo{x:DJobs}(h:x.cnt<=n):Ya n x:=by
  unfold DJobs.cnt at h;unfold Ya;exact aa
def DView.cnt(x:DView):Nat:=DJobs.cnt x.jobs
theorem Zp{x:DView}(h:x.cnt<=n):X6 n x:=by
  unfold DView.cnt at h;unfold X6;exact(Zo aa)
def DSched.cnt(x:DSched):Nat:=DView.cnt x.view
theorem YD{x:DSched}(h:x.cnt<=n):XZ n x:=by
  unfold DSched.cnt at h;unfold XZ;exact(Zp aa)
def DClient.cnt(x:DClient):Nat:=x.todo.length+x.gots.length
theorem YA{x:DClient}(h:x.cnt<=n):XU n x:=by
  unfold DClient.cnt at h;unfold XU;exact⟨aa,aa⟩
def DMsg.cnt(x:DMsg):Nat:=x.row.length
theorem Zw{x:DMsg}(h:x.cnt<=n):X4 n x:=by
  unfold DMsg.cnt at h;unfold X4;exact aa
def DNet.cnt(x:DNet):Nat:=jO DMsg.cnt x.flight+x.cuts.length
theorem Zy{x:DNet}(h:x.cnt<=n):Yf n x:=by
  unfold DNet.cnt at h;unfold Yf;exact⟨(by have:=mw DMsg.cnt x.flight;omega),(λy hy=>Zw (by have:=xN (f:=DMsg.cnt) hy;omega)),aa⟩
def DWorld.cnt(x:DWorld):Nat:=DLogNode.cnt x.log+DStore.cnt x.store+DSched.cnt x.left+DSched.cnt x.right+DClient.cnt x.ann+DClient.cnt x.bob+DNet.cnt x.net+x.clocks.length+x.up.length
theorem Zd{x:DWorld}(h:x.cnt<=n):XO n x:=by
  unfold DWorld.cnt at h;unfold XO;exact⟨(Y0 aa),(Zc aa),(YD aa),(YD aa),(YA aa),(YA aa),(Zy aa),aa,aa⟩
theorem sf(l:(List Int))(left:Int)(h0:0<=left)(h1:left<=1048576)(hs:l.length<=9223372036854775807):aL av 16 [.one (.sl (l.map eI)),pI left] (rI (max (left-l.length) (-1))):=by
  refine pO func16 call16 ntmps16 results16 λS=>?_;conv=>whnf
  repeat'((first|refine awz ?_|refine Xz (n:=_-_) ai ai ?_|refine tB ?_ ?_|intro h)<;>conv=>whnf)
  all_goals
    refine fD ?_;simp only[decide_eq_true_eq,decide_eq_false_iff_not,length_map]at*
    omega
theorem Ll(l:(List (List Int)))(left:Int)(h0:0<=left)(h1:left<=1048576)(hs:l.length<=9223372036854775807/\∀y∈l,y.length<=9223372036854775807):aL av 132 [.one (.sl (l.map bD)),pI left] (rI (max (left-jO (λl=>l.length) l) (-1))):=by
  refine pO func132 call132 ntmps132 results132 λS=>?_;conv=>whnf
  have hlen:=hs.1;have hcl:=mw (λl=>l.length) l;repeat'((first|refine awz ?_|refine Xz (n:=_-_) ai ai ?_|refine tB ?_ ?_|intro h)<;>conv=>whnf)
  · refine fD ?_;simp only[decide_eq_true_eq,decide_eq_false_iff_not,length_map]at*
    omega
  refine XA (λp:Nat×Int=>p.1<=l.length/\0<=p.2/\p.2=left-l.length+(p.1:Int)-jO (λl=>l.length) (l.take p.1)) (1::4::5::rg 12 14) (λp=>[(1,vI .i64 p.2),(5,vI .i64 (p.1:Int))]) (λ_=>[]) (λp=>l.length-p.1) (0,left-((l.map bD).length:Int)) ⟨by simp,ai,by simp[jO]⟩ ?_ Xv (λp hR=>?_)<;>(conv=>whnf)
  · exact whd
  · obtain⟨k,v⟩:=p;obtain⟨hk,hv,he⟩:=hR;simp only at hk hv he;have htk:=lM (λl=>l.length) l k;have htl:(l.take k).length=k:=al;repeat'((first|refine awz ?_|refine XI ai (λhlt=>?_)|refine Xt (sf _ _ hv ai (hs.2 _ (List.getElem_mem hlt))) rfl ?_|refine Xz ai ai ?_|refine tB ?_ ?_|intro h)<;>conv=>whnf)
    all_goals first
      | (have hsu := vn (fun l => l.length) l k hlt
         have htk:=lM (λl=>l.length) l (k+1);have htl:(l.take (k+1)).length=k+1:=al;simp only[decide_eq_true_eq,decide_eq_false_iff_not,length_map]at*
         first
           |(refine fD ?_;omega)
           |(refine aT.mk ⟨(k+1,max (v-((l[k].length:Nat):Int)) (-1)),⟨by simp only;omega,by simp only;omega,by simp only;omega⟩,by simp only;omega,?_,Xv⟩;exact hds))
      | (have hkk : k = l.length := ai
         subst hkk;refine fD ?_;rw[List.take_length]at he;omega)
theorem Pu(x:DWrite)(left:Int)(h0:0<=left)(h1:left<=1048576)(hs:X0 9223372036854775807 x):aL av 212 [.agg x.ds,pI left] (rI (max (left-x.cnt) (-1))):=by
  refine pO func212 call212 ntmps212 results212 λS=>?_;conv=>whnf
  repeat'(first|refine awz ?_|(refine aG.sz (sf x.row _ ai ai hs) rfl (λh=>?_) (λh=>?_)<;>(conv=>whnf))|fail)
  all_goals
    refine fD ?_;first
      |omega
      |(simp only[decide_eq_true_eq,decide_eq_false_iff_not,DWrite.cnt]at* <;>omega)
theorem Na(l:(List DWrite))(left:Int)(h0:0<=left)(h1:left<=1048576)(hs:l.length<=9223372036854775807/\∀y∈l,X0 9223372036854775807 y):aL av 133 [.one (.sl (l.map DWrite.ds)),pI left] (rI (max (left-jO DWrite.cnt l) (-1))):=by
  refine pO func133 call133 ntmps133 results133 λS=>?_;conv=>whnf
  have hlen:=hs.1;have hcl:=mw DWrite.cnt l;repeat'((first|refine awz ?_|refine Xz (n:=_-_) ai ai ?_|refine tB ?_ ?_|intro h)<;>conv=>whnf)
  · refine fD ?_;simp only[decide_eq_true_eq,decide_eq_false_iff_not,length_map]at*
    omega
  refine XA (λp:Nat×Int=>p.1<=l.length/\0<=p.2/\p.2=left-l.length+(p.1:Int)-jO DWrite.cnt (l.take p.1)) (1::4::5::rg 12 14) (λp=>[(1,vI .i64 p.2),(5,vI .i64 (p.1:Int))]) (λ_=>[]) (λp=>l.length-p.1) (0,left-((l.map DWrite.ds).length:Int)) ⟨by simp,ai,by simp[jO]⟩ ?_ Xv (λp hR=>?_)<;>(conv=>whnf)
  · exact whd
  · obtain⟨k,v⟩:=p;obtain⟨hk,hv,he⟩:=hR;simp only at hk hv he;have htk:=lM DWrite.cnt l k;have htl:(l.take k).length=k:=al;repeat'((first|refine awz ?_|refine XI ai (λhlt=>?_)|refine Xt (Pu _ _ hv ai (hs.2 _ (List.getElem_mem hlt))) rfl ?_|refine Xz ai ai ?_|refine tB ?_ ?_|intro h)<;>conv=>whnf)
    all_goals first
      | (have hsu := vn DWrite.cnt l k hlt
         have htk:=lM DWrite.cnt l (k+1);have htl:(l.take (k+1)).length=k+1:=al;simp only[decide_eq_true_eq,decide_eq_false_iff_not,length_map]at*
         first
           |(refine fD ?_;omega)
           |(refine aT.mk ⟨(k+1,max (v-((DWrite.cnt l[k]:Nat):Int)) (-1)),⟨by simp only;omega,by simp only;omega,by simp only;omega⟩,by simp only;omega,?_,Xv⟩;exact hds))
      | (have hkk : k = l.length := ai
         subst hkk;refine fD ?_;rw[List.take_length]at he;omega)
theorem Er(x:DDisk)(left:Int)(h0:0<=left)(h1:left<=1048576)(hs:XV 9223372036854775807 x):aL av 56 [.agg x.ds,pI left] (rI (max (left-x.cnt) (-1))):=by
  refine pO func56 call56 ntmps56 results56 λS=>?_;conv=>whnf
  repeat'(first|refine awz ?_|(refine aG.sz (Ll x.kept _ ai ai ⟨hs.1,hs.2.1⟩) rfl (λh=>?_) (λh=>?_)<;>(conv=>whnf))|(refine aG.sz (Na x.wait _ ai ai ⟨hs.2.2.1,hs.2.2.2⟩) rfl (λh=>?_) (λh=>?_)<;>(conv=>whnf))|fail)
  all_goals
    refine fD ?_;first
      |omega
      |(simp only[decide_eq_true_eq,decide_eq_false_iff_not,DDisk.cnt]at* <;>omega)
theorem SO(x:DTwo)(left:Int)(h0:0<=left)(h1:left<=1048576)(hs:X8 9223372036854775807 x):aL av 51 [.agg x.ds,pI left] (rI (max (left-x.cnt) (-1))):=by
  refine pO func51 call51 ntmps51 results51 λS=>?_;conv=>whnf
  repeat'(first|refine awz ?_|(refine aG.sz (Er x.a _ ai ai hs.1) rfl (λh=>?_) (λh=>?_)<;>(conv=>whnf))|(refine aG.sz (Er x.b _ ai ai hs.2) rfl (λh=>?_) (λh=>?_)<;>(conv=>whnf))|fail)
  all_goals
    refine fD ?_;first
      |omega
      |(simp only[decide_eq_true_eq,decide_eq_false_iff_not,DTwo.cnt]at* <;>omega)
theorem G5(l:(List DMark))(left:Int)(h0:0<=left)(h1:left<=1048576)(hs:l.length<=9223372036854775807):aL av 54 [.one (.sl (l.map DMark.ds)),pI left] (rI (max (left-l.length) (-1))):=by
  refine pO func54 call54 ntmps54 results54 λS=>?_;conv=>whnf
  repeat'((first|refine awz ?_|refine Xz (n:=_-_) ai ai ?_|refine tB ?_ ?_|intro h)<;>conv=>whnf)
  all_goals
    refine fD ?_;simp only[decide_eq_true_eq,decide_eq_false_iff_not,length_map]at*
    omega
theorem Lk(x:DHead)(left:Int)(h0:0<=left)(h1:left<=1048576)(hs:XW 9223372036854775807 x):aL av 52 [.agg x.ds,pI left] (rI (max (left-x.cnt) (-1))):=by
  refine pO func52 call52 ntmps52 results52 λS=>?_;conv=>whnf
  repeat'(first|refine awz ?_|(refine aG.sz (G5 x.seen _ ai ai hs) rfl (λh=>?_) (λh=>?_)<;>(conv=>whnf))|fail)
  all_goals
    refine fD ?_;first
      |omega
      |(simp only[decide_eq_true_eq,decide_eq_false_iff_not,DHead.cnt]at* <;>omega)
theorem M9(l:(List DEntry))(left:Int)(h0:0<=left)(h1:left<=1048576)(hs:l.length<=9223372036854775807):aL av 131 [.one (.sl (l.map DEntry.ds)),pI left] (rI (max (left-l.length) (-1))):=by
  refine pO func131 call131 ntmps131 results131 λS=>?_;conv=>whnf
  repeat'((first|refine awz ?_|refine Xz (n:=_-_) ai ai ?_|refine tB ?_ ?_|intro h)<;>conv=>whnf)
  all_goals
    refine fD ?_;simp only[decide_eq_true_eq,decide_eq_false_iff_not,length_map]at*
    omega
theorem Ro(x:DBook)(left:Int)(h0:0<=left)(h1:left<=1048576)(hs:X5 9223372036854775807 x):aL av 53 [.agg x.ds,pI left] (rI (max (left-x.cnt) (-1))):=by
  refine pO func53 call53 ntmps53 results53 λS=>?_;conv=>whnf
  repeat'(first|refine awz ?_|(refine aG.sz (M9 x.entries _ ai ai hs) rfl (λh=>?_) (λh=>?_)<;>(conv=>whnf))|fail)
  all_goals
    refine fD ?_;first
      |omega
      |(simp only[decide_eq_true_eq,decide_eq_false_iff_not,DBook.cnt]at* <;>omega)
theorem Rn(l:(List DAck))(left:Int)(h0:0<=left)(h1:left<=1048576)(hs:l.length<=9223372036854775807):aL av 55 [.one (.sl (l.map DAck.ds)),pI left] (rI (max (left-l.length) (-1))):=by
  refine pO func55 call55 ntmps55 results55 λS=>?_;conv=>whnf
  repeat'((first|refine awz ?_|refine Xz (n:=_-_) ai ai ?_|refine tB ?_ ?_|intro h)<;>conv=>whnf)
  all_goals
    refine fD ?_;simp only[decide_eq_true_eq,decide_eq_false_iff_not,length_map]at*
    omega
theorem Lm(x:DLogNode)(left:Int)(h0:0<=left)(h1:left<=1048576)(hs:XT 9223372036854775807 x):aL av 11 [.agg x.ds,pI left] (rI (max (left-x.cnt) (-1))):=by
  refine pO func11 call11 ntmps11 results11 λS=>?_;conv=>whnf
  repeat'(first|refine awz ?_|(refine aG.sz (SO x.two _ ai ai hs.1) rfl (λh=>?_) (λh=>?_)<;>(conv=>whnf))|(refine aG.sz (Lk x.head _ ai ai hs.2.1) rfl (λh=>?_) (λh=>?_)<;>(conv=>whnf))|(refine aG.sz (Lk x.nxt _ ai ai hs.2.2.1) rfl (λh=>?_) (λh=>?_)<;>(conv=>whnf))|(refine aG.sz (Ro x.book _ ai ai hs.2.2.2.1) rfl (λh=>?_) (λh=>?_)<;>(conv=>whnf))|(refine aG.sz (G5 x.seen _ ai ai hs.2.2.2.2.1) rfl (λh=>?_) (λh=>?_)<;>(conv=>whnf))|(refine aG.sz (Rn x.owe _ ai ai hs.2.2.2.2.2) rfl (λh=>?_) (λh=>?_)<;>(conv=>whnf))|fail)
  all_goals
    refine fD ?_;first
      |omega
      |(simp only[decide_eq_true_eq,decide_eq_false_iff_not,DLogNode.cnt]at* <;>omega)
theorem Pq(l:(List DPair))(left:Int)(h0:0<=left)(h1:left<=1048576)(hs:l.length<=9223372036854775807):aL av 134 [.one (.sl (l.map DPair.ds)),pI left] (rI (max (left-l.length) (-1))):=by
  refine pO func134 call134 ntmps134 results134 λS=>?_;conv=>whnf
  repeat'((first|refine awz ?_|refine Xz (n:=_-_) ai ai ?_|refine tB ?_ ?_|intro h)<;>conv=>whnf)
  all_goals
    refine fD ?_;simp only[decide_eq_true_eq,decide_eq_false_iff_not,length_map]at*
    omega
theorem Rr(l:(List DJob))(left:Int)(h0:0<=left)(h1:left<=1048576)(hs:l.length<=9223372036854775807):aL av 135 [.one (.sl (l.map DJob.ds)),pI left] (rI (max (left-l.length) (-1))):=by
  refine pO func135 call135 ntmps135 results135 λS=>?_;conv=>whnf
  repeat'((first|refine awz ?_|refine Xz (n:=_-_) ai ai ?_|refine tB ?_ ?_|intro h)<;>conv=>whnf)
  all_goals
    refine fD ?_;simp only[decide_eq_true_eq,decide_eq_false_iff_not,length_map]at*
    omega
theorem Pr(x:DState)(left:Int)(h0:0<=left)(h1:left<=1048576)(hs:X1 9223372036854775807 x):aL av 57 [.agg x.ds,pI left] (rI (max (left-x.cnt) (-1))):=by
  refine pO func57 call57 ntmps57 results57 λS=>?_;conv=>whnf
  repeat'(first|refine awz ?_|(refine aG.sz (Pq x.pairs _ ai ai hs.1) rfl (λh=>?_) (λh=>?_)<;>(conv=>whnf))|(refine aG.sz (Rr x.jobs _ ai ai hs.2) rfl (λh=>?_) (λh=>?_)<;>(conv=>whnf))|fail)
  all_goals
    refine fD ?_;first
      |omega
      |(simp only[decide_eq_true_eq,decide_eq_false_iff_not,DState.cnt]at* <;>omega)
theorem Ps(x:DStore)(left:Int)(h0:0<=left)(h1:left<=1048576)(hs:X3 9223372036854775807 x):aL av 12 [.agg x.ds,pI left] (rI (max (left-x.cnt) (-1))):=by
  refine pO func12 call12 ntmps12 results12 λS=>?_;conv=>whnf
  repeat'(first|refine awz ?_|(refine aG.sz (Er x.disk _ ai ai hs.1) rfl (λh=>?_) (λh=>?_)<;>(conv=>whnf))|(refine aG.sz (Pr x.state _ ai ai hs.2) rfl (λh=>?_) (λh=>?_)<;>(conv=>whnf))|fail)
  all_goals
    refine fD ?_;first
      |omega
      |(simp only[decide_eq_true_eq,decide_eq_false_iff_not,DStore.cnt]at* <;>omega)
theorem Rp(l:(List DDue))(left:Int)(h0:0<=left)(h1:left<=1048576)(hs:l.length<=9223372036854775807):aL av 213 [.one (.sl (l.map DDue.ds)),pI left] (rI (max (left-l.length) (-1))):=by
  refine pO func213 call213 ntmps213 results213 λS=>?_;conv=>whnf
  repeat'((first|refine awz ?_|refine Xz (n:=_-_) ai ai ?_|refine tB ?_ ?_|intro h)<;>conv=>whnf)
  all_goals
    refine fD ?_;simp only[decide_eq_true_eq,decide_eq_false_iff_not,length_map]at*
    omega
theorem Rs(x:DJobs)(left:Int)(h0:0<=left)(h1:left<=1048576)(hs:Ya 9223372036854775807 x):aL av 136 [.agg x.ds,pI left] (rI (max (left-x.cnt) (-1))):=by
  refine pO func136 call136 ntmps136 results136 λS=>?_;conv=>whnf
  repeat'(first|refine awz ?_|(refine aG.sz (Rp x.opens _ ai ai hs) rfl (λh=>?_) (λh=>?_)<;>(conv=>whnf))|fail)
  all_goals
    refine fD ?_;first
      |omega
      |(simp only[decide_eq_true_eq,decide_eq_false_iff_not,DJobs.cnt]at* <;>omega)
theorem Ru(x:DView)(left:Int)(h0:0<=left)(h1:left<=1048576)(hs:X6 9223372036854775807 x):aL av 58 [.agg x.ds,pI left] (rI (max (left-x.cnt) (-1))):=by
  refine pO func58 call58 ntmps58 results58 λS=>?_;conv=>whnf
  repeat'(first|refine awz ?_|(refine aG.sz (Rs x.jobs _ ai ai hs) rfl (λh=>?_) (λh=>?_)<;>(conv=>whnf))|fail)
  all_goals
    refine fD ?_;first
      |omega
      |(simp only[decide_eq_true_eq,decide_eq_false_iff_not,DView.cnt]at* <;>omega)
theorem G6(x:DSched)(left:Int)(h0:0<=left)(h1:left<=1048576)(hs:XZ 9223372036854775807 x):aL av 13 [.agg x.ds,pI left] (rI (max (left-x.cnt) (-1))):=by
  refine pO func13 call13 ntmps13 results13 λS=>?_;conv=>whnf
  repeat'(first|refine awz ?_|(refine aG.sz (Ru x.view _ ai ai hs) rfl (λh=>?_) (λh=>?_)<;>(conv=>whnf))|fail)
  all_goals
    refine fD ?_;first
      |omega
      |(simp only[decide_eq_true_eq,decide_eq_false_iff_not,DSched.cnt]at* <;>omega)
theorem Pt(l:(List DWant))(left:Int)(h0:0<=left)(h1:left<=1048576)(hs:l.length<=9223372036854775807):aL av 59 [.one (.sl (l.map DWant.ds)),pI left] (rI (max (left-l.length) (-1))):=by
  refine pO func59 call59 ntmps59 results59 λS=>?_;conv=>whnf
  repeat'((first|refine awz ?_|refine Xz (n:=_-_) ai ai ?_|refine tB ?_ ?_|intro h)<;>conv=>whnf)
  all_goals
    refine fD ?_;simp only[decide_eq_true_eq,decide_eq_false_iff_not,length_map]at*
    omega
theorem Rq(l:(List DGot))(left:Int)(h0:0<=left)(h1:left<=1048576)(hs:l.length<=9223372036854775807):aL av 60 [.one (.sl (l.map DGot.ds)),pI left] (rI (max (left-l.length) (-1))):=by
  refine pO func60 call60 ntmps60 results60 λS=>?_;conv=>whnf
  repeat'((first|refine awz ?_|refine Xz (n:=_-_) ai ai ?_|refine tB ?_ ?_|intro h)<;>conv=>whnf)
  all_goals
    refine fD ?_;simp only[decide_eq_true_eq,decide_eq_false_iff_not,length_map]at*
    omega
theorem Eq(x:DClient)(left:Int)(h0:0<=left)(h1:left<=1048576)(hs:XU 9223372036854775807 x):aL av 14 [.agg x.ds,pI left] (rI (max (left-x.cnt) (-1))):=by
  refine pO func14 call14 ntmps14 results14 λS=>?_;conv=>whnf
  repeat'(first|refine awz ?_|(refine aG.sz (Pt x.todo _ ai ai hs.1) rfl (λh=>?_) (λh=>?_)<;>(conv=>whnf))|(refine aG.sz (Rq x.gots _ ai ai hs.2) rfl (λh=>?_) (λh=>?_)<;>(conv=>whnf))|fail)
  all_goals
    refine fD ?_;first
      |omega
      |(simp only[decide_eq_true_eq,decide_eq_false_iff_not,DClient.cnt]at* <;>omega)
theorem SM(x:DMsg)(left:Int)(h0:0<=left)(h1:left<=1048576)(hs:X4 9223372036854775807 x):aL av 137 [.agg x.ds,pI left] (rI (max (left-x.cnt) (-1))):=by
  refine pO func137 call137 ntmps137 results137 λS=>?_;conv=>whnf
  repeat'(first|refine awz ?_|(refine aG.sz (sf x.row _ ai ai hs) rfl (λh=>?_) (λh=>?_)<;>(conv=>whnf))|fail)
  all_goals
    refine fD ?_;first
      |omega
      |(simp only[decide_eq_true_eq,decide_eq_false_iff_not,DMsg.cnt]at* <;>omega)
theorem Rt(l:(List DMsg))(left:Int)(h0:0<=left)(h1:left<=1048576)(hs:l.length<=9223372036854775807/\∀y∈l,X4 9223372036854775807 y):aL av 61 [.one (.sl (l.map DMsg.ds)),pI left] (rI (max (left-jO DMsg.cnt l) (-1))):=by
  refine pO func61 call61 ntmps61 results61 λS=>?_;conv=>whnf
  have hlen:=hs.1;have hcl:=mw DMsg.cnt l;repeat'((first|refine awz ?_|refine Xz (n:=_-_) ai ai ?_|refine tB ?_ ?_|intro h)<;>conv=>whnf)
  · refine fD ?_;simp only[decide_eq_true_eq,decide_eq_false_iff_not,length_map]at*
    omega
  refine XA (λp:Nat×Int=>p.1<=l.length/\0<=p.2/\p.2=left-l.length+(p.1:Int)-jO DMsg.cnt (l.take p.1)) (1::4::5::rg 12 14) (λp=>[(1,vI .i64 p.2),(5,vI .i64 (p.1:Int))]) (λ_=>[]) (λp=>l.length-p.1) (0,left-((l.map DMsg.ds).length:Int)) ⟨by simp,ai,by simp[jO]⟩ ?_ Xv (λp hR=>?_)<;>(conv=>whnf)
  · exact whd
  · obtain⟨k,v⟩:=p;obtain⟨hk,hv,he⟩:=hR;simp only at hk hv he;have htk:=lM DMsg.cnt l k;have htl:(l.take k).length=k:=al;repeat'((first|refine awz ?_|refine XI ai (λhlt=>?_)|refine Xt (SM _ _ hv ai (hs.2 _ (List.getElem_mem hlt))) rfl ?_|refine Xz ai ai ?_|refine tB ?_ ?_|intro h)<;>conv=>whnf)
    all_goals first
      | (have hsu := vn DMsg.cnt l k hlt
         have htk:=lM DMsg.cnt l (k+1);have htl:(l.take (k+1)).length=k+1:=al;simp only[decide_eq_true_eq,decide_eq_false_iff_not,length_map]at*
         first
           |(refine fD ?_;omega)
           |(refine aT.mk ⟨(k+1,max (v-((DMsg.cnt l[k]:Nat):Int)) (-1)),⟨by simp only;omega,by simp only;omega,by simp only;omega⟩,by simp only;omega,?_,Xv⟩;exact hds))
      | (have hkk : k = l.length := ai
         subst hkk;refine fD ?_;rw[List.take_length]at he;omega)
theorem Pp(l:(List DLink))(left:Int)(h0:0<=left)(h1:left<=1048576)(hs:l.length<=9223372036854775807):aL av 62 [.one (.sl (l.map DLink.ds)),pI left] (rI (max (left-l.length) (-1))):=by
  refine pO func62 call62 ntmps62 results62 λS=>?_;conv=>whnf
  repeat'((first|refine awz ?_|refine Xz (n:=_-_) ai ai ?_|refine tB ?_ ?_|intro h)<;>conv=>whnf)
  all_goals
    refine fD ?_;simp only[decide_eq_true_eq,decide_eq_false_iff_not,length_map]at*
    omega
theorem SN(x:DNet)(left:Int)(h0:0<=left)(h1:left<=1048576)(hs:Yf 9223372036854775807 x):aL av 15 [.agg x.ds,pI left] (rI (max (left-x.cnt) (-1))):=by
  refine pO func15 call15 ntmps15 results15 λS=>?_;conv=>whnf
  repeat'(first|refine awz ?_|(refine aG.sz (Rt x.flight _ ai ai ⟨hs.1,hs.2.1⟩) rfl (λh=>?_) (λh=>?_)<;>(conv=>whnf))|(refine aG.sz (Pp x.cuts _ ai ai hs.2.2) rfl (λh=>?_) (λh=>?_)<;>(conv=>whnf))|fail)
  all_goals
    refine fD ?_;first
      |omega
      |(simp only[decide_eq_true_eq,decide_eq_false_iff_not,DNet.cnt]at* <;>omega)
theorem Po(l:(List Bool))(left:Int)(h0:0<=left)(h1:left<=1048576)(hs:l.length<=9223372036854775807):aL av 17 [.one (.sl (l.map eB)),pI left] (rI (max (left-l.length) (-1))):=by
  refine pO func17 call17 ntmps17 results17 λS=>?_;conv=>whnf
  repeat'((first|refine awz ?_|refine Xz (n:=_-_) ai ai ?_|refine tB ?_ ?_|intro h)<;>conv=>whnf)
  all_goals
    refine fD ?_;simp only[decide_eq_true_eq,decide_eq_false_iff_not,length_map]at*
    omega
theorem G7(x:DWorld)(left:Int)(h0:0<=left)(h1:left<=1048576)(hs:XO 9223372036854775807 x):aL av 4 [.agg x.ds,pI left] (rI (max (left-x.cnt) (-1))):=by
  refine pO func4 call4 ntmps4 results4 λS=>?_;conv=>whnf
  repeat'(first|refine awz ?_|(refine aG.sz (Lm x.log _ ai ai hs.1) rfl (λh=>?_) (λh=>?_)<;>(conv=>whnf))|(refine aG.sz (Ps x.store _ ai ai hs.2.1) rfl (λh=>?_) (λh=>?_)<;>(conv=>whnf))|(refine aG.sz (G6 x.left _ ai ai hs.2.2.1) rfl (λh=>?_) (λh=>?_)<;>(conv=>whnf))|(refine aG.sz (G6 x.right _ ai ai hs.2.2.2.1) rfl (λh=>?_) (λh=>?_)<;>(conv=>whnf))|(refine aG.sz (Eq x.ann _ ai ai hs.2.2.2.2.1) rfl (λh=>?_) (λh=>?_)<;>(conv=>whnf))|(refine aG.sz (Eq x.bob _ ai ai hs.2.2.2.2.2.1) rfl (λh=>?_) (λh=>?_)<;>(conv=>whnf))|(refine aG.sz (SN x.net _ ai ai hs.2.2.2.2.2.2.1) rfl (λh=>?_) (λh=>?_)<;>(conv=>whnf))|(refine aG.sz (sf x.clocks _ ai ai hs.2.2.2.2.2.2.2.1) rfl (λh=>?_) (λh=>?_)<;>(conv=>whnf))|(refine aG.sz (Po x.up _ ai ai hs.2.2.2.2.2.2.2.2) rfl (λh=>?_) (λh=>?_)<;>(conv=>whnf))|fail)
  all_goals
    refine fD ?_;first
      |omega
      |(simp only[decide_eq_true_eq,decide_eq_false_iff_not,DWorld.cnt]at* <;>omega)
theorem xM{c:α->Int}{f:α->Nat}(h:∀a,c a<=9*(1+(f a:Int))):∀l:List α,aQ c l<=9*(jO f l:Int)
  |[]=>by simp[aQ,jO]
  |a::r=>by have:=xM h r;have:=h a;simp only[aQ,jO];omega
theorem fa{c:α->Int}(h:∀a,c a<=9):∀l:List α,aQ c l<=9*(l.length:Int)
  |[]=>by simp[aQ]
  |a::r=>by have:=fa h r;have:=h a;simp only[aQ,List.length_cons];omega
theorem Ma(x:DMsg):bS x<=9*(1+(DMsg.cnt x:Int)):=by
  have:=fa (c:=cI) (λa=>by unfold cI;omega) x.row;unfold bS DMsg.cnt;omega
theorem HE(x:DWrite):bu x<=9*(1+(DWrite.cnt x:Int)):=by
  have:=fa (c:=cI) (λa=>by unfold cI;omega) x.row;unfold bu DWrite.cnt;omega
theorem HF(y:(List Int)):bm y<=9*(1+(((y.length:Nat)):Int)):=by
  have:aQ cI y<=9*(y.length:Int):=fa (c:=cI) (λa=>by unfold cI;omega) y;unfold bm;omega
theorem tV(x:DDisk):bO x<=9*(x.cnt:Int):=by
  have:=xM (c:=bm) (f:=(λl=>l.length)) HF x.kept;have:=xM (c:=bu) (f:=DWrite.cnt) HE x.wait;unfold bO DDisk.cnt;omega
theorem Mc(x:DTwo):bH x<=9*(x.cnt:Int):=by
  have:=tV x.a;have:=tV x.b;unfold bH DTwo.cnt;omega
theorem zQ(x:DHead):bg x<=9*(x.cnt:Int):=by
  have:=fa (c:=bk) (λa=>by unfold bk;omega) x.seen;unfold bg DHead.cnt;omega
theorem Jj(x:DBook):cJ x<=9*(x.cnt:Int):=by
  have:=fa (c:=bA) (λa=>by unfold bA;omega) x.entries;unfold cJ DBook.cnt;omega
theorem Cx(x:DLogNode):aN x<=9*(x.cnt:Int):=by
  have:=Mc x.two;have:=zQ x.head;have:=zQ x.nxt;have:=Jj x.book;have:=fa (c:=bk) (λa=>by unfold bk;omega) x.seen;have:=fa (c:=co) (λa=>by unfold co;omega) x.owe;unfold aN DLogNode.cnt;omega
theorem HI(x:DState):dt x<=9*(x.cnt:Int):=by
  have:=fa (c:=bB) (λa=>by unfold bB;omega) x.pairs;have:=fa (c:=ct) (λa=>by unfold ct;omega) x.jobs;unfold dt DState.cnt;omega
theorem HJ(x:DStore):aX x<=9*(x.cnt:Int):=by
  have:=tV x.disk;have:=HI x.state;unfold aX DStore.cnt;omega
theorem Jk(x:DJobs):dW x<=9*(x.cnt:Int):=by
  have:=fa (c:=cp) (λa=>by unfold cp;omega) x.opens;unfold dW DJobs.cnt;omega
theorem Jl(x:DView):dX x<=9*(x.cnt:Int):=by
  have:=Jk x.jobs;unfold dX DView.cnt;omega
theorem xO(x:DSched):aP x<=9*(x.cnt:Int):=by
  have:=Jl x.view;unfold aP DSched.cnt;omega
theorem wm(x:DClient):aW x<=9*(x.cnt:Int):=by
  have:=fa (c:=bC) (λa=>by unfold bC;omega) x.todo;have:=fa (c:=cq) (λa=>by unfold cq;omega) x.gots;unfold aW DClient.cnt;omega
theorem Mb(x:DNet):dg x<=9*(x.cnt:Int):=by
  have:=xM (c:=bS) (f:=DMsg.cnt) Ma x.flight;have:=fa (c:=bQ) (λa=>by unfold bQ;omega) x.cuts;unfold dg DNet.cnt;omega
theorem xP(x:DWorld):dL x<=9*(x.cnt:Int):=by
  have:=Cx x.log;have:=HJ x.store;have:=xO x.left;have:=xO x.right;have:=wm x.ann;have:=wm x.bob;have:=Mb x.net;have:=fa (c:=cI) (λa=>by unfold cI;omega) x.clocks;have:=fa (c:=cI) (λa=>by unfold cI;omega) x.up;unfold dL DWorld.cnt;omega
end
def lx:List (List Nat):=cz [0,1,0,3,0,5,6,28930,0x2071851030811c8]
def qP:List (List Nat):=cz [0,1,0,3,0,5,6,452,8,29250,0x289207185103081,0xa2481c61440c204a28b]
def qQ:List (List Nat):=cz [0,1,0,3,0,5,0,7,8,2384130,0x28920718510308124a]
def qO:List (List Nat):=cz [0,1,0,3,0,0,6,453,33026,0x9207185103081209]
def sJ:List (List Nat):=cz [0,1,2,0,4,197,0,7,392,0,10,0,12,589,0,15,912,0,18,0,0,21,71060,0x5d344e2c9183,0x61759551349140f38d30b2892071851030815d8]
def pH:List (List Nat):=cz [0,1,0,3,0,5,6,0,8,457,0,11,203976962,0xd30b28920718510308128d]
def pJ:List (List Nat):=cz [0,1,2,0,4,197,0,7,0,9,0,11,203981187,0xd30b28920718510308118d]
def pc:List (List Nat):=cz [0,1,0,0,4,323,0,0,8,25159,0,11,3187074,0xd30b28920718510308128d]
def sK:List (List Nat):=cz [0,1,0,3,4,16706,6527398017,0x61440c2046187]
def pK:List (List Nat):=cz [0,1,2,0,4,197,0,7,392,0,10,587,0,13,782,0,16,977,0,19,1172,0,22,1367,0,0,26,100057,7988315155370371,0x1d71b69961759551349140f38d30b28920718510308171d]
theorem Mw(x:DMsg)(hs:X4 1048576 x):cg av 271 [.agg x.ds] (.agg x.ds):=by
 refine cZ aM func271 rfl call271 ntmps271 (aaX results271) λS=>?_;conv=>whnf
 repeat'(first|refine awz ?_|fail)
 (refine XF aM 1 (tkc [0,1,2,3,4,5] (onc [6,7,8] .done)) [(1,9980)] lx ac ac ac ac (λRz=>?_);(conv=>whnf);intro bp0 up0;(conv=>whnf))
 repeat'(first|refine awz ?_|(refine XC (rf x.row hs) rfl rfl λR1 l1 h1 a1 b1 F1=>?_;conv=>whnf)|fail)
 exact⟨_,_,_,⟨(by omega:S.w0.heap.size<=l1),trivial,trivial⟩,Fam.app (XD (lo:=l1) (hi:=l1) (ds:=[dI x.frm,dI x.to_]) rfl) F1 aa aa aa,rfl⟩
theorem Ac(l:(List (List Int)))(hs:l.length<=1048576/\∀y∈l,y.length<=1048576):cg av 337 [.one (.sl (l.map bD))] (.one (.sl (l.map bD))):=by
 have hl:l.length<=1048576:=hs.1;refine cu aM func337 rfl call337 ntmps337 (aaX results337) λS=>?_;conv=>whnf
 repeat'(first|refine awz ?_|(refine⟨l.length,by simp,(show 24*l.length<=_ by omega),aa,?_⟩;conv=>whnf)|fail)
 refine XA (λg:Nat×Nat×List (List AD)=>g.1<=l.length/\g.2.2.length=g.1/\S.w0.heap.size<=g.2.1/\Fam S.w0.heap.size g.2.1 g.2.2.flatten ((l.take g.1).map bD).flatten) (8::[3,5,11,12,13,14,15,16,17,18,19,20]) (λg=>[(3,.one (.own 8)),(11,vI .i64 (g.1:Int))]) (λg=>[(9997,cS S.w0.heap.size g.2.1),(8,.row 62 1 g.2.2)]) (λg=>l.length-g.1) (0,S.w0.heap.size,[]) ⟨Nat.zero_le _,rfl,Nat.le_refl _,XD rfl⟩ ?_ sbW (λg hR=>?_)<;>(conv=>whnf)
 ·exact whd
 ·obtain⟨k,m,cs⟩:=g;obtain⟨hk,hcs,hm,hF⟩:=hR;simp only at hk hcs hm hF;repeat'((first|refine awz ?_|refine XI ari (λhlt=>?_)|refine XC (rf _ (hs.2 _ (List.getElem_mem hlt))) rfl rfl λR lo hi a1 a2 F=>?_|refine bc (by simp only[hcs,List.length_cons,List.length_nil];omega) ?_|refine Xz ari ari ?_|refine tW ?_ ?_|intro h)<;>conv=>whnf)
  ·have a1:m<=lo:=a1;refine aT.mk ⟨(k+1,hi,cs++[cW R 0 (bD l[k])]),⟨by simp only;omega,by simp[hcs],by simp only;omega,?_⟩,by simp only;omega,?_,sbW⟩
   ·simp only;rw[eE bD aa];exact hF.flat_set F aa aa aa
   ·exact hds
  ·have:k=l.length:=ari;subst this;refine⟨_,m,l.map bD,Nat.le_refl _,?_,by simp[hcs],alW,rfl⟩;rw[List.take_length]at hF;exact hF
theorem oN(x:DDisk)(hs:XV 1048576 x):cg av 268 [.agg x.ds] (.agg x.ds):=by
 obtain⟨h1,h2,h3,h4⟩:=(show x.kept.length<=1048576/\(∀y∈x.kept,y.length<=1048576)/\x.wait.length<=1048576/\(∀y∈x.wait,X0 1048576 y)from hs);refine cZ aM func268 rfl call268 ntmps268 (aaX results268) λS=>?_;conv=>whnf
 repeat'(first|refine awz ?_|(refine XC (Ac x.kept ⟨h1,h2⟩) rfl rfl λR1 l1 e1 a1 b1 F1=>?_;conv=>whnf)|fail)
 refine Yc 3 1 26 301 2 ae ?_;conv=>whnf
 repeat'(first|refine awz ?_|fail)
 refine XA (λg:Nat×Nat×List (List AD)=>g.1<=x.wait.length/\g.2.2.length=g.1/\e1<=g.2.1/\Fam e1 g.2.1 g.2.2.flatten ((x.wait.take g.1).map DWrite.ds).flatten) (5::rg 13 16) (λg=>[(13,vI .i64 (g.1:Int))]) (λg=>[(9997,cS S.w0.heap.size g.2.1),(1,.cells 69 (x.ds.map .d)),(2,.cells 69 [.nil,.nil]),(3,.cells 69 [.d (.x (R1 0)),.own 26]),(26,.row 301 2 g.2.2)]) (λg=>x.wait.length-g.1) (0,e1,[]) ⟨Nat.zero_le _,rfl,Nat.le_refl _,XD rfl⟩ ?_ sbW (λg hR=>?_)<;>(conv=>whnf)
 ·exact whd
 ·obtain⟨k,m,cs⟩:=g;obtain⟨hk,hcs,hm,hF⟩:=hR;simp only at hk hcs hm hF;repeat'((first|refine awz ?_|refine XI ari (λhlt=>?_)|refine tW ?_ ?_|intro h)<;>conv=>whnf)
  ·(refine XF aM 5 (tkc [0,2,3,4,5] (.two 1 (onc [6,7,8,9] (.take 10 (.one 11 .done))) 6 (.two 1 (onc [7,8,9] (.take 10 (.one 11 .done))) 7 (.two 1 (.one 8 (.one 9 (.take 10 (.one 11 .done)))) 8 (.one 1 (.one 9 (.take 10 (.one 11 .done)))))))) [(5,9980)] qP ac ac ac ac (λRz=>?_);(conv=>whnf);intro bp0 up0;(conv=>whnf))
   repeat'((first|refine awz ?_|refine XC (rf _ (h4 _ (List.getElem_mem hlt))) rfl rfl λR lo hi a1 a2 F=>?_|refine bc (by simp only[hcs,List.length_cons,List.length_nil];omega) ?_|refine Xz ari ari ?_|refine tW ?_ ?_|fail)<;>conv=>whnf)
   all_goals
    have a1:m<=lo:=a1;refine aT.mk ⟨(k+1,hi,cs++[[dI x.wait[k].at_,.x (R 0)]]),⟨by simp only;omega,by simp[hcs],by simp only;omega,?_⟩,by simp only;omega,?_,sbW⟩
    ·simp only;rw[eE DWrite.ds aa];exact hF.flat_set (Fam.app (XD (lo:=lo) (hi:=lo) (ds:=[dI x.wait[k].at_]) rfl) F aa aa aa) aa aa aa
    ·exact hds
  ·have:k=x.wait.length:=ari;subst this;rw[List.take_length]at hF;repeat'(first|(refine kG.fam hF (by simp[hcs]) alW ?_;conv=>whnf)|fail)
   exact⟨_,_,_,⟨aa,⟨.inl (by simp only;omega),trivial⟩,aa,trivial,trivial⟩,F1,rfl⟩
theorem Mz(x:DTwo)(hs:X8 1048576 x):cg av 264 [.agg x.ds] (.agg x.ds):=by
 refine cZ aM func264 rfl call264 ntmps264 (aaX results264) λS=>?_;conv=>whnf
 repeat'(first|refine awz ?_|fail)
 (refine XF aM 1 (tkc [0,1,3,4] (onc [2,5,6,7] .done)) [(1,9980)] jh ac ac ac ac (λRz=>?_);(conv=>whnf);intro bp0 up0;(conv=>whnf))
 repeat'((first|refine awz ?_|refine XC (oN x.a hs.1) rfl rfl λR1 l1 e1 a1 b1 F1=>?_|refine XC (oN x.b hs.2) rfl rfl λR2 l2 e2 a2 b2 F2=>?_|fail)<;>conv=>whnf)
 exact⟨_,_,_,⟨(by omega:S.w0.heap.size<=l1),trivial,trivial⟩,(Fam.app F1 F2 aa aa aa),rfl⟩
theorem Ab(x:DHead)(hs:XW 1048576 x):cg av 265 [.agg x.ds] (.agg x.ds):=by
 have h1:x.seen.length<=1048576:=hs;refine cZ aM func265 rfl call265 ntmps265 (aaX results265) λS=>?_;conv=>whnf
 repeat'(first|refine awz ?_|fail)
 (refine XF aM 1 (tkc [0,1,2,3,4,5,6,7] (onc [8,9,10] .done)) [(1,9980)] qQ ac ac ac ac (λRz=>?_);(conv=>whnf);intro bp0 up0;(conv=>whnf))
 repeat'(first|refine awz ?_|(refine XC (Ad x.seen h1) rfl rfl λR1 l1 e1 a1 b1 F1=>?_;conv=>whnf)|fail)
 exact⟨_,_,_,⟨(by omega:S.w0.heap.size<=l1),trivial,trivial⟩,(Fam.app (XD (lo:=l1) (hi:=l1) (ds:=[dI x.num,dI x.base,dI x.time]) rfl) F1 aa aa aa),rfl⟩
theorem JQ(x:DBook)(hs:X5 1048576 x):cg av 266 [.agg x.ds] (.agg x.ds):=by
 have h1:x.entries.length<=1048576:=hs;refine cZ aM func266 rfl call266 ntmps266 (aaX results266) λS=>?_;conv=>whnf
 repeat'(first|refine awz ?_|fail)
 (refine XF aM 1 (tkc [0,1,2,3,5,6] (onc [4,7,8,9] .done)) [(1,9980)] qO ac ac ac ac (λRz=>?_);(conv=>whnf);intro bp0 up0;(conv=>whnf))
 repeat'((first|refine awz ?_|refine bc ak ?_|refine aY alW ?_|refine Yd bls ?_|fail)<;>conv=>whnf)
 all_goals exact⟨_,_,_,⟨Nat.le_refl S.w0.heap.size,trivial,trivial⟩,(XD (lo:=S.w0.heap.size) (hi:=S.w0.heap.size) (ds:=[dI x.base,dI x.time]) rfl),rfl⟩
theorem Mv(x:DLogNode)(hs:XT 1048576 x):cg av 179 [.agg x.ds] (.agg x.ds):=by
 obtain⟨h1,h2,h3,h4,h5,h6⟩:=(show X8 1048576 x.two/\XW 1048576 x.head/\XW 1048576 x.nxt/\X5 1048576 x.book/\x.seen.length<=1048576/\x.owe.length<=1048576 from hs);refine cZ aM func179 rfl call179 ntmps179 (aaX results179) λS=>?_;conv=>whnf
 repeat'(first|refine awz ?_|fail)
 (refine XF aM 1 (tkc [0,1,3,4,6,7,9,10,11,12,14,15,17,18,20,21] (.two 2 (.two 5 (.two 8 (.two 13 (.two 16 (onc [19,22,23,24] .done) 19 (onc [16,22,23,24] .done)) 19 (onc [13,16,22,23,24] .done)) 19 (onc [8,13,16,22,23,24] .done)) 19 (onc [5,8,13,16,22,23,24] .done)) 19 (onc [2,5,8,13,16,22,23,24] .done))) [(1,9980)] sJ ac ac ac ac (λRz=>?_);(conv=>whnf);intro bp0 up0;(conv=>whnf))
 repeat'((first|refine awz ?_|refine XC (Mz x.two h1) rfl rfl λR1 l1 e1 a1 b1 F1=>?_|refine XC (Ab x.head h2) rfl rfl λR2 l2 e2 a2 b2 F2=>?_|refine XC (Ab x.nxt h3) rfl rfl λR3 l3 e3 a3 b3 F3=>?_|refine XC (JQ x.book h4) rfl rfl λR4 l4 e4 a4 b4 F4=>?_|refine XC (Ad x.seen h5) rfl rfl λR5 l5 e5 a5 b5 F5=>?_|refine bc ak ?_|refine aY alW ?_|refine Yd bls ?_|refine tW ?_ ?_|fail)<;>conv=>whnf)
 all_goals exact⟨_,_,_,⟨(by omega:S.w0.heap.size<=l1),trivial,trivial⟩,(Fam.app (Fam.app (Fam.app (Fam.app (Fam.app (Fam.app F1 F2 aa aa aa) F3 aa aa aa) (XD (lo:=e3) (hi:=e3) (ds:=[dB x.more]) rfl) aa aa aa) F4 aa aa aa) F5 aa aa aa) (XD (lo:=e5) (hi:=e5) (ds:=[dI x.durable]) rfl) aa aa aa),rfl⟩
theorem HX(x:DState)(hs:X1 1048576 x):cg av 269 [.agg x.ds] (.agg x.ds):=by
 obtain⟨h1,h2⟩:=(show x.pairs.length<=1048576/\x.jobs.length<=1048576 from hs);refine cZ aM func269 rfl call269 ntmps269 (aaX results269) λS=>?_;conv=>whnf
 repeat'(first|refine awz ?_|fail)
 (refine XF aM 1 (tkc [0,1,2,3,4,5,7,8,10,11] (onc [6,9,12,13] .done)) [(1,9980)] pH ac ac ac ac (λRz=>?_);(conv=>whnf);intro bp0 up0;(conv=>whnf))
 repeat'((first|refine awz ?_|refine XC (HW x.pairs h1) rfl rfl λR1 l1 e1 a1 b1 F1=>?_|refine XC (JS x.jobs h2) rfl rfl λR2 l2 e2 a2 b2 F2=>?_|fail)<;>conv=>whnf)
 exact⟨_,_,_,⟨(by omega:S.w0.heap.size<=l1),trivial,trivial⟩,(Fam.app (Fam.app (Fam.app (XD (lo:=l1) (hi:=l1) (ds:=[dI x.index,dI x.time]) rfl) F1 aa aa aa) F2 aa aa aa) (XD (lo:=e2) (hi:=e2) (ds:=[dI x.lease.holder,dI x.lease.epoch,dI x.lease.til]) rfl) aa aa aa),rfl⟩
theorem HY(x:DStore)(hs:X3 1048576 x):cg av 180 [.agg x.ds] (.agg x.ds):=by
 obtain⟨h1,h2⟩:=(show XV 1048576 x.disk/\X1 1048576 x.state from hs);refine cZ aM func180 rfl call180 ntmps180 (aaX results180) λS=>?_;conv=>whnf
 repeat'(first|refine awz ?_|fail)
 (refine XF aM 1 (tkc [0,1,3,4,6,7,8,9,10,11] (onc [2,5,12,13] .done)) [(1,9980)] pJ ac ac ac ac (λRz=>?_);(conv=>whnf);intro bp0 up0;(conv=>whnf))
 repeat'((first|refine awz ?_|refine XC (oN x.disk h1) rfl rfl λR1 l1 e1 a1 b1 F1=>?_|refine XC (HX x.state h2) rfl rfl λR2 l2 e2 a2 b2 F2=>?_|fail)<;>conv=>whnf)
 exact⟨_,_,_,⟨(by omega:S.w0.heap.size<=l1),trivial,trivial⟩,(Fam.app (Fam.app F1 F2 aa aa aa) (XD (lo:=e2) (hi:=e2) (ds:=[dI x.num,dI x.last,dI x.busy]) rfl) aa aa aa),rfl⟩
theorem JT(x:DView)(hs:X6 1048576 x):cg av 270 [.agg x.ds] (.agg x.ds):=by
 have h1:x.jobs.opens.length<=1048576:=hs;refine cZ aM func270 rfl call270 ntmps270 (aaX results270) λS=>?_;conv=>whnf
 repeat'((first|refine awz ?_|refine bc ak ?_|refine aY alW ?_|refine Yd bls ?_|fail)<;>conv=>whnf)
 exact⟨_,_,_,⟨Nat.le_refl S.w0.heap.size,trivial,trivial⟩,(XD (lo:=S.w0.heap.size) (hi:=S.w0.heap.size) (ds:=[dI x.jobs.index,dI x.jobs.time,dI x.jobs.holder,dI x.jobs.epoch,dI x.jobs.til]) rfl),rfl⟩
theorem yg(x:DSched)(hs:XZ 1048576 x):cg av 181 [.agg x.ds] (.agg x.ds):=by
 refine cZ aM func181 rfl call181 ntmps181 (aaX results181) λS=>?_;conv=>whnf
 repeat'(first|refine awz ?_|(refine XC (JT x.view hs) rfl rfl λR1 l1 e1 a1 b1 F1=>?_;conv=>whnf)|fail)
 exact⟨_,_,_,⟨(by omega:S.w0.heap.size<=l1),trivial,trivial⟩,(Fam.app (Fam.app (XD (lo:=l1) (hi:=l1) (ds:=[dI x.id,dI x.seq]) rfl) F1 aa aa aa) (XD (lo:=e1) (hi:=e1) (ds:=[dB x.busy,dI x.op.kind,dI x.op.a,dI x.op.b,dI x.op.c,dI x.op.d,dI x.index]) rfl) aa aa aa),rfl⟩
theorem wB(x:DClient)(hs:XU 1048576 x):cg av 182 [.agg x.ds] (.agg x.ds):=by
 obtain⟨h1,h2⟩:=(show x.todo.length<=1048576/\x.gots.length<=1048576 from hs);refine cZ aM func182 rfl call182 ntmps182 (aaX results182) λS=>?_;conv=>whnf
 repeat'(first|refine awz ?_|fail)
 (refine XF aM 1 (tkc [0,1,3,4,7,8,10,11] (.two 2 (.two 5 (onc [6,9,12,13] .done) 6 (onc [5,9,12,13] .done)) 6 (onc [2,5,9,12,13] .done))) [(1,9980)] pc ac ac ac ac (λRz=>?_);(conv=>whnf);intro bp0 up0;(conv=>whnf))
 repeat'((first|refine awz ?_|refine bc ak ?_|refine aY alW ?_|refine Yd bls ?_|refine tW ?_ ?_|fail)<;>conv=>whnf)
 all_goals exact⟨_,_,_,⟨Nat.le_refl S.w0.heap.size,trivial,trivial⟩,(XD (lo:=S.w0.heap.size) (hi:=S.w0.heap.size) (ds:=[dI x.id,dI x.last]) rfl),rfl⟩
theorem Mx(x:DNet)(hs:Yf 1048576 x):cg av 183 [.agg x.ds] (.agg x.ds):=by
 obtain⟨h1,h2,h3⟩:=(show x.flight.length<=1048576/\(∀y∈x.flight,X4 1048576 y)/\x.cuts.length<=1048576 from hs);refine cZ aM func183 rfl call183 ntmps183 (aaX results183) λS=>?_;conv=>whnf
 repeat'((first|refine awz ?_|refine bc ak ?_|refine aY alW ?_|fail)<;>conv=>whnf)
 refine Yc 3 0 23 227 3 ae ?_;conv=>whnf
 repeat'(first|refine awz ?_|fail)
 refine XA (λg:Nat×Nat×List (List AD)=>g.1<=x.flight.length/\g.2.2.length=g.1/\S.w0.heap.size<=g.2.1/\Fam S.w0.heap.size g.2.1 g.2.2.flatten ((x.flight.take g.1).map DMsg.ds).flatten) (5::rg 14 12) (λg=>[(14,vI .i64 (g.1:Int))]) (λg=>[(9997,cS S.w0.heap.size g.2.1),(1,.cells 103 (x.ds.map .d)),(2,.cells 103 [.nil,.nil]),(3,.cells 103 [.own 23,.own 6]),(6,.row 229 2 (x.cuts.map DLink.ds)),(23,.row 227 3 g.2.2)]) (λg=>x.flight.length-g.1) (0,S.w0.heap.size,[]) ⟨Nat.zero_le _,rfl,Nat.le_refl _,XD rfl⟩ ?_ sbW (λg hR=>?_)<;>(conv=>whnf)
 ·exact whd
 ·obtain⟨k,m,cs⟩:=g;obtain⟨hk,hcs,hm,hF⟩:=hR;simp only at hk hcs hm hF;repeat'((first|refine awz ?_|refine XI ari (λhlt=>?_)|refine tW ?_ ?_|intro h)<;>conv=>whnf)
  ·(refine XF aM 5 (.take 0 (.take 2 (.two 1 (onc [3,4,5] (.take 6 (.one 7 .done))) 3 (.two 1 (.one 4 (.one 5 (.take 6 (.one 7 .done)))) 4 (.one 1 (.one 5 (.take 6 (.one 7 .done)))))))) [(5,9980)] sK ac ac ac ac (λRz=>?_);(conv=>whnf);intro bp0 up0;(conv=>whnf))
   repeat'((first|refine awz ?_|refine XC (Mw _ (h2 _ (List.getElem_mem hlt))) rfl rfl λR lo hi a1 a2 F=>?_|refine bc (by simp only[hcs,List.length_cons,List.length_nil];omega) ?_|refine Xz ari ari ?_|refine tW ?_ ?_|fail)<;>conv=>whnf)
   all_goals
    have a1:m<=lo:=a1;refine aT.mk ⟨(k+1,hi,cs++[cW R 0 (DMsg.ds x.flight[k])]),⟨by simp only;omega,by simp[hcs],by simp only;omega,?_⟩,by simp only;omega,?_,sbW⟩
    ·simp only;rw[eE DMsg.ds aa];exact hF.flat_set F aa aa aa
    ·exact hds
  ·have:k=x.flight.length:=ari;subst this;rw[List.take_length]at hF;repeat'((first|refine Yd bls ?_|refine kG.fam hF (by simp[hcs]) alW ?_|fail)<;>conv=>whnf)
   exact⟨S.w0.heap.size,S.w0.heap.size,[],⟨Nat.le_refl _,⟨.inl (Nat.le_refl _),trivial⟩,Nat.le_refl _,trivial,trivial⟩,XD rfl,rfl⟩
theorem HZ(x:DWorld)(hs:XO 1048576 x):cg av 92 [.agg x.ds] (.agg x.ds):=by
 obtain⟨h1,h2,h3,h4,h5,h6,h7,h8,h9⟩:=id hs;refine cZ aM func92 rfl call92 ntmps92 (aaX results92) λS=>?_;conv=>whnf
 repeat'(first|refine awz ?_|fail)
 (refine XF aM 1 (tkc [0,1,3,4,6,7,9,10,12,13,15,16,18,19,21,22,25,26] (.two 2 (.two 5 (.two 8 (.two 11 (.two 14 (.two 17 (.two 20 (.two 23 (onc [24,27,28,29] .done) 24 (onc [23,27,28,29] .done)) 24 (onc [20,23,27,28,29] .done)) 24 (onc [17,20,23,27,28,29] .done)) 24 (onc [14,17,20,23,27,28,29] .done)) 24 (onc [11,14,17,20,23,27,28,29] .done)) 24 (onc [8,11,14,17,20,23,27,28,29] .done)) 24 (onc [5,8,11,14,17,20,23,27,28,29] .done)) 24 (onc [2,5,8,11,14,17,20,23,27,28,29] .done))) [(1,9980)] pK ac ac ac ac (λRz=>?_);(conv=>whnf);intro bp0 up0;(conv=>whnf))
 repeat'((first|refine awz ?_|refine XC (Mv x.log h1) rfl rfl λR1 l1 e1 a1 b1 F1=>?_|refine XC (HY x.store h2) rfl rfl λR2 l2 e2 a2 b2 F2=>?_|refine XC (yg x.left h3) rfl rfl λR3 l3 e3 a3 b3 F3=>?_|refine XC (yg x.right h4) rfl rfl λR4 l4 e4 a4 b4 F4=>?_|refine XC (wB x.ann h5) rfl rfl λR5 l5 e5 a5 b5 F5=>?_|refine XC (wB x.bob h6) rfl rfl λR6 l6 e6 a6 b6 F6=>?_|refine XC (Mx x.net h7) rfl rfl λR7 l7 e7 a7 b7 F7=>?_|refine XC (rf x.clocks h8) rfl rfl λR8 l8 e8 a8 b8 F8=>?_|refine bc ak ?_|refine aY alW ?_|refine Yd bls ?_|refine tW ?_ ?_|fail)<;>conv=>whnf)
 all_goals exact⟨_,_,_,⟨(by omega:S.w0.heap.size<=l1),trivial,trivial⟩,(Fam.app (Fam.app (Fam.app (Fam.app (Fam.app (Fam.app (Fam.app F1 F2 aa aa aa) F3 aa aa aa) F4 aa aa aa) F5 aa aa aa) F6 aa aa aa) F7 aa aa aa) F8 aa aa aa),rfl⟩
section
section
def jL(l:List DPair):List Int:=(l.length:Int)::l.flatMap λp=>[p.key,p.value]
def ot(l:List DJob):List Int:=(l.length:Int)::l.flatMap λj=>[j.id,j.due,j.key,j.value,j.fired]
def bN(s:DState):List Int:=[s.index,s.time]++(jL s.pairs++(ot s.jobs++[s.lease.holder,s.lease.epoch,s.lease.til]))
def dE(l:List Int):List DPair:=(List.range (l.length/2)).map λk=>⟨l.getD (2*k) 0,l.getD (2*k+1) 0⟩
def eM(l:List Int):List DJob:=(List.range (l.length/5)).map λk=>⟨l.getD (5*k) 0,l.getD (5*k+1) 0,l.getD (5*k+2) 0,l.getD (5*k+3) 0,l.getD (5*k+4) 0⟩
theorem ru(l:List Int):(dE l).length=l.length/2:=by simp[dE]
theorem Gp(l:List Int):(eM l).length=l.length/5:=by simp[eM]
theorem oy(l:List DPair):(l.flatMap λp=>[p.key,p.value]).length=2*l.length:=by
 induction l with
 |nil=>rfl
 |cons p r ih=>simp only[List.flatMap_cons,length_append,ih,length_cons,length_nil];omega
theorem pn(l:List DJob):(l.flatMap λj=>[j.id,j.due,j.key,j.value,j.fired]).length=5*l.length:=by
 induction l with
 |nil=>rfl
 |cons p r ih=>simp only[List.flatMap_cons,length_append,ih,length_cons,length_nil];omega
theorem rY(s:DState):(bN s).length=7+2*s.pairs.length+5*s.jobs.length:=by
 simp only[bN,jL,ot,length_append,length_cons,length_nil,oy,pn];omega
def rH(l:List Int):Bool:=decide (7<=l.length)&&aJ (l.getD 2 0) 0 10&&decide (3+2*l.getD 2 0<l.length)&&aJ (l.getD (3+2*l.getD 2 0).toNat 0) 0 8&&decide (3+2*l.getD 2 0+1+5*l.getD (3+2*l.getD 2 0).toNat 0+3=l.length)
def pp(l:List Int):DState:=⟨l.getD 0 0,l.getD 1 0,dE ((l.drop 3).take (2*l.getD 2 0).toNat),eM ((l.drop (3+2*l.getD 2 0).toNat).tail.take (5*l.getD (3+2*l.getD 2 0).toNat 0).toNat),⟨l.getD (l.length-3) 0,l.getD (l.length-2) 0,l.getD (l.length-1) 0⟩⟩
def gi(l:List Int):Option DState:=if rH l&&cH (pp l)then some (pp l)else none
theorem As{l:List Int}{s:DState}(h:gi l=some s):cH s=true:=by
 unfold gi at h;split at h
 ·rename_i hc;injection h with h
  subst h;simp only[and_eq_true]at hc;exact hc.2
 ·cases h
def fK(s:Int×DState):Bool:=aJ s.1 1 1000000000&&cH s.2&&s.2.index !=0
def cO(n:Nat):Nat:=(n+19)/20
def dD(s:Int×DState)(p:Nat):List Int:=[s.1,s.2.index,(p:Int),((bN s.2).length:Int)]++(((bN s.2).drop (20*p)).take 20++[s.2.index,s.1])
def cC(s:Int×DState):List (List Int):=if fK s then(List.range (cO (bN s.2).length)).map λp=>fx (dD s p)else []
theorem nP{l:List DPair}(h:da l=true):l.length<=10:=by
 simp only[da,and_eq_true,List.all_eq_true]at h;obtain⟨h1,h2⟩:=h;have key:∀(k:Nat) (hk:k<l.length),(k:Int)<=l[k].key:=by
  intro k;induction k with
  |zero=>intro hk;have:=h1 _ (getElem_mem hk);simp only[fU,aJ,and_eq_true,decide_eq_true_eq]at this;omega
  |succ k ih=>
   intro hk;have:=nW h2 hk;simp only[j9,decide_eq_true_eq]at this;have:=ih aa;omega
 by_cases hl:l.length<=10
 ·exact hl
 ·have h10:10<l.length:=aa;have:=key 10 h10;have:=h1 _ (getElem_mem h10);simp only[fU,aJ,and_eq_true,decide_eq_true_eq]at this;omega
theorem dS{s:DState}(h:cH s=true):(0<=s.index/\s.index<=2000)/\(0<=s.time/\s.time<=1000000)/\da s.pairs=true/\dA s.jobs=true/\iD s.lease=true:=by
 simp only[cH,tOk,and_eq_true]at h;refine⟨?_,?_,h.1.1.1.2,h.1.1.2,h.1.2⟩
 ·have:=h.1.1.1.1.1;simp only[aJ,and_eq_true,decide_eq_true_eq]at this;exact this
 ·have:=h.1.1.1.1.2;simp only[aJ,and_eq_true,decide_eq_true_eq]at this;exact this
theorem iJ{s:DState}(h:cH s=true):7<=(bN s).length/\(bN s).length<=67:=by
 obtain⟨_,_,h3,h4,_⟩:=dS h;have h5:=nP h3;have h6:s.jobs.length<=8:=by simp only[dA,and_eq_true,decide_eq_true_eq]at h4;exact h4.1.1.1
 rw[rY];omega
theorem M7{s:DState}(h:cH s=true):∀x∈bN s,0<=x/\x<=1000000000:=by
 have hm:=iJ h;rw[rY]at hm;obtain⟨h1,h2,h3,h4,h5⟩:=dS h;intro x hx;simp only[bN,jL,ot,List.mem_append,List.mem_cons,List.not_mem_nil,or_false,List.mem_flatMap]at hx;rcases hx with hx|(hx|⟨p,hp,hx⟩)|(hx|⟨j,hj,hx⟩)|hx
 ·omega
 ·omega
 ·simp only[da,and_eq_true,List.all_eq_true]at h3;have:=h3.1 p hp;simp only[fU,aJ,and_eq_true,decide_eq_true_eq]at this;omega
 ·omega
 ·simp only[dA,and_eq_true,List.all_eq_true]at h4;have:=h4.1.1.2 j hj;simp only[oP,tOk,aJ,and_eq_true,decide_eq_true_eq]at this;omega
 ·simp only[iD,jG,aJ,Bool.or_eq_true,and_eq_true,decide_eq_true_eq,beq_iff_eq]at h5;rcases h5 with h5|h5
  ·rw[h5]at hx;simp at hx;omega
  ·omega
theorem jH{s:Int×DState}(h:fK s=true):(1<=s.1/\s.1<=1000000000)/\cH s.2=true/\s.2.index≠0:=by
 simp only[fK,aJ,and_eq_true,decide_eq_true_eq,bne_iff_ne]at h;exact⟨h.1.1,h.1.2,h.2⟩
theorem uV{s:Int×DState}{p:Nat}(hp:p<cO (bN s.2).length):7<=(dD s p).length/\(dD s p).length<=26:=by
 have h1:20*p<(bN s.2).length:=by unfold cO at hp;omega
 simp only[dD,length_append,length_cons,length_nil,List.length_take,List.length_drop];omega
theorem rS{s:Int×DState}(h:fK s=true){p:Nat}(hp:p<cO (bN s.2).length):ck (dD s p)=true/\(dD s p).length<48:=by
 obtain⟨h1,h2,h3⟩:=jH h;obtain⟨l1,l2⟩:=uV hp;obtain⟨m1,m2⟩:=iJ h2;have hr:=M7 h2;obtain⟨i1,_⟩:=dS h2;refine⟨uR ⟨aa,λx hx=>?_⟩,aa⟩;have hp':p<67:=by unfold cO at hp;omega
 simp only[dD,List.mem_append,List.mem_cons,List.not_mem_nil,or_false]at hx;rcases hx with hx|hx|hx
 ·omega
 ·exact hr x (List.mem_of_mem_drop (List.mem_of_mem_take hx))
 ·omega
theorem jI{s:Int×DState}(h:fK s=true):(cC s).length=cO (bN s.2).length/\1<=cO (bN s.2).length/\cO (bN s.2).length<=4:=by
 obtain⟨h1,h2,h3⟩:=jH h;obtain⟨m1,m2⟩:=iJ h2;refine⟨by simp[cC,h],?_,?_⟩<;>(unfold cO;omega)
theorem yN{s:Int×DState}(h:fK s=true){p:Nat}(hp:p<(cC s).length):(cC s)[p]=fx (dD s p):=by
 simp[cC,h]
def hL:List (List Int)->Option (List Int)
 |[]=>some []
 |r::l=>match gj r with
  |some x=>if 6<=x.length then(hL l).map λy=>(x.drop 4).take (x.length-6)++y else none
  |none=>none
def cT(rows:List (List Int)):Option (Int×DState):=match hL rows with
 |some l=>match gi l with
  |some s=>if cC ((rows.getD 0 []).getD 0 0,s)==rows&& !rows.isEmpty then some ((rows.getD 0 []).getD 0 0,s)else none
  |none=>none
 |none=>none
theorem mo{rows:List (List Int)}{s:Int×DState}(h:cT rows=some s):fK s=true/\cC s=rows:=by
 unfold cT at h;split at h
 ·split at h
  ·split at h
   ·rename_i hc;injection h with h
    subst h;simp only[and_eq_true,beq_iff_eq,Bool.not_eq_true']at hc;refine⟨?_,hc.1⟩;cases ho:fK ((rows.getD 0 []).getD 0 0,_)with
    |true=>rfl
    |false=>
     have e:=hc.1;simp only[cC,ho]at e;rw[<-e]at hc;simp at hc
   ·cases h
  ·cases h
 ·cases h
theorem Ed{s:Int×DState}(h:fK s=true){r:List Int}{l:List (List Int)}(e:cC s=r::l):4<=r.length/\r.getD 3 0=((bN s.2).length:Int)/\r.getD 0 0=s.1:=by
 obtain⟨hl,h1,h2⟩:=jI h;have h0:0<(cC s).length:=aa;have:=yN h h0;simp only[e,List.getElem_cons_zero]at this;rw[this];simp[fx,dD]
theorem ER{r:List Int}{l:List (List Int)}{s:Int×DState}(h:cT (r::l)=some s):4<=r.length/\(7<=r.getD 3 0/\r.getD 3 0<=67)/\l.length+1=cO (r.getD 3 0).toNat:=by
 obtain⟨ho,hr⟩:=mo h;obtain⟨f1,f2,_⟩:=Ed ho hr;obtain⟨h1,h2,h3⟩:=jH ho;obtain⟨m1,m2⟩:=iJ h2;have:=(jI ho).1;rw[hr]at this;refine⟨f1,aa,?_⟩;rw[f2];simpa using this
def dJ(d:DDisk)(slot:Int)(n:Nat):List (List Int):=(List.range n).map λi:Nat=>ij d (slot*4+(i:Int))
def nQ(d:DDisk)(slot:Int):List Int:=ij d (slot*4)
def fF(d:DDisk)(slot:Int):Nat:=cO ((nQ d slot).getD 3 0).toNat
def qp(d:DDisk)(slot:Int):Bool:=decide (4<=(nQ d slot).length)&&aJ ((nQ d slot).getD 3 0) 1 80
def gY(d:DDisk)(slot:Int):Option (Int×DState):=if qp d slot then cT (dJ d slot (fF d slot))else none
theorem EZ(d:DDisk)(slot:Int)(n:Nat):∃l,dJ d slot (n+1)=nQ d slot::l/\l.length=n:=by
 refine⟨(List.range n).map λi=>ij d (slot*4+((i+1:Nat):Int)),?_,by simp⟩;simp only[dJ,nQ,List.range_succ_eq_map,List.map_cons,List.map_map];congr 1;simp
theorem E3{d:DDisk}{slot:Int}{n:Nat}{s:Int×DState}(h:cT (dJ d slot n)=some s):qp d slot=true/\n=fF d slot:=by
 cases n with
 |zero=>
  obtain⟨ho,hr⟩:=mo h;have:=(jI ho);rw[hr]at this;simp only[dJ,List.range_zero,List.map_nil,length_nil]at this;omega
 |succ n=>
  obtain⟨l,e,hl⟩:=EZ d slot n;rw[e]at h;obtain⟨f1,f2,f3⟩:=ER h;refine⟨?_,by unfold fF;omega⟩;simp only[qp,aJ,and_eq_true,decide_eq_true_eq];omega
def gV(d:DDisk):Option (Int×DState)×Int:=match gY d 0,gY d 1 with
 |some a,some b=>if a.1<b.1 then(some b,1)else(some a,0)
 |some a,none=>(some a,0)
 |none,some b=>(some b,1)
 |none,none=>(none,0)
theorem vV{d:DDisk}{slot:Int}{s:Int×DState}(h:gY d slot=some s):fK s=true:=by
 unfold gY at h;split at h
 ·exact(mo h).1
 ·cases h
theorem OY{d:DDisk}{s:Int×DState}{k:Int}(h:gV d=(some s,k)):fK s=true/\(k=0\/k=1):=by
 unfold gV at h;split at h
 ·rename_i a b ha hb;split at h<;>(injection h with h1 h2;injection h1 with h1;subst h1 h2)
  ·exact⟨vV hb,.inr rfl⟩
  ·exact⟨vV ha,.inl rfl⟩
 ·rename_i a ha hb;injection h with h1 h2;injection h1 with h1;subst h1 h2;exact⟨vV ha,.inl rfl⟩
 ·rename_i b ha hb;injection h with h1 h2;injection h1 with h1;subst h1 h2;exact⟨vV hb,.inr rfl⟩
 ·injection h with h1;cases h1
def qB(k:List (List Int))(slot:Int):Nat->List (List Int)
 |0=>k
 |n+1=>(qB k slot n).set (slot*4+n).toNat []
def sG(d:DDisk)(slot:Int):DDisk:=⟨qB (lC d.kept d.wait) slot 4,[]⟩
theorem v7(k:List (List Int))(slot:Int):∀n,(qB k slot n).length=k.length
 |0=>rfl
 |n+1=>by simp[qB,v7 k slot n]
theorem LC{k:List (List Int)}{slot:Int}(h:∀y∈k,ck y=true):∀n,∀y∈qB k slot n,ck y=true
 |0,y,hy=>h y hy
 |n+1,y,hy=>by
  rcases List.mem_or_eq_of_mem_set hy with hy|rfl
  ·exact LC h n y hy
  ·rfl
theorem va{d:DDisk}(h:eZ d=true)(slot:Int):eZ (sG d slot)=true:=by
 simp only[eZ,and_eq_true,decide_eq_true_eq]at h⊢;obtain⟨f1,f2,f3,f4,f5⟩:=cL (tZ h.1);refine⟨nI ⟨?_,?_,by simp[sG],LC f4 4,by simp[sG]⟩,?_⟩<;>simp only[sG,v7,f9]<;>omega
def cV (s : DStore) : Option DStore := if eZ s.disk && s.disk.wait.isEmpty then some (match gV s.disk with
 |(some h,k)=>⟨sG s.disk (1-k),h.2,h.1,h.2.index,0⟩
 |(none,_)=>⟨sG (sG s.disk 0) 1,gZ,0,0,0⟩)else none
theorem pu{s m:DStore}(h:cV s=some m):jJ m=true:=by
 unfold cV at h;split at h
 ·rename_i hc;simp only[and_eq_true]at hc;injection h with h
  subst h;split
  ·rename_i x k hn;obtain⟨h1,h2⟩:=OY hn;obtain⟨g1,g2,g3⟩:=jH h1;obtain⟨i1,_⟩:=dS g2;simp only[jJ,va hc.1,g2,aJ,and_eq_true,Bool.or_eq_true,decide_eq_true_eq,beq_iff_eq,true_and];refine⟨⟨⟨aa,aa⟩,?_⟩,.inl trivial⟩;have e1:(x.1==0)=false:=al;have e2:(x.2.index==0)=false:=by simpa using g3
   rw[e1,e2]
  ·simp only[jJ,va (va hc.1 0) 1,Bool.true_and];rfl
 ·cases h
def kM:List (List Nat):=cz [0,1,0,0,4,324,811269,118768003,8873454354759]
def kQ:List (List Nat):=eK 8 [6552,6553,710,26,53,134,368,1097]
def pt(o:Option (List Int)):AP:= .tup [.one (.sl ((o.getD []).map eI)),.one (dB o.isSome)]
theorem qz{l:List Int}(h:ck l=false\/l=[]\/kF l.dropLast≠l.getLastD 0):gj l=none:=by
 unfold gj;rcases h with h|h|h
 ·simp[h]
 ·simp[h]
 ·have:(kF l.dropLast==l.getLastD 0)=false:=by simpa using h
  rw[this,Bool.and_false];rfl
theorem uU(l:List Int):aL av 359 [.one (.sl (l.map eI))] (pt (gj l)):=by
 cases hr:ck l with
 |false=>
  have n1:(!ck l)=true:=by rw[hr];rfl
  rw[qz (.inl hr)];unfold pt;refine pO func359 call359 ntmps359 results359 λS=>?_;conv=>whnf
  repeat'(first|refine awz ?_|(refine cP (eG l) ?_;conv=>whnf)|exact rZ|fail)
 |true=>
  have n1:(!ck l)=false:=by rw[hr];rfl
  by_cases hn:l=[]
  ·have n2:(((l.map eI).length:Int)==0)=true:=by simp[hn]
   rw[qz (.inr (.inl hn))];unfold pt;refine pO func359 call359 ntmps359 results359 λS=>?_;conv=>whnf
   repeat'(first|refine awz ?_|(refine cP (eG l) ?_;conv=>whnf)|exact rZ|fail)
  ·have n2:(((l.map eI).length:Int)==0)=false:=by simp[hn]
   have hpos:0<l.length:=List.length_pos_iff.2 hn;have h48:=dG hr;have hd:ck l.dropLast=true:=zu hr ah (λx hx=>List.dropLast_subset _ hx);have hcut:((l.map eI).take (l.length-1)).drop 0=l.dropLast.map eI:=by rw[List.drop_zero,<-List.map_take,List.dropLast_eq_take]
   have hlast:(l.map eI)[l.length-1]? =some (eI (l.getLastD 0)):=by
    rw[List.getElem?_map,<-List.getLast?_eq_getElem?,List.getLast?_eq_some_getLast hn,List.getLastD_eq_getLast?,List.getLast?_eq_some_getLast hn];rfl
   have so:=D6 l.dropLast hd;have hdl:l.dropLast.length<=1048576:=al;by_cases hs:kF l.dropLast=l.getLastD 0
   ·have e:gj l=some l.dropLast:=by
     unfold gj;have e2:l.isEmpty=false:=by simpa using hn
     rw[hr,e2,hs];simp
    have n3:(!(kF l.dropLast==l.getLastD 0))=false:=by simp[hs]
    rw[e];unfold pt;refine pO func359 call359 ntmps359 results359 λS=>?_;conv=>whnf
    repeat'((first|refine awz ?_|refine cP (eG l) ?_|(refine⟨0,l.length-1,rfl,(by show _=_;simp;omega),Nat.zero_le _,ah,(by intro y hy;obtain⟨a,_,rfl⟩:=List.mem_map.1 hy;rfl),?_⟩;rw[hcut])|refine cP (d8 l.dropLast hdl) ?_|refine Xz ari ari ?_|fail)<;>conv=>whnf)
    (refine XB aM 4 8 kM kQ ac ac ac rfl ?_;conv=>whnf)
    repeat'((first|refine awz ?_|refine cP (so) ?_|refine Xw (l.length-1) _ al hlast ?_|refine Xz ari ari ?_|exact rZ|fail)<;>conv=>whnf)
    done
   ·have n3:(!(kF l.dropLast==l.getLastD 0))=true:=by simpa using hs
    rw[qz (.inr (.inr hs))];unfold pt;refine pO func359 call359 ntmps359 results359 λS=>?_;conv=>whnf
    repeat'((first|refine awz ?_|refine cP (eG l) ?_|(refine⟨0,l.length-1,rfl,(by show _=_;simp;omega),Nat.zero_le _,ah,(by intro y hy;obtain⟨a,_,rfl⟩:=List.mem_map.1 hy;rfl),?_⟩;rw[hcut])|refine cP (d8 l.dropLast hdl) ?_|refine Xz ari ari ?_|fail)<;>conv=>whnf)
    (refine XB aM 4 8 kM kQ ac ac ac rfl ?_;conv=>whnf)
    repeat'((first|refine awz ?_|refine cP (so) ?_|refine Xw (l.length-1) _ al hlast ?_|refine Xz ari ari ?_|exact rZ|fail)<;>conv=>whnf)
    done
theorem GD{k:List (List Int)}{l:List DWrite}{a:Int}{j:Nat}(hj:j<l.length)(h1:l[j].at_=a)(h2:∀(i:Nat) (hi:i<l.length),j<i->l[i].at_≠a):sx k l a=l[j].row:=by
 have e:l.reverse.find? (λw=>w.at_==a)=some l[j]:=by
  have e0:l=l.take j++l[j]::l.drop (j+1):=by rw[<-List.drop_eq_getElem_cons hj,List.take_append_drop]
  have hn:(l.drop (j+1)).reverse.find? (λw=>w.at_==a)=none:=by
   rw[List.find?_eq_none];intro w hw;obtain⟨i,hi,rfl⟩:=List.getElem_of_mem (List.mem_reverse.1 hw);rw[List.getElem_drop];simp only[List.length_drop]at hi;have:=h2 (j+1+i) aa aa;simpa using this
  conv=>lhs;rw[e0]
  rw[List.reverse_append,List.reverse_cons,List.append_assoc,List.find?_append,hn];simp[h1]
 unfold sx;rw[e]
theorem DP{k:List (List Int)}{l:List DWrite}{a:Int}(h:∀(i:Nat) (hi:i<l.length),l[i].at_≠a):sx k l a=k.getD a.toNat []:=by
 have e:l.reverse.find? (λw=>w.at_==a)=none:=by
  rw[List.find?_eq_none];intro w hw;obtain⟨i,hi,rfl⟩:=List.getElem_of_mem (List.mem_reverse.1 hw);simpa using h i hi
 unfold sx;rw[e]
theorem zv(d:DDisk)(a:Int)(h:db d=true)(ha:aJ a 0 ((d.kept.length:Int)-1)=true):aL av 311 [.agg d.ds,pI a] (.tup [.one (.sl ((ij d a).map eI)),.one (dB true)]):=by
 obtain⟨f1,f2,f3,f4,f5⟩:=cL h;have n1:(!db d)=false:=by rw[h];rfl
 have n2:(!aJ a 0 ((d.kept.length:Int)-1))=false:=by rw[ha];rfl
 have har:0<=a/\a<=(d.kept.length:Int)-1:=by simpa[aJ]using ha
 refine pO func311 call311 ntmps311 results311 λS=>?_;conv=>whnf
 repeat'((first|refine awz ?_|refine cP (d7 d) ?_|refine cP (fr d a f2) ?_|refine Xz ari ari ?_|fail)<;>conv=>whnf)
 refine XA (λk:Nat=>k<=d.wait.length/\∀(i:Nat) (hi:i<d.wait.length),k<=i->d.wait[i].at_≠a) (4::5::6::rg 21 19) (λk=>[(6,vI .i64 ((k:Int)-1))]) (λk=>[(2,.cells 69 (d.ds.map .d))]) (λk=>k) (d.wait.map DWrite.ds).length ⟨by simp,λi hi hk=>by simp at hk;omega⟩ ?_ sbW (λk hk=>?_)<;>(conv=>whnf)
 ·exact whd
 ·obtain⟨hk,hall⟩:=hk;cases k with
  |zero=>
   have hc:decide (((0:Nat):Int)-1>=0)=false:=ae;have e:ij d a=d.kept[a.toNat]'(aa):=by
    show sx d.kept d.wait a=_;rw[DP λi hi=>hall i hi (Nat.zero_le _),List.getD_eq_getElem?_getD,List.getElem?_eq_getElem aa];first|rfl|done
   have h48:=dG (f4 _ (getElem_mem (show a.toNat<d.kept.length by omega)));rw[e];repeat'((first|refine awz ?_|refine AIx.int har.1 aa ?_|refine cP (d8 (d.kept[a.toNat]'(aa)) aa) ?_|exact rZ|fail)<;>conv=>whnf)
  |succ k=>
   have hlt:k<d.wait.length:=aa;have hc:decide ((((k+1:Nat):Int)-1)>=0)=true:=by simp only[decide_eq_true_eq,ge_iff_le];omega
   have hix:(((k+1:Nat):Int)-1)=(k:Int):=aa;have h48:=dG (fy (f5 _ (getElem_mem hlt))).2;by_cases hw:d.wait[k].at_=a
   ·have e:ij d a=d.wait[k].row:=GD hlt hw λi hi hki=>hall i hi hki;have hb:(d.wait[k].at_==a)=true:=by simpa using hw
    rw[e];repeat'((first|refine awz ?_|refine Xw k (DWrite.ds d.wait[k]) hix (by simp[hlt]) ?_|refine cP (d8 d.wait[k].row aa) ?_|exact rZ|fail)<;>conv=>whnf)
   ·have hb:(d.wait[k].at_==a)=false:=by simpa using hw
    repeat'((first|refine awz ?_|refine Xw k (DWrite.ds d.wait[k]) hix (by simp[hlt]) ?_|refine Xz aa aa ?_|fail)<;>conv=>whnf)
    refine aT.mk ⟨k,⟨aa,λi hi hki=>?_⟩,aa,?_,sbW⟩
    ·rcases Nat.eq_or_lt_of_le hki with e|e
     ·subst e;exact hw
     ·exact hall i hi e
    ·rw[hix];exact hds
theorem D2(a b:List Int)(ha:a.length<=1048576):aL av 360 [.one (.sl (a.map eI)),.one (.sl (b.map eI))] (rB (decide (a=b))):=by
 by_cases hl:a.length=b.length
 ·have n1:(((a.map eI).length:Int) !=((b.map eI).length:Int))=false:=by simp[hl]
  refine pO func360 call360 ntmps360 results360 λS=>?_;conv=>whnf
  repeat'(first|refine awz ?_|fail)
  refine XA (λk:Nat=>k<=a.length/\∀(j:Nat) (h1:j<a.length) (h2:j<b.length),j<k->a[j]=b[j]) (4::5::rg 11 15) (λk=>[(5,vI .i64 (k:Int))]) (λk=>[]) (λk=>a.length-k) 0 ⟨Nat.zero_le _,λj _ _ h=>by omega⟩ ?_ Xv (λk hk=>?_)<;>(conv=>whnf)
  ·exact whd
  ·obtain⟨hk,hall⟩:=hk;by_cases hlt:k<a.length
   ·have hlt2:k<b.length:=aa;have hc:decide ((k:Int)<((a.map eI).length:Int))=true:=by simp only[decide_eq_true_eq,length_map];omega
    by_cases he:a[k]=b[k]
    ·have hb:(a[k] !=b[k])=false:=by simpa using he
     repeat'(first|refine awz ?_|fail)
     (refine XB aM 6 8 aU aR ac ac ac rfl ?_;conv=>whnf)
     repeat'((first|refine awz ?_|refine XK hlt ?_|refine XK hlt2 ?_|refine Xz aa aa ?_|fail)<;>conv=>whnf)
     refine aT.mk ⟨k+1,⟨aa,λj h1 h2 hj=>?_⟩,aa,?_,Xv⟩
     ·rcases Nat.eq_or_lt_of_le (Nat.le_of_lt_succ hj)with e|e
      ·subst e;exact he
      ·exact hall j h1 h2 e
     ·exact hds
    ·have hb:(a[k] !=b[k])=true:=by simpa using he
     have e:decide (a=b)=false:=by
      rw[decide_eq_false_iff_not];intro e;subst e;exact he rfl
     rw[e];repeat'(first|refine awz ?_|fail)
     (refine XB aM 6 8 aU aR ac ac ac rfl ?_;conv=>whnf)
     repeat'((first|refine awz ?_|refine XK hlt ?_|refine XK hlt2 ?_|exact rZ|fail)<;>conv=>whnf)
   ·have hc:decide ((k:Int)<((a.map eI).length:Int))=false:=by simp only[decide_eq_false_iff_not,length_map];omega
    have e:decide (a=b)=true:=by
     rw[decide_eq_true_eq];exact List.ext_getElem hl λj h1 h2=>hall j h1 h2 aa
    rw[e];repeat'(first|refine awz ?_|exact rZ|fail)
 ·have n1:(((a.map eI).length:Int) !=((b.map eI).length:Int))=true:=by simp only[length_map,bne_iff_ne,ne_eq];omega
  have e:decide (a=b)=false:=by
   rw[decide_eq_false_iff_not];intro e;exact hl (by rw[e])
  rw[e];refine pO func360 call360 ntmps360 results360 λS=>?_;conv=>whnf
  repeat'(first|refine awz ?_|exact rZ|fail)
theorem D1(t:DTwo)(a:Int)(h:eO t=true)(ha:aJ a 0 ((t.a.kept.length:Int)-1)=true):aL av 299 [.agg t.ds,pI a] (.val (.one (.sl ((eY t a).map bD)))):=by
 obtain⟨f1,f2,f3⟩:=dQ h;have h40:=(cL f1).2.1;have n1:(!eO t)=false:=by rw[h];rfl
 have n2:(!aJ a 0 ((t.a.kept.length:Int)-1))=false:=by rw[ha];rfl
 have c1:=zv t.a a f1 ha;have c2:=zv t.b a f2 (by rw[<-f3];exact ha);have u1:=uU (ij t.a a);have u2:=uU (ij t.b a);unfold eY;cases e1:gj (ij t.a a)with
 |none=>
  rw[e1]at u1;cases e2:gj (ij t.b a)with
  |none=>
   rw[e2]at u2;refine pO func299 call299 ntmps299 results299 λS=>?_;conv=>whnf
   repeat'((first|refine awz ?_|refine cP (eJ t) ?_|refine cP (fr t.a a h40) ?_|refine cP (c1) ?_|refine cP (c2) ?_|refine cP (u1) ?_|refine cP (u2) ?_|exact rZ|fail)<;>conv=>whnf)
  |some y=>
   rw[e2]at u2;refine pO func299 call299 ntmps299 results299 λS=>?_;conv=>whnf
   repeat'((first|refine awz ?_|refine cP (eJ t) ?_|refine cP (fr t.a a h40) ?_|refine cP (c1) ?_|refine cP (c2) ?_|refine cP (u1) ?_|refine cP (u2) ?_|refine bc ak ?_|exact rZ|fail)<;>conv=>whnf)
 |some x=>
  rw[e1]at u1;have hx:=dG (dR e1).1;cases e2:gj (ij t.b a)with
  |none=>
   rw[e2]at u2;refine pO func299 call299 ntmps299 results299 λS=>?_;conv=>whnf
   repeat'((first|refine awz ?_|refine cP (eJ t) ?_|refine cP (fr t.a a h40) ?_|refine cP (c1) ?_|refine cP (c2) ?_|refine cP (u1) ?_|refine cP (u2) ?_|refine bc ak ?_|exact rZ|fail)<;>conv=>whnf)
  |some y=>
   rw[e2]at u2;have sr:=D2 x y aa;by_cases hxy:x=y
   ·have hb:(x==y)=true:=by simpa using hxy
    have hd:decide (x=y)=true:=by simpa using hxy
    rw[hd]at sr;simp only[hb,if_true];refine pO func299 call299 ntmps299 results299 λS=>?_;conv=>whnf
    repeat'((first|refine awz ?_|refine cP (eJ t) ?_|refine cP (fr t.a a h40) ?_|refine cP (c1) ?_|refine cP (c2) ?_|refine cP (u1) ?_|refine cP (u2) ?_|refine cP (sr) ?_|refine bc ak ?_|exact rZ|fail)<;>conv=>whnf)
   ·have hb:(x==y)=false:=by simpa using hxy
    have hd:decide (x=y)=false:=by simpa using hxy
    rw[hd]at sr;simp only[hb,if_false,Bool.false_eq_true];refine pO func299 call299 ntmps299 results299 λS=>?_;conv=>whnf
    repeat'((first|refine awz ?_|refine cP (eJ t) ?_|refine cP (fr t.a a h40) ?_|refine cP (c1) ?_|refine cP (c2) ?_|refine cP (u1) ?_|refine cP (u2) ?_|refine cP (sr) ?_|refine bc ak ?_|exact rZ|fail)<;>conv=>whnf)
def d6(lo hi:Nat)(cs ds:List AD):Prop:=
 cs.length=ds.length/\∃Q:Nat->Nat->Prop,(∀i b,Q i b->lo<=b/\b<hi)/\(∀i j b,Q i b->Q j b->i=j)/\∀(i:Nat) c d,cs[i]? =some c->ds[i]? =some d->∀(Z:Nat->Prop) (w:World) (u:Value),ca Z w c u->cf w (λb=>Q i b/\Z b) d u
theorem d6.fam{lo hi:Nat}{cs ds:List AD}(h:d6 lo hi cs ds):Fam lo hi cs ds:=by
 obtain⟨hl,Q,q,eQ,rQ⟩:=h;refine⟨hl,λZ w us hu hr=>⟨by rw[hu,hl],λi b=>Q i b/\Z b,λi b h=>⟨(q i b h.1).1,(q i b h.1).2,h.2⟩,λi j b h h'=>eQ i j b h.1 h'.1,λi a u ha hx=>?_⟩⟩;have hi:i<cs.length:=by rw[hl];exact(List.getElem?_eq_some_iff.1 ha).1
 exact rQ i cs[i] a (List.getElem?_eq_getElem hi) ha Z w u (hr i _ u (List.getElem?_eq_getElem hi) hx)
theorem d6.set{lo hi:Nat}{cs ds:List AD}(h:d6 lo hi cs ds)(k:Nat){d:AD}(hb:d.isBl=true):d6 lo hi (cs.set k d) (ds.set k d):=by
 obtain⟨hl,Q,q,eQ,rQ⟩:=h;refine⟨by simp[hl],λi b=>i≠k/\Q i b,λi b h=>q i b h.2,λi j b h h'=>eQ i j b h.2 h'.2,λi c a hc ha Z w u hr=>?_⟩;rw[List.getElem?_set]at hc ha;by_cases hk:k=i
 ·rw[if_pos hk]at hc ha;split at hc
  ·split at ha
   ·injection hc with hc
    injection ha with ha
    subst hc ha;exact Iu hb hr
   ·cases ha
  ·cases hc
 ·rw[if_neg hk]at hc ha;exact(rQ i c a hc ha Z w u hr).mono λb hb=>⟨⟨λe=>hk e.symm,hb.1⟩,hb.2⟩
section
variable {E:bz} {S:bR}
theorem X9{f:FuncId}{args:List AV}{tm:List AV}{ob:List (Nat×AO)}{K:AV->ASt->Prop}{ps:List AP1}{res:AP1}{m:Nat}(hc:cg E f ps res)(hps:aRs ob args (· =ps))(hm:aOb ob 9997 λo=>o=cS S.w0.heap.size m)
  (hk:∀R lo hi,m<=lo->lo<=hi->d6 lo hi (cW R 0 (fe res)) (fe res)->fW 9997 (cS S.w0.heap.size hi) ob λob=>K (KB R res) ⟨tm,ob⟩):aG E S f args ⟨tm,ob⟩ K:=by
 refine⟨hc.enter,λZ ρ a w us hs hl hr=>?_⟩;obtain⟨ps',h1,h2,rfl⟩:=gE hs.ws hl hr hps;obtain⟨o,ho,rfl⟩:=cm hm;have hmark:=yx (hs.ws.obj 9997 _ ho);have hρ:ρ 9997=undef:=(hs.ws.obj 9997 _ ho).1;have hmle:m<=w.heap.size:=by
  rcases hmark with h|⟨k,e,h⟩
  ·exact Nat.le_trans h hs.ws.size
  ·have:=hs.ws.zlt k h;omega
 refine(hc.run (gU Z ρ ob) w us (gU.lt hs.ws) ?_ h1 h2).mono ?_
 ·obtain⟨w1,g1,g2,g3⟩:=hs.ws.g;exact⟨w1,g1,g2,λb hb=> .inl (g3 b hb)⟩
 ·rintro e w' ⟨v,rfl,hb,hv⟩;have hsz:=hb.size;obtain⟨us',hf,hvu⟩:∃us',dF w' (λb=>w.heap.size<=b/\b<w'.heap.size) (fe res) us'/\(match res with| .one _=>us'=[v]| .agg _=>v= .agg us'.toArray):=by
   cases res with
   |one d=>exact⟨[v],hv,rfl⟩
   |agg ds=>obtain⟨us',e,h⟩:=hv;exact⟨us',h,e⟩
  obtain⟨lF,Q,q,eQ,rQ⟩:=hf;let R:Nat->(Nat->Prop)->World->Value->Prop:=λi Zx wx u=>(∀b,Q i b->Zx b)/\∃a,(fe res)[i]? =some a/\cf wx (Q i) a u
  let Z':Nat->Prop:=λb=>Z b\/(w.heap.size<=b/\b<w'.heap.size)
  have hg:=hs.grow (Z':=Z') (dO hb) (λb h=> .inl h) λb h=>h;have hcell:∀(i:Nat) c u,(cW R 0 (fe res))[i]? =some c->us'[i]? =some u->ca Z' w' c u:=by
   intro i c u hc hu;obtain⟨d,hd,h⟩:=lc R hc;have ht:=rQ i d u hd hu;rcases h with⟨x,rfl,rfl⟩|h
   ·cases ht with|pv _ _ h1=>exact .pv _ h1
   ·rw[Nat.zero_add]at h;subst h;refine .x _ _ ht.one λZx wx hzx hbx=>⟨λb hb=>hzx b (.inr (q i b hb)),d,hd,ht.keep λb hb=>hbx b (.inr (q i b hb))⟩
  have hfam:∀lo hi:Nat,(∀b,w.heap.size<=b->b<w'.heap.size->lo<=b/\b<hi)->d6 lo hi (cW R 0 (fe res)) (fe res):=by
   intro lo hi hlh;refine⟨eg R _ _,Q,λi b h=>hlh b (q i b h).1 (q i b h).2,eQ,λi c a hc ha Zx wx u hrel=>?_⟩;obtain⟨d,hd,h⟩:=lc R hc;rw[ha]at hd;injection hd with hd
   subst hd;rcases h with⟨x,e1,e2⟩|h
   ·rw[e2]at hrel;rw[e1];cases hrel with|pv _ h1=>exact .pv _ _ h1
   ·rw[h,Nat.zero_add]at hrel;cases hrel with
    |x _ _ h1 hR=>
     obtain⟨hz,a',ha',ht⟩:=hR Zx wx (λ_ h=>h) λ_ _=>rfl;rw[ha]at ha';injection ha' with ha'
     subst ha';exact ht.mono λb hb=>⟨hb,hz b hb⟩
  have hval:cn Z' w' ρ (KB R res) v:=by
   cases res with
   |one d=>
    simp only at hvu;subst hvu;cases d with
    |pv x=>exact .one _ _ (hcell 0 (.pv x) v rfl rfl)
    |sl xs=>exact .one _ _ (hcell 0 (.x (R 0)) v rfl rfl)
    |x R'=>exact .one _ _ (hcell 0 (.x (R 0)) v rfl rfl)
   |agg ds=>
    simp only at hvu;subst hvu;refine .agg _ us' (by rw[length_map,eg];exact lF) λi c u hc hu=>?_;rw[List.getElem?_map]at hc;obtain⟨d,hd,rfl⟩:=Option.map_eq_some_iff.1 hc;exact hcell i d u hd hu
  have fin:∀hi:Nat,(hi<=S.w0.heap.size\/∃k,hi=k+1/\Z' k)->Sim E.W S Z' ρ ⟨tm,eD ob 9997 (cS S.w0.heap.size hi)⟩ a w':=λhi h=>
   ⟨hg.ws.reframe (me hρ h),hg.len,hg.tm,hg.df⟩
  by_cases hlt:w.heap.size<w'.heap.size
  ·refine⟨v,_,_,Z',ρ,rfl,fin w'.heap.size (.inr ⟨w'.heap.size-1,aa,.inr aa⟩),hval,dh (K:=λob=>K (KB R res) ⟨tm,ob⟩) (hk R w.heap.size w'.heap.size hmle hsz (hfam _ _ λb h1 h2=>⟨h1,h2⟩))⟩
  ·refine⟨v,_,_,Z',ρ,rfl,fin m ?_,hval,dh (K:=λob=>K (KB R res) ⟨tm,ob⟩) (hk R m m (Nat.le_refl _) (Nat.le_refl _) (hfam _ _ λb h1 h2=>by omega))⟩;rcases hmark with h|⟨k,e,h⟩
   ·exact .inl h
   ·exact .inr ⟨k,e,.inl h⟩
end
end
section
def Ng:DSched:=⟨0,0,⟨⟨0,0,0,0,0,[]⟩⟩,false,⟨0,0,0,0,0⟩,0⟩
def IL:DClient:=⟨0,[],[],0⟩
def oB:DWorld:=⟨⟨⟨⟨[],[]⟩,⟨[],[]⟩⟩,⟨0,0,0,[]⟩,⟨0,0,0,[]⟩,false,⟨0,0,[]⟩,[],0,[]⟩,⟨⟨[],[]⟩,⟨0,0,[],[],⟨0,0,0⟩⟩,0,0,0⟩,Ng,Ng,IL,IL,⟨[],[]⟩,[],[]⟩
theorem IM:XO 1048576 oB:=by
 simp[oB,Ng,IL,XO,XT,X3,XZ,XU,Yf,X8,XV,XW,X5,X1,X6,Ya]
theorem PJ:oB.ds.all AD.isBl=true:=rfl
end
section
def cQ(x:DWorld)(n:Nat):Option DWorld:=
 if ju x n then none else match n with
 |0=>(dr x.log).map λl=>{x with log:=l,up:=x.up.set 0 true}
 |1=>(cV x.store).map λs=>{x with store:=s,up:=x.up.set 1 true}
 |n=>some {x with up:=x.up.set n true}
def bX(x:DWorld):Nat->DWorld
 |0=>x
 |n+1=>(cQ (bX x n) n).getD (bX x n)
def ik(x:DWorld):DWorld:=if hE x then bX x 4 else oB
theorem RM{l:List Bool}{n k:Nat}(hl:l.length=6)(hn:n<=3):(l.set n true).getD k false=if n=k then true else l.getD k false:=by
 rw[List.getD_eq_getElem?_getD,List.getElem?_set];split
 ·rename_i h;subst h;rw[if_pos aa];rfl
 ·rw[List.getD_eq_getElem?_getD]
theorem MU{x y:DWorld}{n:Nat}(hn:n<=3)(hw:hE x=true)(h:cQ x n=some y):hE y=true:=by
 unfold cQ at h;split at h
 ·cases h
 ·rw[jy]at hw⊢;simp only[and_eq_true,decide_eq_true_eq,ju]at hw⊢;obtain⟨⟨⟨⟨⟨⟨c1,c2⟩,c3⟩,⟨⟨⟨⟨⟨u4,u5⟩,a1⟩,a2⟩,b1⟩,b2⟩⟩,⟨s1,s2⟩⟩,l1⟩,l2⟩:=hw;split at h
  ·cases hr:dr x.log with
   |none=>rw[hr]at h;cases h
   |some l=>
    rw[hr]at h;injection h with h
    subst h;have hl:=uP hr;simp only[RM c2 hn,length_set];exact⟨⟨⟨⟨⟨⟨c1,c2⟩,c3⟩,⟨⟨⟨⟨⟨u4,u5⟩,a1⟩,a2⟩,b1⟩,b2⟩⟩,⟨s1,s2⟩⟩,hl⟩,l2⟩
  ·cases hr:cV x.store with
   |none=>rw[hr]at h;cases h
   |some l=>
    rw[hr]at h;injection h with h
    subst h;have hl:=pu hr;simp only[RM c2 hn,length_set];exact⟨⟨⟨⟨⟨⟨c1,c2⟩,c3⟩,⟨⟨⟨⟨⟨u4,u5⟩,a1⟩,a2⟩,b1⟩,b2⟩⟩,⟨s1,s2⟩⟩,l1⟩,hl⟩
  ·injection h with h
   subst h;rename_i h0 h1;have e0:n≠0:=h0;have e1:n≠1:=h1;simp only[RM c2 hn,length_set,if_neg e0,if_neg e1];refine⟨⟨⟨⟨⟨⟨c1,c2⟩,c3⟩,⟨⟨⟨⟨⟨?_,?_⟩,a1⟩,a2⟩,b1⟩,b2⟩⟩,⟨?_,?_⟩⟩,l1⟩,l2⟩
   ·rw[if_neg aa];exact u4
   ·rw[if_neg aa];exact u5
   ·unfold fd at s1⊢;split
    ·simp_all
    ·exact s1
   ·unfold fd at s2⊢;split
    ·simp_all
    ·exact s2
theorem zt{x:DWorld}(hw:hE x=true):∀n,n<=4->hE (bX x n)=true
 |0,_=>hw
 |n+1,h=>by
  have ih:=zt hw n aa;show hE ((cQ (bX x n) n).getD (bX x n))=true;cases e:cQ (bX x n) n with
  |none=>exact ih
  |some y=>exact MU aa ih e
end
end
section
variable {l:List DJob}{k:Nat}
def qM:List (List Nat):=cz [0,0,0,194,4,5,0,0,519,9,10,710,769,0xd30b28920718510308134d]
def pF:List (List Nat):=cz [0,0,0,194,4,5,0,0,519,9,10,0,0,844,14,15,0,0,1169,19,20,0,0,1494,24,25,441778886,1729,0x71b69961759551349140f38d30b28920718510308171c]
theorem Dg(h:dA l=true):l.length<=8:=by
 simp only[dA,Bool.and_eq_true,decide_eq_true_eq]at h;exact h.1.1.1
def iF(l:List DPair)(k:Nat):List Int:=(l.length:Int)::(l.take k).flatMap λp=>[p.key,p.value]
theorem DL(l:List DPair)(k:Nat):(iF l k).length<=1+5*l.length:=by
 have h1:(l.take k).length<=l.length:=by rw[List.length_take];omega
 have h2:∀m:List DPair,(m.flatMap λp=>[p.key,p.value]).length<=5*m.length:=by
  intro m;induction m with
  |nil=>simp
  |cons p r ih=>simp only[flatMap_cons,List.length_append,length_cons,length_nil];omega
 have:=h2 (l.take k);simp only[iF,length_cons];omega
theorem AE{l:List DPair}(hk:k<l.length):(iF l (k+1)).map eI=(iF l k).map eI++((λp:DPair=>[p.key,p.value]) l[k]).map eI:=by
 have e:l.take (k+1)=l.take k++[l[k]]:=by rw[List.take_add_one,List.getElem?_eq_getElem hk];rfl
 unfold iF;rw[e,List.flatMap_append];simp only[List.map_cons,map_append,flatMap_cons,List.flatMap_nil,List.append_nil,List.cons_append]
theorem AU(l:List DPair)(h:da l=true):aL av 438 [.one (.sl (l.map DPair.ds))] (.val (.one (.sl ((jL l).map eI)))):=by
 have hm:=nP h;have n1:(!da l)=false:=by rw[h];rfl
 refine pO func438 call438 ntmps438 results438 λS=>?_;conv=>whnf
 repeat'(first|refine awz ?_|(refine cP (gX l) ?_;conv=>whnf)|fail)
 have E0:([[AD.pv (Value.int .i64 ((l.map DPair.ds).length:Int))]]:List (List AD))=(iF l 0).map eI:=by rw[length_map];rfl
 refine XA (λk:Nat=>k<=l.length) (11::[3,4,12,13,14,15,16,17,18,19,20,21,22,23,24,25,26,27,28,29,30]) (λk=>[(3,.one (.own 11)),(4,vI .i64 (k:Int))]) (λk=>[(11,.row 2 1 ((iF l k).map eI))]) (λk=>l.length-k) 0 (Nat.zero_le _) ?_ (Xu (congrArg some (congrArg (AO.row 2 1) E0)) Xv) (λk hk=>?_)<;>(conv=>whnf)
 ·exact whd
 ·have htl:=DL l k;by_cases hlt:k<l.length
  ·have hc:decide ((k:Int)<((l.map DPair.ds).length:Int))=true:=by simp only[decide_eq_true_eq,length_map];omega
   have hs:=AE hlt;repeat'(first|refine awz ?_|fail)
   (refine XF aM 7 (tkc [0,1,2,3,4,5,6,7,8,9,10] (.one 11 (.one 12 (.take 13 .done)))) [] qM ac ac ac ac (λRz=>?_);(conv=>whnf))
   repeat'((first|refine awz ?_|refine XK hlt ?_|refine bc (by simp only[length_map,length_nil,length_cons]<;>omega) ?_|refine Xz aa aa ?_|fail)<;>conv=>whnf)
   all_goals
    refine aT.mk ⟨k+1,hlt,aa,?_,Xu (by rw[hs];rfl) Xv⟩;exact hds
  ·have e:k=l.length:=aa;subst e;have hc:decide ((l.length:Int)<((l.map DPair.ds).length:Int))=false:=ah;have et:iF l l.length=jL l:=by simp[iF,jL]
   rw[et];repeat'(first|refine awz ?_|exact rZ|fail)
def kU(l:List DJob)(k:Nat):List Int:=(l.length:Int)::(l.take k).flatMap λp=>[p.id,p.due,p.key,p.value,p.fired]
theorem Gk(l:List DJob)(k:Nat):(kU l k).length<=1+5*l.length:=by
 have h1:(l.take k).length<=l.length:=by rw[List.length_take];omega
 have h2:∀m:List DJob,(m.flatMap λp=>[p.id,p.due,p.key,p.value,p.fired]).length<=5*m.length:=by
  intro m;induction m with
  |nil=>simp
  |cons p r ih=>simp only[flatMap_cons,List.length_append,length_cons,length_nil];omega
 have:=h2 (l.take k);simp only[kU,length_cons];omega
theorem Df(hk:k<l.length):(kU l (k+1)).map eI=(kU l k).map eI++((λp:DJob=>[p.id,p.due,p.key,p.value,p.fired]) l[k]).map eI:=by
 have e:l.take (k+1)=l.take k++[l[k]]:=by rw[List.take_add_one,List.getElem?_eq_getElem hk];rfl
 unfold kU;rw[e,List.flatMap_append];simp only[List.map_cons,map_append,flatMap_cons,List.flatMap_nil,List.append_nil,List.cons_append]
theorem yI(l:List DJob)(h:dA l=true):aL av 439 [.one (.sl (l.map DJob.ds))] (.val (.one (.sl ((ot l).map eI)))):=by
 have hm:=Dg h;have n1:(!dA l)=false:=by rw[h];rfl
 refine pO func439 call439 ntmps439 results439 λS=>?_;conv=>whnf
 repeat'(first|refine awz ?_|(refine cP (iS l) ?_;conv=>whnf)|fail)
 have E0:([[AD.pv (Value.int .i64 ((l.map DJob.ds).length:Int))]]:List (List AD))=(kU l 0).map eI:=by rw[length_map];rfl
 refine XA (λk:Nat=>k<=l.length) (11::[3,4,12,13,14,15,16,17,18,19,20,21,22,23,24,25,26,27,28,29,30,31,32,33,34,35,36,37,38,39,40,41,42,43,44,45]) (λk=>[(3,.one (.own 11)),(4,vI .i64 (k:Int))]) (λk=>[(11,.row 2 1 ((kU l k).map eI))]) (λk=>l.length-k) 0 (Nat.zero_le _) ?_ (Xu (congrArg some (congrArg (AO.row 2 1) E0)) Xv) (λk hk=>?_)<;>(conv=>whnf)
 ·exact whd
 ·have htl:=Gk l k;by_cases hlt:k<l.length
  ·have hc:decide ((k:Int)<((l.map DJob.ds).length:Int))=true:=by simp only[decide_eq_true_eq,length_map];omega
   have hs:=Df hlt;repeat'(first|refine awz ?_|fail)
   (refine XF aM 7 (tkc [0,1,2,3,4,5,6,7,8,9,10,11,12,13,14,15,16,17,18,19,20,21,22,23,24,25] (.one 26 (.one 27 (.take 28 .done)))) [] pF ac ac ac ac (λRz=>?_);(conv=>whnf))
   repeat'((first|refine awz ?_|refine XK hlt ?_|refine bc (by simp only[length_map,length_nil,length_cons]<;>omega) ?_|refine Xz aa aa ?_|fail)<;>conv=>whnf)
   all_goals
    refine aT.mk ⟨k+1,hlt,aa,?_,Xu (by rw[hs];rfl) Xv⟩;exact hds
  ·have e:k=l.length:=aa;subst e;have hc:decide ((l.length:Int)<((l.map DJob.ds).length:Int))=false:=ah;have et:kU l l.length=ot l:=by simp[kU,ot]
   rw[et];repeat'(first|refine awz ?_|exact rZ|fail)
theorem AS(l:DLease)(h:iD l=true):aL av 440 [.agg l.ds] (.val (.one (.sl ([l.holder,l.epoch,l.til].map eI)))):=by
 have n1:(!iD l)=false:=by rw[h];rfl
 refine pO func440 call440 ntmps440 results440 λS=>?_;conv=>whnf
 repeat'(first|refine awz ?_|(refine cP (jr l) ?_;conv=>whnf)|exact rZ|fail)
theorem Bl(s:DState)(h:cH s=true):aL av 418 [.agg s.ds] (.val (.one (.sl ((bN s).map eI)))):=by
 obtain⟨h1,h2,h3,h4,h5⟩:=dS h;have hp:=nP h3;have hj:=Dg h4;have lp:(jL s.pairs).length=1+2*s.pairs.length:=by simp only[jL,length_cons,oy];omega
 have lj:(ot s.jobs).length=1+5*s.jobs.length:=by simp only[ot,length_cons,pn];omega
 have n1:(!cH s)=false:=by rw[h];rfl
 refine pO func418 call418 ntmps418 results418 λS=>?_;conv=>whnf
 repeat'((first|refine awz ?_|refine cP (fv s aa) ?_|refine cP (AU s.pairs h3) ?_|refine cP (yI s.jobs h4) ?_|refine cP (AS s.lease h5) ?_|refine aY (by first|(intro y hy;obtain⟨a,_,rfl⟩:=mem_map.1 hy;rfl)|(simp;done)) ?_|refine bc (by simp only[length_map,length_nil,length_cons,List.length_append,lp,lj]<;>omega) ?_|fail)<;>conv=>whnf)
 all_goals(simp[bN,eI];done)
theorem uw(l:List Int)(h:ck l=true):aL av 442 [.one (.sl (l.map eI))] (.val (pI (kF l))):=by
 obtain⟨hl,hx⟩:=iq h;refine pO func442 call442 ntmps442 results442 λS=>?_;conv=>whnf
 repeat'(first|refine awz ?_|fail)
 refine XA (λk:Nat=>k<=l.length) (3::5::rg 8 11) (λk=>[(3,vI .i64 (kF (l.take k))),(8,vI .i64 (k:Int))]) (λk=>[]) (λk=>l.length-k) 0 aa ?_ Xv (λk hR=>?_)<;>(conv=>whnf)
 ·exact whd
 ·by_cases hlt:k<l.length
  ·have hr:=qx hx k hR;have hr2:=qx hx (k+1) hlt;have hxk:=hx _ (List.getElem_mem hlt);have hs:=G4 hlt;have hc:decide ((k:Int)<((l.map eI).length:Int))=true:=al;unfold sd at hs;repeat'((first|refine awz ?_|refine XK hlt ?_|refine And.intro ae ?_|refine Xz aa aa ?_|fail)<;>conv=>whnf)
   refine aT.mk ⟨k+1,hlt,aa,?_,Xv⟩;rw[hs];exact hds
  ·have e:k=l.length:=aa;subst e;have hc:decide ((l.length:Int)<((l.map eI).length:Int))=false:=ah;rw[List.take_length];repeat'(first|refine awz ?_|exact rZ|fail)
theorem jm(l:List Int)(hl:l.length<=1048576):aL av 184 [.one (.sl (l.map eI))] (.val (.one (.sl (l.map eI)))):=by
 refine pO func184 call184 ntmps184 results184 λS=>?_;conv=>whnf
 repeat'((first|refine awz ?_|refine aY (by first|(intro y hy;obtain⟨a,_,rfl⟩:=mem_map.1 hy;rfl)|(simp;done)) ?_|refine bc ak ?_|exact rZ|fail)<;>conv=>whnf)
theorem uv(l:List Int):aL av 428 [.one (.sl (l.map eI))] (pt (gj l)):=by
 by_cases hn:l=[]
 ·subst hn;have e:gj []=none:=qz (.inr (.inl rfl));rw[e];unfold pt;refine pO func428 call428 ntmps428 results428 λS=>?_;conv=>whnf
  repeat'(first|refine awz ?_|exact rZ|fail)
 ·have n2:(((l.map eI).length:Int)==0)=false:=by simp[hn]
  have hpos:0<l.length:=List.length_pos_iff.2 hn;have ro:=kT l;cases hr:ck l with
  |false=>
   rw[hr]at ro;rw[qz (.inl hr)];unfold pt;refine pO func428 call428 ntmps428 results428 λS=>?_;conv=>whnf
   repeat'(first|refine awz ?_|(refine cP (ro) ?_;conv=>whnf)|exact rZ|fail)
  |true=>
   rw[hr]at ro;have h48:=dG hr;have hd:ck l.dropLast=true:=zu hr ah (λx hx=>List.dropLast_subset _ hx);have hcut:((l.map eI).take (l.length-1)).drop 0=l.dropLast.map eI:=by rw[List.drop_zero,<-List.map_take,List.dropLast_eq_take]
   have hlast:(l.map eI)[l.length-1]? =some (eI (l.getLastD 0)):=by
    rw[List.getElem?_map,<-List.getLast?_eq_getElem?,List.getLast?_eq_some_getLast hn,List.getLastD_eq_getLast?,List.getLast?_eq_some_getLast hn];rfl
   have so:=uw l.dropLast hd;have cr:=jm l.dropLast al;by_cases hs:kF l.dropLast=l.getLastD 0
   ·have e:gj l=some l.dropLast:=by
     unfold gj;have e2:l.isEmpty=false:=by simpa using hn
     rw[hr,e2,hs];simp
    have n3:(kF l.dropLast !=l.getLastD 0)=false:=by simp[hs]
    rw[e];unfold pt;refine pO func428 call428 ntmps428 results428 λS=>?_;conv=>whnf
    repeat'((first|refine awz ?_|refine cP (ro) ?_|refine Xz am am ?_|fail)<;>conv=>whnf)
    (refine XB aM 4 8 aU aR ac ac ac rfl ?_;conv=>whnf)
    repeat'((first|refine awz ?_|refine cP (so) ?_|refine cP (cr) ?_|refine Xw (l.length-1) _ am hlast ?_|(refine⟨0,l.length-1,rfl,(by show _=_;simp only[length_map];omega),Nat.zero_le _,ah,(by intro y hy;obtain⟨a,_,rfl⟩:=mem_map.1 hy;rfl),?_⟩;rw[hcut])|exact rZ|fail)<;>conv=>whnf)
   ·have n3:(kF l.dropLast !=l.getLastD 0)=true:=by simpa using hs
    rw[qz (.inr (.inr hs))];unfold pt;refine pO func428 call428 ntmps428 results428 λS=>?_;conv=>whnf
    repeat'((first|refine awz ?_|refine cP (ro) ?_|refine Xz am am ?_|fail)<;>conv=>whnf)
    (refine XB aM 4 8 aU aR ac ac ac rfl ?_;conv=>whnf)
    repeat'((first|refine awz ?_|refine cP (so) ?_|refine Xw (l.length-1) _ am hlast ?_|(refine⟨0,l.length-1,rfl,(by show _=_;simp only[length_map];omega),Nat.zero_le _,ah,(by intro y hy;obtain⟨a,_,rfl⟩:=mem_map.1 hy;rfl),?_⟩;rw[hcut])|exact rZ|fail)<;>conv=>whnf)
theorem vz(d:DDisk)(a:Int)(h:db d=true)(ha:aJ a 0 ((d.kept.length:Int)-1)=true):aL av 407 [.agg d.ds,pI a] (.tup [.one (.sl ((ij d a).map eI)),.one (dB true)]):=by
 obtain⟨f1,f2,f3,f4,f5⟩:=cL h;have dk:=ia d;rw[h]at dk;have se:=mJ d a f2;rw[ha]at se;have har:0<=a/\a<=(d.kept.length:Int)-1:=by simpa[aJ]using ha
 refine pO func407 call407 ntmps407 results407 λS=>?_;conv=>whnf
 repeat'((first|refine awz ?_|refine cP (dk) ?_|refine cP (se) ?_|refine Xz ari ari ?_|fail)<;>conv=>whnf)
 refine XA (λk:Nat=>k<=d.wait.length/\∀(i:Nat) (hi:i<d.wait.length),k<=i->d.wait[i].at_≠a) (4::5::6::rg 20 19) (λk=>[(6,vI .i64 ((k:Int)-1))]) (λk=>[(2,.cells 69 (d.ds.map .d))]) (λk=>k) (d.wait.map DWrite.ds).length ⟨by simp,λi hi hk=>by simp at hk;omega⟩ ?_ sbW (λk hk=>?_)<;>(conv=>whnf)
 ·exact whd
 ·obtain⟨hk,hall⟩:=hk;cases k with
  |zero=>
   have hc:decide (((0:Nat):Int)-1>=0)=false:=ae;have e:ij d a=d.kept[a.toNat]'(aa):=by
    show sx d.kept d.wait a=_;rw[DP λi hi=>hall i hi (Nat.zero_le _),List.getD_eq_getElem?_getD,List.getElem?_eq_getElem aa];first|rfl|done
   have h48:=dG (f4 _ (List.getElem_mem (show a.toNat<d.kept.length by omega)));rw[e];repeat'((first|refine awz ?_|refine AIx.int har.1 aa ?_|refine cP (jm (d.kept[a.toNat]'(aa)) aa) ?_|exact rZ|fail)<;>conv=>whnf)
  |succ k=>
   have hlt:k<d.wait.length:=aa;have hc:decide ((((k+1:Nat):Int)-1)>=0)=true:=by simp only[decide_eq_true_eq,ge_iff_le];omega
   have hix:(((k+1:Nat):Int)-1)=(k:Int):=aa;have h48:=dG (fy (f5 _ (List.getElem_mem hlt))).2;by_cases hw:d.wait[k].at_=a
   ·have e:ij d a=d.wait[k].row:=GD hlt hw λi hi hki=>hall i hi hki;have hb:(d.wait[k].at_==a)=true:=by simpa using hw
    rw[e];repeat'((first|refine awz ?_|refine Xw k (DWrite.ds d.wait[k]) hix (by simp[hlt]) ?_|refine cP (jm d.wait[k].row aa) ?_|exact rZ|fail)<;>conv=>whnf)
   ·have hb:(d.wait[k].at_==a)=false:=by simpa using hw
    repeat'((first|refine awz ?_|refine Xw k (DWrite.ds d.wait[k]) hix (by simp[hlt]) ?_|refine Xz aa aa ?_|fail)<;>conv=>whnf)
    refine aT.mk ⟨k,⟨aa,λi hi hki=>?_⟩,aa,?_,sbW⟩
    ·rcases Nat.eq_or_lt_of_le hki with e|e
     ·subst e;exact hw
     ·exact hall i hi e
    ·rw[hix];exact hds
theorem GB(w:World)(xs:Array Value)(k:Nat):(part 69 xs k).run Tryz.prog w= .ok (.agg (xs.extract k (k+2))) w:=by
 simp[part,isAgg69,sizeOf69]
theorem XQ{S:bR}{st:ASt}{o:Oper}{x i:Operand}{K:ASt->Prop}{a b c d:AC}(ho:o.op= .index 397 x i)(hx:aEv st x λy=>y= .agg [a,b,c,d])(k:Nat)(hk2:k<2)(hi:aEv st i λy=>y=vI .i64 (k:Int))(hk:eA st o.dst (.agg (match k with|0=>[a,b]|_=>[c,d])) K):AOp av S o st K:=by
 refine .reads λZ ρ act w hs=>?_;obtain⟨u,hu,rfl⟩:=bq hs hx;obtain⟨z,hz,rfl⟩:=bq hs hi;have e2:=cM hz;generalize he:act.eval x=ux at hu;cases hu with
 |agg _ us hl hr=>
  match us,hl with
  |[u0,u1,u2,u3],_=>
   have h0:=hr 0 a u0 rfl rfl;have h1:=hr 1 b u1 rfl rfl;have h2:=hr 2 c u2 rfl rfl;have h3:=hr 3 d u3 rfl rfl;have pair:∀{p q:AC} {y z:Value},dN Z w ρ p y->dN Z w ρ q z->cn Z w ρ (.agg [p,q]) (.agg [y,z].toArray):=fun{p q y z} hy hz=> .agg _ [y,z] rfl λi e v h1 h2=>by
    match i,h1,h2 with
    |0,h1,h2=>injection h1 with h1;injection h2 with h2;subst h1 h2;exact hy
    |1,h1,h2=>injection h1 with h1;injection h2 with h2;subst h1 h2;exact hz
    |i+2,h1,_=>simp at h1
   match k,hk2 with
   |0,_=>
    refine⟨.agg [a,b],.agg [u0,u1].toArray,pair h0 h1,?_,hk⟩;have hp:=GB w #[u0,u1,u2,u3] 0;simp[execOp,ho,he,e2,Instr.index,asIntOf,av,run_underlying underlying397,sizeOf69,hp]
   |1,_=>
    refine⟨.agg [c,d],.agg [u2,u3].toArray,pair h2 h3,?_,hk⟩;have hp:=GB w #[u0,u1,u2,u3] 2;simp[execOp,ho,he,e2,Instr.index,asIntOf,av,run_underlying underlying397,sizeOf69,hp]
theorem dp(t:DTwo):aL av 392 [.agg t.ds] (.val (.agg t.ds)):=by
 refine pO func392 call392 ntmps392 results392 λS=>?_;conv=>whnf
 repeat'(first|refine awz ?_|exact rZ|fail)
theorem C0(t:DTwo)(a:Int)(h:eO t=true)(ha:aJ a 0 ((t.a.kept.length:Int)-1)=true):aL av 394 [.agg t.ds,pI a] (.val (.one (.sl ((eY t a).map bD)))):=by
 obtain⟨f1,f2,f3⟩:=dQ h;have h40:=(cL f1).2.1;have tk:=om t;rw[h]at tk;have se:=mJ t.a a h40;rw[ha]at se;have c1:=vz t.a a f1 ha;have c2:=vz t.b a f2 (by rw[<-f3];exact ha);have u1:=uv (ij t.a a);have u2:=uv (ij t.b a);unfold eY;cases e1:gj (ij t.a a)with
 |none=>
  rw[e1]at u1;unfold pt at u1;cases e2:gj (ij t.b a)with
  |none=>
   rw[e2]at u2;unfold pt at u2;refine pO func394 call394 ntmps394 results394 λS=>?_;conv=>whnf
   repeat'((first|refine awz ?_|refine cP (tk) ?_|refine cP (se) ?_|refine cP (dp t) ?_|fail)<;>conv=>whnf)
   refine X7 3 ?_;conv=>whnf
   repeat'((first|refine awz ?_|refine XQ rfl rfl 0 ae rfl ?_|refine XQ rfl rfl 1 ae rfl ?_|refine cP (c1) ?_|refine cP (c2) ?_|refine cP (u1) ?_|refine cP (u2) ?_|refine Xz ae ae ?_|exact rZ|fail)<;>conv=>whnf)
  |some y=>
   rw[e2]at u2;unfold pt at u2;refine pO func394 call394 ntmps394 results394 λS=>?_;conv=>whnf
   repeat'((first|refine awz ?_|refine cP (tk) ?_|refine cP (se) ?_|refine cP (dp t) ?_|fail)<;>conv=>whnf)
   refine X7 3 ?_;conv=>whnf
   repeat'((first|refine awz ?_|refine XQ rfl rfl 0 ae rfl ?_|refine XQ rfl rfl 1 ae rfl ?_|refine cP (c1) ?_|refine cP (c2) ?_|refine cP (u1) ?_|refine cP (u2) ?_|refine bc ak ?_|refine Xz ae ae ?_|exact rZ|fail)<;>conv=>whnf)
 |some x=>
  rw[e1]at u1;unfold pt at u1;have hx:=dG (dR e1).1;cases e2:gj (ij t.b a)with
  |none=>
   rw[e2]at u2;unfold pt at u2;refine pO func394 call394 ntmps394 results394 λS=>?_;conv=>whnf
   repeat'((first|refine awz ?_|refine cP (tk) ?_|refine cP (se) ?_|refine cP (dp t) ?_|fail)<;>conv=>whnf)
   refine X7 3 ?_;conv=>whnf
   repeat'((first|refine awz ?_|refine XQ rfl rfl 0 ae rfl ?_|refine XQ rfl rfl 1 ae rfl ?_|refine cP (c1) ?_|refine cP (c2) ?_|refine cP (u1) ?_|refine cP (u2) ?_|refine bc ak ?_|refine Xz ae ae ?_|exact rZ|fail)<;>conv=>whnf)
  |some y=>
   rw[e2]at u2;unfold pt at u2;have sr:=lU x y aa;by_cases hxy:x=y
   ·have hb:(x==y)=true:=by simpa using hxy
    have hd:decide (x=y)=true:=by simpa using hxy
    rw[hd]at sr;simp only[hb,if_true];refine pO func394 call394 ntmps394 results394 λS=>?_;conv=>whnf
    repeat'((first|refine awz ?_|refine cP (tk) ?_|refine cP (se) ?_|refine cP (dp t) ?_|fail)<;>conv=>whnf)
    refine X7 3 ?_;conv=>whnf
    repeat'((first|refine awz ?_|refine XQ rfl rfl 0 ae rfl ?_|refine XQ rfl rfl 1 ae rfl ?_|refine cP (c1) ?_|refine cP (c2) ?_|refine cP (u1) ?_|refine cP (u2) ?_|refine cP (sr) ?_|refine Xw 0 _ rfl rfl ?_|refine bc ak ?_|refine Xz ae ae ?_|exact rZ|fail)<;>conv=>whnf)
   ·have hb:(x==y)=false:=by simpa using hxy
    have hd:decide (x=y)=false:=by simpa using hxy
    rw[hd]at sr;simp only[hb];refine pO func394 call394 ntmps394 results394 λS=>?_;conv=>whnf
    repeat'((first|refine awz ?_|refine cP (tk) ?_|refine cP (se) ?_|refine cP (dp t) ?_|fail)<;>conv=>whnf)
    refine X7 3 ?_;conv=>whnf
    repeat'((first|refine awz ?_|refine XQ rfl rfl 0 ae rfl ?_|refine XQ rfl rfl 1 ae rfl ?_|refine cP (c1) ?_|refine cP (c2) ?_|refine cP (u1) ?_|refine cP (u2) ?_|refine cP (sr) ?_|refine Xw 0 _ rfl rfl ?_|refine bc ak ?_|refine Xz ae ae ?_|exact rZ|fail)<;>conv=>whnf)
theorem zg(xs ys:List Int)(h:xs.length+ys.length<=1048576):gc av 451 [.one (.ref 1000 0 0 0),.one (.own 1002)] [(1000,.cells 425 [.own 1001,.d (dI 0)]),(1001,.row 2 1 (xs.map eI)),(1002,.row 2 1 (ys.map eI))] [(1000,.cells 425 [.own 1001,.d (dI 0)]),(1001,.row 2 1 ((xs++ys).map eI)),(1002,.row 2 1 (ys.map eI))] [1000] (.tup []):=by
 refine dq aM func451 rfl call451 ntmps451 (aaX results451) rfl λS pv=>?_;conv=>whnf
 repeat'(first|refine awz ?_|(refine bc ak ?_;conv=>whnf)|fail)
 all_goals(rw[map_append];first|exact whd|exact⟨trivial,whd⟩|exact⟨rfl,whd⟩|trace_state)
theorem JZ(xs:List Int)(l:List DPair)(h:xs.length+10+5*l.length<=1048576):gc av 452 [.one (.ref 1000 0 0 0),.one (.d (.sl (l.map DPair.ds)))] [(1000,.cells 425 [.own 1001,.d (dI 0)]),(1001,.row 2 1 (xs.map eI))] [(1000,.cells 425 [.own 1001,.d (dI 0)]),(1001,.row 2 1 ((xs++jL l).map eI))] [1000] (.tup []):=by
 have hl0:(iF l 0).length=1:=by simp[iF]
 have E0:((xs++[((l.map DPair.ds).length:Int)]).map eI)=((xs++iF l 0).map eI):=by simp[iF]
 refine dq aM func452 rfl call452 ntmps452 (aaX results452) rfl λS pv=>?_;conv=>whnf
 repeat'(first|refine awz ?_|(refine XE (zg xs [((l.map DPair.ds).length:Int)] al) [(1000,1000),(1001,1001),(1002,9)] rfl rfl ?_;conv=>whnf)|fail)
 refine XA (λk:Nat=>k<=l.length) (10::[5,13,14,15,16,17,18,19,20,21,22,23,24]) (λk=>[(13,vI .i64 (k:Int))]) (λk=>[(9999,.frame (ii [1000]) pv),(1000,.cells 425 [.own 1001,.d (dI 0)]),(1001,.row 2 1 ((xs++iF l k).map eI))]) (λk=>l.length-k) 0 (Nat.zero_le _) ?_ (Xu rfl (Xu rfl (Xu (congrArg some (congrArg (AO.row 2 1) E0)) Xv))) (λk hk=>?_)<;>(conv=>whnf)
 ·exact whd
 ·have htl:=DL l k;by_cases hlt:k<l.length
  ·have hc:decide ((k:Int)<((l.map DPair.ds).length:Int))=true:=by simp only[decide_eq_true_eq,length_map];omega
   have hs:=AE hlt;have E2:((xs++iF l k++(λp:DPair=>[p.key,p.value]) l[k]).map eI)=((xs++iF l (k+1)).map eI):=by simp only[map_append,hs,List.append_assoc]
   repeat'((first|refine awz ?_|refine XK hlt ?_|refine XE (zg (xs++iF l k) ((λp:DPair=>[p.key,p.value]) l[k]) al) [(1000,1000),(1001,1001),(1002,22)] rfl rfl ?_|refine Xz aa aa ?_|fail)<;>conv=>whnf)
   refine aT.mk ⟨k+1,hlt,aa,?_,Xu rfl (Xu rfl (Xu (congrArg some (congrArg (AO.row 2 1) E2)) Xv))⟩;exact hds
  ·have e:k=l.length:=aa;subst e;have hc:decide ((l.length:Int)<((l.map DPair.ds).length:Int))=false:=ah;have et:iF l l.length=jL l:=by simp[iF,jL]
   rw[et];repeat'(first|refine awz ?_|exact rZ|fail)
   all_goals(first|exact whd|exact⟨trivial,whd⟩|exact⟨rfl,whd⟩|trace_state)
theorem MD(xs:List Int)(l:List DJob)(h:xs.length+10+5*l.length<=1048576):gc av 453 [.one (.ref 1000 0 0 0),.one (.d (.sl (l.map DJob.ds)))] [(1000,.cells 425 [.own 1001,.d (dI 0)]),(1001,.row 2 1 (xs.map eI))] [(1000,.cells 425 [.own 1001,.d (dI 0)]),(1001,.row 2 1 ((xs++ot l).map eI))] [1000] (.tup []):=by
 have hl0:(kU l 0).length=1:=by simp[kU]
 have E0:((xs++[((l.map DJob.ds).length:Int)]).map eI)=((xs++kU l 0).map eI):=by simp[kU]
 refine dq aM func453 rfl call453 ntmps453 (aaX results453) rfl λS pv=>?_;conv=>whnf
 repeat'(first|refine awz ?_|(refine XE (zg xs [((l.map DJob.ds).length:Int)] al) [(1000,1000),(1001,1001),(1002,9)] rfl rfl ?_;conv=>whnf)|fail)
 refine XA (λk:Nat=>k<=l.length) (10::[5,13,14,15,16,17,18,19,20,21,22,23,24,25,26,27,28,29,30]) (λk=>[(13,vI .i64 (k:Int))]) (λk=>[(9999,.frame (ii [1000]) pv),(1000,.cells 425 [.own 1001,.d (dI 0)]),(1001,.row 2 1 ((xs++kU l k).map eI))]) (λk=>l.length-k) 0 (Nat.zero_le _) ?_ (Xu rfl (Xu rfl (Xu (congrArg some (congrArg (AO.row 2 1) E0)) Xv))) (λk hk=>?_)<;>(conv=>whnf)
 ·exact whd
 ·have htl:=Gk l k;by_cases hlt:k<l.length
  ·have hc:decide ((k:Int)<((l.map DJob.ds).length:Int))=true:=by simp only[decide_eq_true_eq,length_map];omega
   have hs:=Df hlt;have E2:((xs++kU l k++(λp:DJob=>[p.id,p.due,p.key,p.value,p.fired]) l[k]).map eI)=((xs++kU l (k+1)).map eI):=by simp only[map_append,hs,List.append_assoc]
   repeat'((first|refine awz ?_|refine XK hlt ?_|refine XE (zg (xs++kU l k) ((λp:DJob=>[p.id,p.due,p.key,p.value,p.fired]) l[k]) al) [(1000,1000),(1001,1001),(1002,28)] rfl rfl ?_|refine Xz aa aa ?_|fail)<;>conv=>whnf)
   refine aT.mk ⟨k+1,hlt,aa,?_,Xu rfl (Xu rfl (Xu (congrArg some (congrArg (AO.row 2 1) E2)) Xv))⟩;exact hds
  ·have e:k=l.length:=aa;subst e;have hc:decide ((l.length:Int)<((l.map DJob.ds).length:Int))=false:=ah;have et:kU l l.length=ot l:=by simp[kU,ot]
   rw[et];repeat'(first|refine awz ?_|exact rZ|fail)
   all_goals(first|exact whd|exact⟨trivial,whd⟩|exact⟨rfl,whd⟩|trace_state)
theorem Bg(s:DState)(h:cH s=true):aL av 449 [.agg s.ds] (.val (.one (.sl ((bN s).map eI)))):=by
 obtain⟨h1,h2,h3,h4,h5⟩:=dS h;have hp:=nP h3;have hj:=Dg h4;have lp:(jL s.pairs).length=1+2*s.pairs.length:=by simp only[jL,length_cons,oy];omega
 have lj:(ot s.jobs).length=1+5*s.jobs.length:=by simp only[ot,length_cons,pn];omega
 have so:=iC s aa;rw[h]at so;have e:bN s=(([]++[s.index,s.time]++jL s.pairs)++ot s.jobs)++[s.lease.holder,s.lease.epoch,s.lease.til]:=by simp[bN]
 rw[e];refine pO func449 call449 ntmps449 results449 λS=>?_;conv=>whnf
 repeat'((first|(refine Yc 8 0 950 2 1 ae ?_;refine And.intro rfl ?_)|refine awz ?_|refine cP (so) ?_|refine XE (zg [] [s.index,s.time] ah) [(1000,8),(1001,950),(1002,14)] rfl rfl ?_|refine XE (JZ ([]++[s.index,s.time]) s.pairs al) [(1000,8),(1001,950)] rfl rfl ?_|refine XE (MD ([]++[s.index,s.time]++jL s.pairs) s.jobs al) [(1000,8),(1001,950)] rfl rfl ?_|refine XE (zg (([]++[s.index,s.time]++jL s.pairs)++ot s.jobs) [s.lease.holder,s.lease.epoch,s.lease.til] al) [(1000,8),(1001,950),(1002,34)] rfl rfl ?_|exact rZ|fail)<;>conv=>whnf)
end
end Go.Proofs.YtpdmakdpnejnfaaGreat
