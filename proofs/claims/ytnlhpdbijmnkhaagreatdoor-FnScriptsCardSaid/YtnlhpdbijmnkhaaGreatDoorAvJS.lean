/- AvJS -/
import Derived.Test.YtnlhpdbijmnkhaaGreatDoorJ22
import Derived.Test.YtnlhpdbijmnkhaaGreatDoorJ03
set_option linter.unusedVariables false
set_option linter.unusedSimpArgs false
set_option maxRecDepth 100000
namespace Go.Proofs.YtnlhpdbijmnkhaaGreatDoor
open Go.Proofs.Tryz
open Go.ChangeShapes Go.WideShapes Go.RowKit
theorem mK(x lo hi:Int):an av 36 [pI x,pI lo,pI hi] (rB (ac x lo hi)):=an.plain aj call36 rfl rfl λw _=>(gQ x lo hi w _ rfl).mono λe w' h=>⟨h.1,by first|exact h.2|exact cU h.2⟩
theorem aI(x lo hi:Int):an av 85 [pI x,pI lo,pI hi] (rB (ac x lo hi)):=an.plain aj call85 rfl rfl λw _=>(br x lo hi w _ rfl).mono λe w' h=>⟨h.1,by first|exact h.2|exact cU h.2⟩
theorem At(x:Int):an av 35 [pI x] (rB (ac x 0 5)):=an.plain aj call35 rfl rfl λw _=>(jh x w _ rfl).mono λe w' h=>⟨h.1,by first|exact h.2|exact cU h.2⟩
def DStep.ds(x:DStep):List AD:=[dI x.kind,dI x.a,dI x.b,dI x.c,dIs x.fates]
def bL(l:List Int):Bool:=decide (l.length<=120)&&l.all λx=>ac x 0 2
theorem yy{l:List Int}(h:¬l.length<=120):bL l=false:=by simp[bL,h]
theorem Ak{l:List Int}{k:Nat}(hk:k<l.length)(h:ac l[k] 0 2=false):bL l=false:=by
 simp only[bL,Bool.and_eq_false_iff]
 refine .inr ?_
 rw[<-Bool.not_eq_true,List.all_eq_true]
 intro hall
 have:=hall l[k] (List.getElem_mem hk)
 rw[h]at this
 cases this
theorem qV{l:List Int}(h:l.length<=120)(hall:∀(j:Nat) (hj:j<l.length),ac l[j] 0 2=true):bL l=true:=by
 simp only[bL,Bool.and_eq_true,decide_eq_true_eq,List.all_eq_true]
 refine⟨h,λx hx=>?_⟩
 obtain⟨j,hj,rfl⟩:=List.getElem_of_mem hx
 exact hall j hj
def jE(x:DStep):Bool:=ac x.a 0 1000000000&&ac x.b 0 1000000000&&ac x.c 0 1000000000
theorem vk(x:DStep):an av 34 [.agg x.ds] (rB (bL x.fates&&jE x)):=by
 refine ai aj func34 rfl call34 ntmps34 (IG results34) λS=>?_;conv=>whnf
 repeat'((first|refine aw0 ?_|refine aw1 ?_|refine aw2 ?_|refine aw3 ?_|refine aw4 ?_|refine aw5 ?_|refine aw6 ?_|refine aw7 ?_|refine aw8 ?_|refine bT ?_|refine bF ?_|exact rr|refine And.intro rfl ?_|refine AB.mk (λh=>?_) (λh=>?_))<;>conv=>whnf)
 ·rw[yy ari];rfl
 ·have h120:x.fates.length<=120:=ari
  clear h
  refine AWP.loopS (λk:Nat=>k<=x.fates.length/\∀(j:Nat) (hj:j<k) (hl:j<x.fates.length),ac x.fates[j] 0 2=true) [2,4,12,13,14,15,16,17,18,19] (λk=>[(12,vI .i64 (k:Int))]) (λ_=>[(1,.cells 81 (x.ds.map .d))]) (λk=>x.fates.length-k) 0 ⟨by omega,by omega⟩ ?_ (ae.cons rfl ae.nil) (λk hR=>?_)<;>(conv=>whnf)
  ·repeat'(first|exact trivial|(refine⟨rfl,?_⟩;conv=>whnf))
  ·obtain⟨hk,hall⟩:=hR
   repeat'((first|refine aw0 ?_|refine aw1 ?_|refine aw2 ?_|refine aw3 ?_|refine aw4 ?_|refine aw5 ?_|refine aw6 ?_|refine aw7 ?_|refine aw8 ?_|refine bT ?_|refine bF ?_|refine AIx.mapF ari (λhlt=>?_)|refine AW.i64 ari ari ?_|refine aa.pure (mK _ _ _) rfl ?_|exact rr|refine And.intro rfl ?_|refine AB.mk (λh=>?_) (λh=>?_))<;>conv=>whnf)
   ·rw[Ak hlt (by simpa using h)];rfl
   ·have h2:ac x.fates[k] 0 2=true:=by simpa using h
    refine aN.mk ⟨k+1,⟨hlt,λj hj hl=>?_⟩,by omega,?_,ae.cons rfl ae.nil⟩
    ·by_cases hjk:j=k
     ·subst hjk;exact h2
     ·exact hall j Iv hl
    ·exact hds
   all_goals
    have:k=x.fates.length:=ari
    rw[qV h120 λj hj=>hall j Iv hj]
    simp_all[jE]
end Go.Proofs.YtnlhpdbijmnkhaaGreatDoor
namespace Go.Proofs.YtnlhpdbijmnkhaaGreatDoor
open Go.Proofs.Tryz
open Go.ChangeShapes Go.WideShapes Go.RowKit
def dO(x:DStep):Bool:=
 if x.kind==1||x.kind==7||x.kind==8 then x.b==0
 else if x.kind==2||x.kind==5||x.kind==6 then ac x.a 0 5&&x.b==0
 else if x.kind==3 then ac x.a 0 5&&ac x.b 1 1000
 else if x.kind==4 then ac x.a 0 5&&ac x.b 0 1000000
 else if x.kind==9||x.kind==10 then ac x.a 0 5&&ac x.b 0 5
 else x.kind==11
def dP(x:DStep):Bool:=jE x&&bL x.fates&& !(decide (((x.fates.map eI).length:Int)>0)&&x.kind !=5)&& !(decide (x.c>0)&&x.kind !=11)
def ar(x:DStep):Bool:=dP x&&dO x
def vz(x:DStep):Bool:=bL x.fates&&jE x
def oD(x:DStep):Bool:=vz x&& !(x.kind !=11&&x.c !=0)&& !(x.kind !=5&&decide (((x.fates.map eI).length:Int)>0))
theorem xF(x:DStep):dP x=oD x:=by
 unfold dP oD vz
 cases hn:jE x
 ·simp
 ·have hc:decide (x.c>0)=(x.c !=0):=by
   simp only[jE,Bool.and_eq_true,em]at hn
   by_cases h:x.c=0
   ·simp[h]
   ·have:x.c>0:=by omega
    simp[h,this]
  rw[hc]
  cases bL x.fates<;>cases(x.kind !=11)<;>cases(x.c !=0)<;>cases(x.kind !=5)<;>cases(decide (((x.fates.map eI).length:Int)>0))<;>rfl
set_option maxHeartbeats 4000000 in
theorem bP(x:DStep):an av 19 [.agg x.ds] (rB (ar x)):=by
 rw[ar,xF]
 refine ai aj func19 rfl call19 ntmps19 (IG results19) λS=>?_;conv=>whnf
 repeat'((first|refine aw0 ?_|refine aw1 ?_|refine aw2 ?_|refine aw3 ?_|refine aw4 ?_|refine aw5 ?_|refine aw6 ?_|refine aw7 ?_|refine aw8 ?_|refine aa.pure (show an av 34 [.agg x.ds] (rB (vz x))from vk x) rfl ?_|refine aa.pure (mK _ _ _) rfl ?_|refine aa.pure (At _) rfl ?_|refine aa.pure (Aq _) rfl ?_|refine bT ?_|refine bF ?_|exact rr|refine And.intro rfl ?_|refine AB.mk (λh=>?_) (λh=>?_))<;>conv=>whnf)
 all_goals
  clear S
  simp_all[oD,dO]
end Go.Proofs.YtnlhpdbijmnkhaaGreatDoor
namespace Go.Proofs.YtnlhpdbijmnkhaaGreatDoor
open Go.Proofs.Tryz
open Go.ChangeShapes Go.WideShapes Go.RowKit
theorem tK{l:List Int}(h:bL l=true){k:Nat}(hk:k<l.length):0<=l[k]/\l[k]<=2:=by
 simp only[bL,Bool.and_eq_true,List.all_eq_true,em]at h
 exact h.2 _ (List.getElem_mem hk)
theorem qU{l:List Int}(h:bL l=true):l.length<=120:=by
 simp only[bL,Bool.and_eq_true,decide_eq_true_eq]at h
 exact h.1
theorem Be{α β:Type}(f:α->β){l:List α}{k:Nat}(hk:k<l.length):(l.take (k+1)).map f=(l.take k).map f++[f l[k]]:=by
 rw[<-List.take_append_getElem hk,List.map_append];rfl
theorem Hh{n:Int}(h0:0<=n)(h1:n<=255):IntKind.u8.wrap n=n:=by
 rw[IntKind.wrap_u8]
 omega
def fr(l:List Int):List UInt8:=l.map λx=>UInt8.ofNat (48+x).toNat
theorem xH(l:List Int):strOfNums (l.map λx=>48+x)=⟨(fr l).toArray⟩:=by
 simp[strOfNums,fr]
theorem wM(l:List Int)(hl:bL l=true):an av 23 [.one (dIs l)] (rL (fr l)):=by
 have h120:=qU hl
 refine ai aj func23 rfl call23 ntmps23 (IG results23) λS=>?_;conv=>whnf
 repeat'((first|refine aw0 ?_|refine aw1 ?_|refine aw2 ?_|refine aw3 ?_|refine aw4 ?_|refine aw5 ?_|refine aw6 ?_|refine aw7 ?_|refine aw8 ?_|refine bT ?_|refine bF ?_|exact rr|refine And.intro rfl ?_|refine AB.mk (λh=>?_) (λh=>?_))<;>conv=>whnf)
 refine AWP.loopS (λk:Nat=>k<=l.length) (6::[3,5,9,10,11,12,13,14,15,16,17,18,19]) (λk=>[(3,.one (.own 6)),(9,vI .i64 (k:Int))]) (λk=>[(6,.row 5 1 ((l.take k).map λx=>eU (48+x)))]) (λk=>l.length-k) 0 Iv ?_ (ae.cons rfl ae.nil) (λk hR=>?_)<;>(conv=>whnf)
 ·repeat'(first|exact trivial|(refine⟨rfl,?_⟩;conv=>whnf))
 ·repeat'(first|((first|refine aw0 ?_|refine aw1 ?_|refine aw2 ?_|refine aw3 ?_|refine aw4 ?_|refine aw5 ?_|refine aw6 ?_|refine aw7 ?_|refine aw8 ?_|refine bT ?_|refine bF ?_|(refine AIx.mapF ari (λhlt=>?_);have hb:=tK hl hlt)|refine AW.as (k:= .u8) _ (Hh ari ari) ?_|refine AW.i64 ari ari ?_|refine za IB ?_)<;>conv=>whnf)|(refine AOp.bytes (e:=5) (l.map λx=>48+x) rfl underlying22 underlying5 underlying9 ?_ ?_)|((first|exact rr|refine And.intro rfl ?_|refine AB.mk (λh=>?_) (λh=>?_))<;>conv=>whnf))
  ·refine aN.mk ⟨k+1,hlt,by omega,?_,ae.cons (congrArg some (congrArg (AO.row 5 1) (Be (λx=>eU (48+x)) hlt).symm)) ae.nil⟩
   exact hds
  ·have:k=l.length:=ari
   conv=>whnf
   subst this
   simp[List.map_map,Function.comp_def]
  ·conv=>whnf
   repeat'((first|refine aw0 ?_|refine aw1 ?_|refine aw2 ?_|refine aw3 ?_|refine aw4 ?_|refine aw5 ?_|refine aw6 ?_|refine aw7 ?_|refine aw8 ?_|exact rr|refine And.intro rfl ?_|refine AB.mk (λh=>?_) (λh=>?_))<;>conv=>whnf)
   rw[xH]
end Go.Proofs.YtnlhpdbijmnkhaaGreatDoor
namespace Go.Proofs.YtnlhpdbijmnkhaaGreatDoor
open Go.Proofs.Tryz
open Go.ChangeShapes Go.WideShapes Go.RowKit
def bh:List (List UInt8):=[[],[104,97,110,100],[116,105,99,107],[116,105,109,101],[106,117,109,112],[102,97,108,108],[114,105,115,101],[108,111,115,101],[116,119,105,99,101],[99,117,116],[104,101,97,108],[114,111,116]]
def ay(k:Int):List UInt8:=bh.getD k.toNat []
theorem cq{k:Int}(h0:1<=k)(h1:k<=11):k=1\/k=2\/k=3\/k=4\/k=5\/k=6\/k=7\/k=8\/k=9\/k=10\/k=11:=by omega
theorem aW{x:DStep}(h:ar x=true):(1<=x.kind/\x.kind<=11)/\(0<=x.a/\x.a<=1000000000)/\(0<=x.b/\x.b<=1000000000)/\(0<=x.c/\x.c<=1000000000)/\bL x.fates=true/\(x.kind≠5->x.fates=[]):=by
 unfold ar at h
 simp only[Bool.and_eq_true]at h
 obtain⟨h,hk⟩:=h
 simp only[dP,jE,Bool.and_eq_true,em]at h
 obtain⟨⟨⟨⟨⟨ha,hb⟩,hc⟩,hf⟩,h5⟩,_⟩:=h
 refine⟨?_,ha,hb,hc,hf,λhne=>?_⟩
 ·unfold dO at hk
  repeat' split at hk
  all_goals simp_all
  all_goals omega
 ·simpa[hne]using h5
theorem aP(k:Int)(h0:1<=k)(h1:k<=11):an av 20 [pI k] (rL (ay k)):=by
 rcases cq h0 h1 with rfl|rfl|rfl|rfl|rfl|rfl|rfl|rfl|rfl|rfl|rfl
 all_goals
  refine ai aj func20 rfl call20 ntmps20 (IG results20) λS=>?_;conv=>whnf
  repeat'((first|refine aw0 ?_|refine aw1 ?_|refine aw2 ?_|refine aw3 ?_|refine aw4 ?_|refine aw5 ?_|refine aw6 ?_|refine aw7 ?_|refine aw8 ?_|refine aa.pure (mK _ _ _) rfl ?_|refine AIx.at _ _ rfl rfl ?_|exact rr|refine And.intro rfl ?_|refine AB.mk (λh=>?_) (λh=>?_))<;>conv=>whnf)
 all_goals rfl
def au(x:DStep):List (List UInt8):=
 [ay x.kind,if x.kind==1||x.kind==7||x.kind==8||x.kind==11 then Lib.itoa x.a else bA x.a]++
  (if x.kind==3||x.kind==4 then [Lib.itoa x.b]else if x.kind==9||x.kind==10 then [bA x.b]else if x.kind==11 then [Lib.itoa x.b,Lib.itoa x.c]else [])++
  (if x.fates=[]then []else [fr x.fates])
def ap(x:DStep):List UInt8:=if ar x then cS [32] (au x)else []
theorem ic(l:List Int):(fr l).length=l.length:=by simp[fr]
theorem wA(a b c:Int)(h:ar ⟨1,a,b,c,[]⟩=true):an av 10 [.agg (DStep.ds ⟨1,a,b,c,[]⟩)] (rL (ap ⟨1,a,b,c,[]⟩)):=by
 have hF:=aW h
 simp only at hF
 have hn:(!ar ⟨1,a,b,c,[]⟩)=false:=by simp[h]
 have wa:(Lit.int .i64 a).wf=true:=bq Iv Iv
 have wb:(Lit.int .i64 b).wf=true:=bq Iv Iv
 have wc:(Lit.int .i64 c).wf=true:=bq Iv Iv
 have s1:(aD [a]).length<=22:=by simpa using ax [a] (by simpa using wa)
 have s2:(aD [b]).length<=22:=by simpa using ax [b] (by simpa using wb)
 have s3:(aD [a,b,c]).length<=66:=by simpa using ax [a,b,c] (by simp[wa,wb,wc])
 have s4:=aB a
 have s5:=aB b
 refine ai aj func10 rfl call10 ntmps10 (IG results10) λS=>?_;conv=>whnf
 repeat'((first|refine aw0 ?_|refine aw1 ?_|refine aw2 ?_|refine aw3 ?_|refine aw4 ?_|refine aw5 ?_|refine aw6 ?_|refine aw7 ?_|refine aw8 ?_|refine aa.pure (bP ⟨1,a,b,c,[]⟩) rfl ?_|refine aa.pure (aP 1 Iv Iv) rfl ?_|refine aa.scalar (a8 [a] (by simpa using wa) Iy) rfl rfl ?_|refine aa.scalar (a8 [a,b,c] (by simp[wa,wb,wc]) Iy) rfl rfl ?_|refine aa.pure (aX a) rfl ?_|refine ci (by simp[ay,bh]<;>omega) ?_|refine bT ?_|refine bF ?_|exact rr|refine And.intro rfl ?_|refine AB.mk (λh=>?_) (λh=>?_))<;>conv=>whnf)
 refine fI ?_
 simp[ap,h,au,cS,aD,ay,bh]
theorem wG(a b c:Int)(h:ar ⟨7,a,b,c,[]⟩=true):an av 10 [.agg (DStep.ds ⟨7,a,b,c,[]⟩)] (rL (ap ⟨7,a,b,c,[]⟩)):=by
 have hF:=aW h
 simp only at hF
 have hn:(!ar ⟨7,a,b,c,[]⟩)=false:=by simp[h]
 have wa:(Lit.int .i64 a).wf=true:=bq Iv Iv
 have wb:(Lit.int .i64 b).wf=true:=bq Iv Iv
 have wc:(Lit.int .i64 c).wf=true:=bq Iv Iv
 have s1:(aD [a]).length<=22:=by simpa using ax [a] (by simpa using wa)
 have s2:(aD [b]).length<=22:=by simpa using ax [b] (by simpa using wb)
 have s3:(aD [a,b,c]).length<=66:=by simpa using ax [a,b,c] (by simp[wa,wb,wc])
 have s4:=aB a
 have s5:=aB b
 refine ai aj func10 rfl call10 ntmps10 (IG results10) λS=>?_;conv=>whnf
 repeat'((first|refine aw0 ?_|refine aw1 ?_|refine aw2 ?_|refine aw3 ?_|refine aw4 ?_|refine aw5 ?_|refine aw6 ?_|refine aw7 ?_|refine aw8 ?_|refine aa.pure (bP ⟨7,a,b,c,[]⟩) rfl ?_|refine aa.pure (aP 7 Iv Iv) rfl ?_|refine aa.scalar (a8 [a] (by simpa using wa) Iy) rfl rfl ?_|refine aa.scalar (a8 [a,b,c] (by simp[wa,wb,wc]) Iy) rfl rfl ?_|refine aa.pure (aX a) rfl ?_|refine ci (by simp[ay,bh]<;>omega) ?_|refine bT ?_|refine bF ?_|exact rr|refine And.intro rfl ?_|refine AB.mk (λh=>?_) (λh=>?_))<;>conv=>whnf)
 refine fI ?_
 simp[ap,h,au,cS,aD,ay,bh]
theorem wH(a b c:Int)(h:ar ⟨8,a,b,c,[]⟩=true):an av 10 [.agg (DStep.ds ⟨8,a,b,c,[]⟩)] (rL (ap ⟨8,a,b,c,[]⟩)):=by
 have hF:=aW h
 simp only at hF
 have hn:(!ar ⟨8,a,b,c,[]⟩)=false:=by simp[h]
 have wa:(Lit.int .i64 a).wf=true:=bq Iv Iv
 have wb:(Lit.int .i64 b).wf=true:=bq Iv Iv
 have wc:(Lit.int .i64 c).wf=true:=bq Iv Iv
 have s1:(aD [a]).length<=22:=by simpa using ax [a] (by simpa using wa)
 have s2:(aD [b]).length<=22:=by simpa using ax [b] (by simpa using wb)
 have s3:(aD [a,b,c]).length<=66:=by simpa using ax [a,b,c] (by simp[wa,wb,wc])
 have s4:=aB a
 have s5:=aB b
 refine ai aj func10 rfl call10 ntmps10 (IG results10) λS=>?_;conv=>whnf
 repeat'((first|refine aw0 ?_|refine aw1 ?_|refine aw2 ?_|refine aw3 ?_|refine aw4 ?_|refine aw5 ?_|refine aw6 ?_|refine aw7 ?_|refine aw8 ?_|refine aa.pure (bP ⟨8,a,b,c,[]⟩) rfl ?_|refine aa.pure (aP 8 Iv Iv) rfl ?_|refine aa.scalar (a8 [a] (by simpa using wa) Iy) rfl rfl ?_|refine aa.scalar (a8 [a,b,c] (by simp[wa,wb,wc]) Iy) rfl rfl ?_|refine aa.pure (aX a) rfl ?_|refine ci (by simp[ay,bh]<;>omega) ?_|refine bT ?_|refine bF ?_|exact rr|refine And.intro rfl ?_|refine AB.mk (λh=>?_) (λh=>?_))<;>conv=>whnf)
 refine fI ?_
 simp[ap,h,au,cS,aD,ay,bh]
theorem wB(a b c:Int)(h:ar ⟨2,a,b,c,[]⟩=true):an av 10 [.agg (DStep.ds ⟨2,a,b,c,[]⟩)] (rL (ap ⟨2,a,b,c,[]⟩)):=by
 have hF:=aW h
 simp only at hF
 have hn:(!ar ⟨2,a,b,c,[]⟩)=false:=by simp[h]
 have wa:(Lit.int .i64 a).wf=true:=bq Iv Iv
 have wb:(Lit.int .i64 b).wf=true:=bq Iv Iv
 have wc:(Lit.int .i64 c).wf=true:=bq Iv Iv
 have s1:(aD [a]).length<=22:=by simpa using ax [a] (by simpa using wa)
 have s2:(aD [b]).length<=22:=by simpa using ax [b] (by simpa using wb)
 have s3:(aD [a,b,c]).length<=66:=by simpa using ax [a,b,c] (by simp[wa,wb,wc])
 have s4:=aB a
 have s5:=aB b
 refine ai aj func10 rfl call10 ntmps10 (IG results10) λS=>?_;conv=>whnf
 repeat'((first|refine aw0 ?_|refine aw1 ?_|refine aw2 ?_|refine aw3 ?_|refine aw4 ?_|refine aw5 ?_|refine aw6 ?_|refine aw7 ?_|refine aw8 ?_|refine aa.pure (bP ⟨2,a,b,c,[]⟩) rfl ?_|refine aa.pure (aP 2 Iv Iv) rfl ?_|refine aa.scalar (a8 [a] (by simpa using wa) Iy) rfl rfl ?_|refine aa.scalar (a8 [a,b,c] (by simp[wa,wb,wc]) Iy) rfl rfl ?_|refine aa.pure (aX a) rfl ?_|refine ci (by simp[ay,bh]<;>omega) ?_|refine bT ?_|refine bF ?_|exact rr|refine And.intro rfl ?_|refine AB.mk (λh=>?_) (λh=>?_))<;>conv=>whnf)
 refine fI ?_
 simp[ap,h,au,cS,aD,ay,bh]
theorem wF(a b c:Int)(h:ar ⟨6,a,b,c,[]⟩=true):an av 10 [.agg (DStep.ds ⟨6,a,b,c,[]⟩)] (rL (ap ⟨6,a,b,c,[]⟩)):=by
 have hF:=aW h
 simp only at hF
 have hn:(!ar ⟨6,a,b,c,[]⟩)=false:=by simp[h]
 have wa:(Lit.int .i64 a).wf=true:=bq Iv Iv
 have wb:(Lit.int .i64 b).wf=true:=bq Iv Iv
 have wc:(Lit.int .i64 c).wf=true:=bq Iv Iv
 have s1:(aD [a]).length<=22:=by simpa using ax [a] (by simpa using wa)
 have s2:(aD [b]).length<=22:=by simpa using ax [b] (by simpa using wb)
 have s3:(aD [a,b,c]).length<=66:=by simpa using ax [a,b,c] (by simp[wa,wb,wc])
 have s4:=aB a
 have s5:=aB b
 refine ai aj func10 rfl call10 ntmps10 (IG results10) λS=>?_;conv=>whnf
 repeat'((first|refine aw0 ?_|refine aw1 ?_|refine aw2 ?_|refine aw3 ?_|refine aw4 ?_|refine aw5 ?_|refine aw6 ?_|refine aw7 ?_|refine aw8 ?_|refine aa.pure (bP ⟨6,a,b,c,[]⟩) rfl ?_|refine aa.pure (aP 6 Iv Iv) rfl ?_|refine aa.scalar (a8 [a] (by simpa using wa) Iy) rfl rfl ?_|refine aa.scalar (a8 [a,b,c] (by simp[wa,wb,wc]) Iy) rfl rfl ?_|refine aa.pure (aX a) rfl ?_|refine ci (by simp[ay,bh]<;>omega) ?_|refine bT ?_|refine bF ?_|exact rr|refine And.intro rfl ?_|refine AB.mk (λh=>?_) (λh=>?_))<;>conv=>whnf)
 refine fI ?_
 simp[ap,h,au,cS,aD,ay,bh]
theorem vg(a b c:Int)(h:ar ⟨11,a,b,c,[]⟩=true):an av 10 [.agg (DStep.ds ⟨11,a,b,c,[]⟩)] (rL (ap ⟨11,a,b,c,[]⟩)):=by
 have hF:=aW h
 simp only at hF
 have hn:(!ar ⟨11,a,b,c,[]⟩)=false:=by simp[h]
 have wa:(Lit.int .i64 a).wf=true:=bq Iv Iv
 have wb:(Lit.int .i64 b).wf=true:=bq Iv Iv
 have wc:(Lit.int .i64 c).wf=true:=bq Iv Iv
 have s1:(aD [a]).length<=22:=by simpa using ax [a] (by simpa using wa)
 have s2:(aD [b]).length<=22:=by simpa using ax [b] (by simpa using wb)
 have s3:(aD [a,b,c]).length<=66:=by simpa using ax [a,b,c] (by simp[wa,wb,wc])
 have s4:=aB a
 have s5:=aB b
 refine ai aj func10 rfl call10 ntmps10 (IG results10) λS=>?_;conv=>whnf
 repeat'((first|refine aw0 ?_|refine aw1 ?_|refine aw2 ?_|refine aw3 ?_|refine aw4 ?_|refine aw5 ?_|refine aw6 ?_|refine aw7 ?_|refine aw8 ?_|refine aa.pure (bP ⟨11,a,b,c,[]⟩) rfl ?_|refine aa.pure (aP 11 Iv Iv) rfl ?_|refine aa.scalar (a8 [a] (by simpa using wa) Iy) rfl rfl ?_|refine aa.scalar (a8 [a,b,c] (by simp[wa,wb,wc]) Iy) rfl rfl ?_|refine aa.pure (aX a) rfl ?_|refine ci (by simp[ay,bh]<;>omega) ?_|refine bT ?_|refine bF ?_|exact rr|refine And.intro rfl ?_|refine AB.mk (λh=>?_) (λh=>?_))<;>conv=>whnf)
 refine fI ?_
 simp[ap,h,au,cS,aD,ay,bh]
theorem wC(a b c:Int)(h:ar ⟨3,a,b,c,[]⟩=true):an av 10 [.agg (DStep.ds ⟨3,a,b,c,[]⟩)] (rL (ap ⟨3,a,b,c,[]⟩)):=by
 have hF:=aW h
 simp only at hF
 have hn:(!ar ⟨3,a,b,c,[]⟩)=false:=by simp[h]
 have wa:(Lit.int .i64 a).wf=true:=bq Iv Iv
 have wb:(Lit.int .i64 b).wf=true:=bq Iv Iv
 have wc:(Lit.int .i64 c).wf=true:=bq Iv Iv
 have s1:(aD [a]).length<=22:=by simpa using ax [a] (by simpa using wa)
 have s2:(aD [b]).length<=22:=by simpa using ax [b] (by simpa using wb)
 have s3:(aD [a,b,c]).length<=66:=by simpa using ax [a,b,c] (by simp[wa,wb,wc])
 have s4:=aB a
 have s5:=aB b
 refine ai aj func10 rfl call10 ntmps10 (IG results10) λS=>?_;conv=>whnf
 repeat'((first|refine aw0 ?_|refine aw1 ?_|refine aw2 ?_|refine aw3 ?_|refine aw4 ?_|refine aw5 ?_|refine aw6 ?_|refine aw7 ?_|refine aw8 ?_|refine aa.pure (bP ⟨3,a,b,c,[]⟩) rfl ?_|refine aa.pure (aP 3 Iv Iv) rfl ?_|refine aa.scalar (a8 [a] (by simpa using wa) Iy) rfl rfl ?_|refine aa.scalar (a8 [a,b,c] (by simp[wa,wb,wc]) Iy) rfl rfl ?_|refine aa.pure (aX a) rfl ?_|refine ci (by simp[ay,bh]<;>omega) ?_|refine bT ?_|refine bF ?_|exact rr|refine And.intro rfl ?_|refine AB.mk (λh=>?_) (λh=>?_))<;>conv=>whnf)
 refine' AWP.draw aj 10 [[],[0],[],[2],[2,3],[3,2,4,0,1],[],[6],[6,7],[3,2,4,7,6,8],[8,6,7,9,1,0,4,2,3,5],[5,3,2,4,0,1,9,7,6,8,10]] [(_,_),(_,_),(_,_),(_,_),(_,_),(_,_),(_,_),(_,_),(_,_),(_,_)] ?hD ?hok ?hl ?hf ?hno ?ht
 case hD=>kernel_rfl
 case hok=>kernel_rfl
 case hl=>rfl
 case hf=>
  conv=>whnf
  repeat'(first|(refine⟨rfl,rfl⟩)|exact trivial|((first|refine ah.mk ⟨_,_,aX a,.inl rfl,?_⟩|refine ah.mk ⟨_,_,aX b,.inl rfl,?_⟩|refine ah.mk ⟨_,_,a8 [b] (by simpa using wb) Iy,.inl rfl,?_⟩|refine ci (by simp[ay,bh]<;>omega) ?_|refine And.intro ?_ ?_)<;>conv=>whnf))
 case hno=>rfl
 case ht=>
  conv=>whnf
  repeat'((first|refine aw0 ?_|refine aw1 ?_|refine aw2 ?_|refine aw3 ?_|refine aw4 ?_|refine aw5 ?_|refine aw6 ?_|refine aw7 ?_|refine aw8 ?_|refine ci (by simp[ay,bh]<;>omega) ?_|exact rr|refine And.intro rfl ?_|refine AB.mk (λh=>?_) (λh=>?_))<;>conv=>whnf)
  refine fI ?_
  simp[ap,h,au,cS,aD,ay,bh]
theorem wD(a b c:Int)(h:ar ⟨4,a,b,c,[]⟩=true):an av 10 [.agg (DStep.ds ⟨4,a,b,c,[]⟩)] (rL (ap ⟨4,a,b,c,[]⟩)):=by
 have hF:=aW h
 simp only at hF
 have hn:(!ar ⟨4,a,b,c,[]⟩)=false:=by simp[h]
 have wa:(Lit.int .i64 a).wf=true:=bq Iv Iv
 have wb:(Lit.int .i64 b).wf=true:=bq Iv Iv
 have wc:(Lit.int .i64 c).wf=true:=bq Iv Iv
 have s1:(aD [a]).length<=22:=by simpa using ax [a] (by simpa using wa)
 have s2:(aD [b]).length<=22:=by simpa using ax [b] (by simpa using wb)
 have s3:(aD [a,b,c]).length<=66:=by simpa using ax [a,b,c] (by simp[wa,wb,wc])
 have s4:=aB a
 have s5:=aB b
 refine ai aj func10 rfl call10 ntmps10 (IG results10) λS=>?_;conv=>whnf
 repeat'((first|refine aw0 ?_|refine aw1 ?_|refine aw2 ?_|refine aw3 ?_|refine aw4 ?_|refine aw5 ?_|refine aw6 ?_|refine aw7 ?_|refine aw8 ?_|refine aa.pure (bP ⟨4,a,b,c,[]⟩) rfl ?_|refine aa.pure (aP 4 Iv Iv) rfl ?_|refine aa.scalar (a8 [a] (by simpa using wa) Iy) rfl rfl ?_|refine aa.scalar (a8 [a,b,c] (by simp[wa,wb,wc]) Iy) rfl rfl ?_|refine aa.pure (aX a) rfl ?_|refine ci (by simp[ay,bh]<;>omega) ?_|refine bT ?_|refine bF ?_|exact rr|refine And.intro rfl ?_|refine AB.mk (λh=>?_) (λh=>?_))<;>conv=>whnf)
 refine' AWP.draw aj 10 [[],[0],[],[2],[2,3],[3,2,4,0,1],[],[6],[6,7],[3,2,4,7,6,8],[8,6,7,9,1,0,4,2,3,5],[5,3,2,4,0,1,9,7,6,8,10]] [(_,_),(_,_),(_,_),(_,_),(_,_),(_,_),(_,_),(_,_),(_,_),(_,_)] ?hD ?hok ?hl ?hf ?hno ?ht
 case hD=>kernel_rfl
 case hok=>kernel_rfl
 case hl=>rfl
 case hf=>
  conv=>whnf
  repeat'(first|(refine⟨rfl,rfl⟩)|exact trivial|((first|refine ah.mk ⟨_,_,aX a,.inl rfl,?_⟩|refine ah.mk ⟨_,_,aX b,.inl rfl,?_⟩|refine ah.mk ⟨_,_,a8 [b] (by simpa using wb) Iy,.inl rfl,?_⟩|refine ci (by simp[ay,bh]<;>omega) ?_|refine And.intro ?_ ?_)<;>conv=>whnf))
 case hno=>rfl
 case ht=>
  conv=>whnf
  repeat'((first|refine aw0 ?_|refine aw1 ?_|refine aw2 ?_|refine aw3 ?_|refine aw4 ?_|refine aw5 ?_|refine aw6 ?_|refine aw7 ?_|refine aw8 ?_|refine ci (by simp[ay,bh]<;>omega) ?_|exact rr|refine And.intro rfl ?_|refine AB.mk (λh=>?_) (λh=>?_))<;>conv=>whnf)
  refine fI ?_
  simp[ap,h,au,cS,aD,ay,bh]
theorem wJ(a b c:Int)(h:ar ⟨9,a,b,c,[]⟩=true):an av 10 [.agg (DStep.ds ⟨9,a,b,c,[]⟩)] (rL (ap ⟨9,a,b,c,[]⟩)):=by
 have hF:=aW h
 simp only at hF
 have hn:(!ar ⟨9,a,b,c,[]⟩)=false:=by simp[h]
 have wa:(Lit.int .i64 a).wf=true:=bq Iv Iv
 have wb:(Lit.int .i64 b).wf=true:=bq Iv Iv
 have wc:(Lit.int .i64 c).wf=true:=bq Iv Iv
 have s1:(aD [a]).length<=22:=by simpa using ax [a] (by simpa using wa)
 have s2:(aD [b]).length<=22:=by simpa using ax [b] (by simpa using wb)
 have s3:(aD [a,b,c]).length<=66:=by simpa using ax [a,b,c] (by simp[wa,wb,wc])
 have s4:=aB a
 have s5:=aB b
 refine ai aj func10 rfl call10 ntmps10 (IG results10) λS=>?_;conv=>whnf
 repeat'((first|refine aw0 ?_|refine aw1 ?_|refine aw2 ?_|refine aw3 ?_|refine aw4 ?_|refine aw5 ?_|refine aw6 ?_|refine aw7 ?_|refine aw8 ?_|refine aa.pure (bP ⟨9,a,b,c,[]⟩) rfl ?_|refine aa.pure (aP 9 Iv Iv) rfl ?_|refine aa.scalar (a8 [a] (by simpa using wa) Iy) rfl rfl ?_|refine aa.scalar (a8 [a,b,c] (by simp[wa,wb,wc]) Iy) rfl rfl ?_|refine aa.pure (aX a) rfl ?_|refine ci (by simp[ay,bh]<;>omega) ?_|refine bT ?_|refine bF ?_|exact rr|refine And.intro rfl ?_|refine AB.mk (λh=>?_) (λh=>?_))<;>conv=>whnf)
 refine' AWP.draw aj 10 [[],[0],[],[2],[2,3],[3,2,4,0,1],[1,0,4,2,3,5],[],[7],[3,2,4,7,8],[8,7,9,5,3,2,4,0,1,6],[6,1,0,4,2,3,5,9,7,8,10]] [(_,_),(_,_),(_,_),(_,_),(_,_),(_,_),(_,_),(_,_),(_,_),(_,_)] ?hD ?hok ?hl ?hf ?hno ?ht
 case hD=>kernel_rfl
 case hok=>kernel_rfl
 case hl=>rfl
 case hf=>
  conv=>whnf
  repeat'(first|(refine⟨rfl,rfl⟩)|exact trivial|((first|refine ah.mk ⟨_,_,aX a,.inl rfl,?_⟩|refine ah.mk ⟨_,_,aX b,.inl rfl,?_⟩|refine ah.mk ⟨_,_,a8 [b] (by simpa using wb) Iy,.inl rfl,?_⟩|refine ci (by simp[ay,bh]<;>omega) ?_|refine And.intro ?_ ?_)<;>conv=>whnf))
 case hno=>rfl
 case ht=>
  conv=>whnf
  repeat'((first|refine aw0 ?_|refine aw1 ?_|refine aw2 ?_|refine aw3 ?_|refine aw4 ?_|refine aw5 ?_|refine aw6 ?_|refine aw7 ?_|refine aw8 ?_|refine ci (by simp[ay,bh]<;>omega) ?_|exact rr|refine And.intro rfl ?_|refine AB.mk (λh=>?_) (λh=>?_))<;>conv=>whnf)
  refine fI ?_
  simp[ap,h,au,cS,aD,ay,bh]
theorem vd(a b c:Int)(h:ar ⟨10,a,b,c,[]⟩=true):an av 10 [.agg (DStep.ds ⟨10,a,b,c,[]⟩)] (rL (ap ⟨10,a,b,c,[]⟩)):=by
 have hF:=aW h
 simp only at hF
 have hn:(!ar ⟨10,a,b,c,[]⟩)=false:=by simp[h]
 have wa:(Lit.int .i64 a).wf=true:=bq Iv Iv
 have wb:(Lit.int .i64 b).wf=true:=bq Iv Iv
 have wc:(Lit.int .i64 c).wf=true:=bq Iv Iv
 have s1:(aD [a]).length<=22:=by simpa using ax [a] (by simpa using wa)
 have s2:(aD [b]).length<=22:=by simpa using ax [b] (by simpa using wb)
 have s3:(aD [a,b,c]).length<=66:=by simpa using ax [a,b,c] (by simp[wa,wb,wc])
 have s4:=aB a
 have s5:=aB b
 refine ai aj func10 rfl call10 ntmps10 (IG results10) λS=>?_;conv=>whnf
 repeat'((first|refine aw0 ?_|refine aw1 ?_|refine aw2 ?_|refine aw3 ?_|refine aw4 ?_|refine aw5 ?_|refine aw6 ?_|refine aw7 ?_|refine aw8 ?_|refine aa.pure (bP ⟨10,a,b,c,[]⟩) rfl ?_|refine aa.pure (aP 10 Iv Iv) rfl ?_|refine aa.scalar (a8 [a] (by simpa using wa) Iy) rfl rfl ?_|refine aa.scalar (a8 [a,b,c] (by simp[wa,wb,wc]) Iy) rfl rfl ?_|refine aa.pure (aX a) rfl ?_|refine ci (by simp[ay,bh]<;>omega) ?_|refine bT ?_|refine bF ?_|exact rr|refine And.intro rfl ?_|refine AB.mk (λh=>?_) (λh=>?_))<;>conv=>whnf)
 refine' AWP.draw aj 10 [[],[0],[],[2],[2,3],[3,2,4,0,1],[1,0,4,2,3,5],[],[7],[3,2,4,7,8],[8,7,9,5,3,2,4,0,1,6],[6,1,0,4,2,3,5,9,7,8,10]] [(_,_),(_,_),(_,_),(_,_),(_,_),(_,_),(_,_),(_,_),(_,_),(_,_)] ?hD ?hok ?hl ?hf ?hno ?ht
 case hD=>kernel_rfl
 case hok=>kernel_rfl
 case hl=>rfl
 case hf=>
  conv=>whnf
  repeat'(first|(refine⟨rfl,rfl⟩)|exact trivial|((first|refine ah.mk ⟨_,_,aX a,.inl rfl,?_⟩|refine ah.mk ⟨_,_,aX b,.inl rfl,?_⟩|refine ah.mk ⟨_,_,a8 [b] (by simpa using wb) Iy,.inl rfl,?_⟩|refine ci (by simp[ay,bh]<;>omega) ?_|refine And.intro ?_ ?_)<;>conv=>whnf))
 case hno=>rfl
 case ht=>
  conv=>whnf
  repeat'((first|refine aw0 ?_|refine aw1 ?_|refine aw2 ?_|refine aw3 ?_|refine aw4 ?_|refine aw5 ?_|refine aw6 ?_|refine aw7 ?_|refine aw8 ?_|refine ci (by simp[ay,bh]<;>omega) ?_|exact rr|refine And.intro rfl ?_|refine AB.mk (λh=>?_) (λh=>?_))<;>conv=>whnf)
  refine fI ?_
  simp[ap,h,au,cS,aD,ay,bh]
theorem wE(a b c:Int)(f:List Int)(hk:ar ⟨5,a,b,c,f⟩=true):an av 10 [.agg (DStep.ds ⟨5,a,b,c,f⟩)] (rL (ap ⟨5,a,b,c,f⟩)):=by
 have hF:=aW hk
 simp only at hF
 have hn:(!ar ⟨5,a,b,c,f⟩)=false:=by simp[hk]
 have s4:=aB a
 have s5:=ic f
 have s6:=qU hF.2.2.2.2.1
 refine ai aj func10 rfl call10 ntmps10 (IG results10) λS=>?_;conv=>whnf
 repeat'((first|refine aw0 ?_|refine aw1 ?_|refine aw2 ?_|refine aw3 ?_|refine aw4 ?_|refine aw5 ?_|refine aw6 ?_|refine aw7 ?_|refine aw8 ?_|refine aa.pure (bP ⟨5,a,b,c,f⟩) rfl ?_|refine aa.pure (aP 5 Iv Iv) rfl ?_|refine aa.pure (aX a) rfl ?_|refine ci (by simp[ay,bh]<;>omega) ?_|refine bT ?_|refine bF ?_|exact rr|refine And.intro rfl ?_|refine AB.mk (λh=>?_) (λh=>?_))<;>conv=>whnf)
 ·have hf0:f=[]:=by simpa using h
  subst hf0
  refine fI ?_
  simp[ap,hk,au,cS,ay,bh]
 ·have hf0:f≠ []:=by simpa using h
  refine' AWP.draw aj 10 [[],[0],[],[2],[2,3],[3,2,4,0,1],[1,0,4,2,3,5],[],[7],[3,2,4,7,8],[8,7,9,5,3,2,4,0,1,6],[6,1,0,4,2,3,5,9,7,8,10]] [(_,_),(_,_),(_,_),(_,_),(_,_),(_,_),(_,_),(_,_),(_,_),(_,_)] ?hD ?hok ?hl ?hf ?hno ?ht
  case hD=>kernel_rfl
  case hok=>kernel_rfl
  case hl=>rfl
  case hf=>
   conv=>whnf
   repeat'(first|(refine⟨rfl,rfl⟩)|exact trivial|((first|refine ah.mk ⟨_,_,aX a,.inl rfl,?_⟩|refine ah.mk ⟨_,_,wM f hF.2.2.2.2.1,.inl rfl,?_⟩|refine ci (by simp[ay,bh]<;>omega) ?_|refine And.intro ?_ ?_)<;>conv=>whnf))
  case hno=>rfl
  case ht=>
   conv=>whnf
   repeat'((first|refine aw0 ?_|refine aw1 ?_|refine aw2 ?_|refine aw3 ?_|refine aw4 ?_|refine aw5 ?_|refine aw6 ?_|refine aw7 ?_|refine aw8 ?_|refine ci (by simp[ay,bh]<;>omega) ?_|exact rr|refine And.intro rfl ?_|refine AB.mk (λh=>?_) (λh=>?_))<;>conv=>whnf)
   refine fI ?_
   simp[ap,hk,hf0,au,cS,ay,bh]
theorem vh(x:DStep)(h:ar x=false):an av 10 [.agg x.ds] (rL (ap x)):=by
 have hn:(!ar x)=true:=by simp[h]
 refine ai aj func10 rfl call10 ntmps10 (IG results10) λS=>?_;conv=>whnf
 repeat'((first|refine aw0 ?_|refine aw1 ?_|refine aw2 ?_|refine aw3 ?_|refine aw4 ?_|refine aw5 ?_|refine aw6 ?_|refine aw7 ?_|refine aw8 ?_|refine aa.pure (bP x) rfl ?_|refine bT ?_|refine bF ?_|exact rr|refine And.intro rfl ?_|refine AB.mk (λh=>?_) (λh=>?_))<;>conv=>whnf)
 simp[ap,h]
theorem kX(x:DStep):an av 10 [.agg x.ds] (rL (ap x)):=by
 cases h:ar x
 ·exact vh x h
 ·have hF:=aW h
  obtain⟨k,a,b,c,f⟩:=x
  simp only at hF
  rcases cq hF.1.1 hF.1.2 with rfl|rfl|rfl|rfl|rfl|rfl|rfl|rfl|rfl|rfl|rfl
  case inr.inr.inr.inr.inl=>exact wE a b c f h
  all_goals
   have hf:f=[]:=hF.2.2.2.2.2 Ix
   subst hf
  ·exact wA a b c h
  ·exact wB a b c h
  ·exact wC a b c h
  ·exact wD a b c h
  ·exact wF a b c h
  ·exact wG a b c h
  ·exact wH a b c h
  ·exact wJ a b c h
  ·exact vd a b c h
  ·exact vg a b c h
end Go.Proofs.YtnlhpdbijmnkhaaGreatDoor
namespace Go.Proofs.YtnlhpdbijmnkhaaGreatDoor
open Go.Proofs.Tryz
open Go.ChangeShapes Go.WideShapes Go.RowKit
theorem sX{x:DStep}(h:ar x=true):(cS [32] (au x)).length<=1000:=by
 have hF:=aW h
 have s1:=vn (x:=x.a) Iv Iv
 have s2:=vn (x:=x.b) Iv Iv
 have s3:=vn (x:=x.c) Iv Iv
 have s4:=aB x.a
 have s5:=aB x.b
 have s6:=qU hF.2.2.2.2.1
 have s7:(ay x.kind).length<=5:=by
  rcases cq hF.1.1 hF.1.2 with e|e|e|e|e|e|e|e|e|e|e<;>rw[e]<;>decide
 unfold au
 repeat' split
 all_goals simp[cS,ic]
 all_goals omega
theorem gW(x:DStep):(ap x).length<=1000:=by
 unfold ap
 split
 ·rename_i h;exact sX h
 ·simp
theorem fH{x:DStep}:ap x=[]↔ar x=false:=by
 unfold ap
 cases h:ar x
 ·simp
 ·have hF:=aW h
  simp only[if_true,Bool.true_eq_false,iff_false]
  have:(ay x.kind).length≠0:=by
   rcases cq hF.1.1 hF.1.2 with e|e|e|e|e|e|e|e|e|e|e<;>rw[e]<;>decide
  unfold au
  intro h0
  apply this
  have h1:=congrArg List.length h0
  simp only[List.cons_append,cS,List.length_append,List.length_nil]at h1
  omega
end Go.Proofs.YtnlhpdbijmnkhaaGreatDoor
