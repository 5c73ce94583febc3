/- WU3 -/
import Derived.Test.YtehobfglmeiglaaGreatDoorWU2
set_option linter.unusedVariables false
set_option linter.unusedSimpArgs false
set_option maxRecDepth 100000
namespace Go.Proofs.YtehobfglmeiglaaGreatDoor
open Go.Proofs.Tryz
open Go.ChangeShapes Go.WideShapes Go.RowKit
theorem rk{name:List UInt8}(hn:name.length<=5){l:List Int}(h:iA l):(fb name l).length<=300:=by
 unfold fb
 split
 ·simp;omega
 ·have:=ik l (sZ h)
  have:=h.1
  simp
  omega
theorem xU{w:DWorld}(hs:DWorld.small 1048576 w):∀k,k<=7->(txt w k).length<=300*k
 |0,_=>by simp[txt]
 |k+1,hk=>by
  have hlt:k<bf.length:=by have:bf.length=7:=rfl;omega
  rw[mM w hlt,List.length_append]
  have:=xU hs k Mo
  have:=rk (qp hlt) (tW hs k)
  omega
theorem If{w:DWorld}{k:Nat}(hk:k<7):txt w (k+1)≠ []:=by
 have hlt:k<bf.length:=hk
 rw[mM w hlt]
 unfold fb
 split<;>simp
theorem cp(s:ByteArray):(bq s).length=s.size:=by simp[bq]
theorem kD:(⟨#[10]⟩:ByteArray).size=1:=rfl
theorem d9:(⟨#[32,100,111,119,110]⟩:ByteArray).size=5:=rfl
def KZ(w:DWorld):Nat->List (Nat×AO)
 |0=>[(3,AG)]
 |k+1=>[(3,sM 3 900),(900,yn (dt (txt w (k+1))))]
theorem Gq{w:DWorld}{k:Nat}(h:k<bf.length)(e:ci w k=[]):dt (txt w k)++bq ⟨(bf[k]).toArray⟩++bq ⟨#[32,100,111,119,110]⟩++bq ⟨#[10]⟩=dt (txt w (k+1)):=by
 rw[mM w h,e,oJ]
 simp[fb,dt,bq]
theorem Gr{w:DWorld}{k:Nat}(h:k<bf.length)(e:ci w k≠ []):dt (txt w k)++bq ⟨(bf[k]).toArray⟩++bq ⟨(bK (ci w k)).toArray⟩++bq ⟨#[10]⟩=dt (txt w (k+1)):=by
 rw[mM w h,oJ,oJ]
 simp[fb,e,dt,bq]
set_option maxHeartbeats 2000000 in
theorem nS(w:DWorld)(hs:DWorld.small 1048576 w):aj av 7 [.agg w.ds] (rL (bM w)):=by
 cases hw:ay w with
 |false=>
  have hn:(!ay w)=true:=by rw[hw];rfl
  have e:bM w=[]:=by simp[bM,hw]
  rw[e]
  refine ae ah func7 rfl call7 ntmps7 (MC results7) λS=>?_;conv=>whnf
  repeat'((first|refine aw0 ?_|refine awx ?_|refine cP (bh w hs) ?_|exact rr|refine And.intro rfl ?_|refine AB.mk (λh=>?_) (λh=>?_))<;>conv=>whnf)
 |true=>
  have hn:(!ay w)=false:=by rw[hw];rfl
  have e:bM w=txt w 7:=by simp[bM,hw]
  rw[e]
  refine ae ah func7 rfl call7 ntmps7 (MC results7) λS=>?_;conv=>whnf
  repeat'((first|refine aw0 ?_|refine awx ?_|refine cP (bh w hs) ?_|refine cP (pq) ?_|exact rr|refine And.intro rfl ?_|refine AB.mk (λh=>?_) (λh=>?_))<;>conv=>whnf)
  refine AWP.loopS (λk:Nat=>k<=7) [4,5,6,12,13,14,15,16,17,18,19,20,21,22,23,24,25,26,27,28,29] (λk=>[(12,vI .i64 (k:Int))]) (λk=>(1,.cells 106 (w.ds.map .d))::KZ w k) (λk=>7-k) 0 Mo ?_ (ak.cons rfl (ak.cons rfl ak.nil)) (λk hR=>?_)<;>(conv=>whnf)
  ·exact whd
  ·have h7:bf.length=7:=rfl
   by_cases hlt:k<bf.length
   ·have hn5:=qp hlt
    have hg:=tW hs k
    have htx:=xU hs k Mo
    have hsp:=ik (ci w k) (sZ hg)
    have hg1:=hg.1
    have hc:decide ((k:Int)<((bf.map eS).length:Int))=true:=by simp;omega
    have hR:=y3 w hs hw k Mo
    by_cases hr:ci w k=[]
    ·rw[hr,mG]at hR
     have hrow:=Gq hlt hr
     cases k with
     |zero=>
      repeat'((first|refine aw0 ?_|refine awx ?_|refine AIx.map hlt ?_|refine cP (hR) ?_|refine AOp.eqNil true rfl underlying62 (.inl ⟨rfl,rfl⟩) ?_|refine AW.i64 Mo Mo ?_|exact rr|refine And.intro rfl ?_|refine AB.mk (λh=>?_) (λh=>?_))<;>conv=>whnf)
      refine aa.meth (mN ⟨(bf[0]).toArray⟩ (by simp only[List.length_append,List.length_cons,List.length_nil,cp,kC,cb,kD,d9];omega)) [(1000,3),(14,900)] rfl rfl ?_
      conv=>whnf
      repeat'((first|refine aw0 ?_|refine awx ?_|refine AIx.map hlt ?_|refine cP (hR) ?_|refine AOp.eqNil true rfl underlying62 (.inl ⟨rfl,rfl⟩) ?_|refine AW.i64 Mo Mo ?_|exact rr|refine And.intro rfl ?_|refine AB.mk (λh=>?_) (λh=>?_))<;>conv=>whnf)
      refine aa.meth (bA (bq ⟨(bf[0]).toArray⟩) ⟨#[32,100,111,119,110]⟩ (by simp only[List.length_append,List.length_cons,List.length_nil,cp,kC,cb,kD,d9];omega)) [(1000,3),(1001,900)] rfl rfl ?_
      conv=>whnf
      repeat'((first|refine aw0 ?_|refine awx ?_|refine AIx.map hlt ?_|refine cP (hR) ?_|refine AOp.eqNil true rfl underlying62 (.inl ⟨rfl,rfl⟩) ?_|refine AW.i64 Mo Mo ?_|exact rr|refine And.intro rfl ?_|refine AB.mk (λh=>?_) (λh=>?_))<;>conv=>whnf)
      refine aa.meth (bA (bq ⟨(bf[0]).toArray⟩++bq ⟨#[32,100,111,119,110]⟩) ⟨#[10]⟩ (by simp only[List.length_append,List.length_cons,List.length_nil,cp,kC,cb,kD,d9];omega)) [(1000,3),(1001,900)] rfl rfl ?_
      conv=>whnf
      repeat'((first|refine aw0 ?_|refine awx ?_|refine AIx.map hlt ?_|refine cP (hR) ?_|refine AOp.eqNil true rfl underlying62 (.inl ⟨rfl,rfl⟩) ?_|refine AW.i64 Mo Mo ?_|exact rr|refine And.intro rfl ?_|refine AB.mk (λh=>?_) (λh=>?_))<;>conv=>whnf)
      refine aB.mk ⟨1,hlt,by omega,?_,ak.cons rfl (ak.cons rfl (ak.cons (congrArg some (congrArg (AO.row 5 1) hrow)) ak.nil))⟩
      exact hds
     |succ k=>
      repeat'((first|refine aw0 ?_|refine awx ?_|refine AIx.map hlt ?_|refine cP (hR) ?_|refine AOp.eqNil true rfl underlying62 (.inl ⟨rfl,rfl⟩) ?_|refine AW.i64 Mo Mo ?_|exact rr|refine And.intro rfl ?_|refine AB.mk (λh=>?_) (λh=>?_))<;>conv=>whnf)
      refine aa.meth (bA (dt (txt w (k+1))) ⟨(bf[k+1]).toArray⟩ (by simp only[List.length_append,List.length_cons,List.length_nil,cp,kC,cb,kD,d9];omega)) [(1000,3),(1001,900)] rfl rfl ?_
      conv=>whnf
      repeat'((first|refine aw0 ?_|refine awx ?_|refine AIx.map hlt ?_|refine cP (hR) ?_|refine AOp.eqNil true rfl underlying62 (.inl ⟨rfl,rfl⟩) ?_|refine AW.i64 Mo Mo ?_|exact rr|refine And.intro rfl ?_|refine AB.mk (λh=>?_) (λh=>?_))<;>conv=>whnf)
      refine aa.meth (bA (dt (txt w (k+1))++bq ⟨(bf[k+1]).toArray⟩) ⟨#[32,100,111,119,110]⟩ (by simp only[List.length_append,List.length_cons,List.length_nil,cp,kC,cb,kD,d9];omega)) [(1000,3),(1001,900)] rfl rfl ?_
      conv=>whnf
      repeat'((first|refine aw0 ?_|refine awx ?_|refine AIx.map hlt ?_|refine cP (hR) ?_|refine AOp.eqNil true rfl underlying62 (.inl ⟨rfl,rfl⟩) ?_|refine AW.i64 Mo Mo ?_|exact rr|refine And.intro rfl ?_|refine AB.mk (λh=>?_) (λh=>?_))<;>conv=>whnf)
      refine aa.meth (bA (dt (txt w (k+1))++bq ⟨(bf[k+1]).toArray⟩++bq ⟨#[32,100,111,119,110]⟩) ⟨#[10]⟩ (by simp only[List.length_append,List.length_cons,List.length_nil,cp,kC,cb,kD,d9];omega)) [(1000,3),(1001,900)] rfl rfl ?_
      conv=>whnf
      repeat'((first|refine aw0 ?_|refine awx ?_|refine AIx.map hlt ?_|refine cP (hR) ?_|refine AOp.eqNil true rfl underlying62 (.inl ⟨rfl,rfl⟩) ?_|refine AW.i64 Mo Mo ?_|exact rr|refine And.intro rfl ?_|refine AB.mk (λh=>?_) (λh=>?_))<;>conv=>whnf)
      refine aB.mk ⟨k+2,hlt,by omega,?_,ak.cons rfl (ak.cons rfl (ak.cons (congrArg some (congrArg (AO.row 5 1) hrow)) ak.nil))⟩
      exact hds
    ·obtain⟨x,r,hxr⟩:=List.exists_cons_of_ne_nil hr
     rw[hxr]at hR
     have hsp_p:=C9 (ci w k) (sZ hg) Mo
     have hrow:=Gr hlt hr
     rw[hxr]at hsp_p hrow hsp hg1
     cases k with
     |zero=>
      repeat'((first|refine aw0 ?_|refine awx ?_|refine AIx.map hlt ?_|refine cP (hR) ?_|refine cP (hsp_p) ?_|refine AOp.eqNil false rfl underlying62 (.inr (.inr ⟨_,_,_,rfl,rfl⟩)) ?_|refine AW.i64 Mo Mo ?_|exact rr|refine And.intro rfl ?_|refine AB.mk (λh=>?_) (λh=>?_))<;>conv=>whnf)
      refine aa.meth (mN ⟨(bf[0]).toArray⟩ (by simp only[List.length_append,List.length_cons,List.length_nil,cp,kC,cb,kD,d9];omega)) [(1000,3),(14,900)] rfl rfl ?_
      conv=>whnf
      repeat'((first|refine aw0 ?_|refine awx ?_|refine AIx.map hlt ?_|refine cP (hR) ?_|refine cP (hsp_p) ?_|refine AOp.eqNil false rfl underlying62 (.inr (.inr ⟨_,_,_,rfl,rfl⟩)) ?_|refine AW.i64 Mo Mo ?_|exact rr|refine And.intro rfl ?_|refine AB.mk (λh=>?_) (λh=>?_))<;>conv=>whnf)
      refine aa.meth (bA (bq ⟨(bf[0]).toArray⟩) ⟨(bK (x::r)).toArray⟩ (by simp only[List.length_append,List.length_cons,List.length_nil,cp,kC,cb,kD,d9];omega)) [(1000,3),(1001,900)] rfl rfl ?_
      conv=>whnf
      repeat'((first|refine aw0 ?_|refine awx ?_|refine AIx.map hlt ?_|refine cP (hR) ?_|refine cP (hsp_p) ?_|refine AOp.eqNil false rfl underlying62 (.inr (.inr ⟨_,_,_,rfl,rfl⟩)) ?_|refine AW.i64 Mo Mo ?_|exact rr|refine And.intro rfl ?_|refine AB.mk (λh=>?_) (λh=>?_))<;>conv=>whnf)
      refine aa.meth (bA (bq ⟨(bf[0]).toArray⟩++bq ⟨(bK (x::r)).toArray⟩) ⟨#[10]⟩ (by simp only[List.length_append,List.length_cons,List.length_nil,cp,kC,cb,kD,d9];omega)) [(1000,3),(1001,900)] rfl rfl ?_
      conv=>whnf
      repeat'((first|refine aw0 ?_|refine awx ?_|refine AIx.map hlt ?_|refine cP (hR) ?_|refine cP (hsp_p) ?_|refine AOp.eqNil false rfl underlying62 (.inr (.inr ⟨_,_,_,rfl,rfl⟩)) ?_|refine AW.i64 Mo Mo ?_|exact rr|refine And.intro rfl ?_|refine AB.mk (λh=>?_) (λh=>?_))<;>conv=>whnf)
      refine aB.mk ⟨1,hlt,by omega,?_,ak.cons rfl (ak.cons rfl (ak.cons (congrArg some (congrArg (AO.row 5 1) hrow)) ak.nil))⟩
      exact hds
     |succ k=>
      repeat'((first|refine aw0 ?_|refine awx ?_|refine AIx.map hlt ?_|refine cP (hR) ?_|refine cP (hsp_p) ?_|refine AOp.eqNil false rfl underlying62 (.inr (.inr ⟨_,_,_,rfl,rfl⟩)) ?_|refine AW.i64 Mo Mo ?_|exact rr|refine And.intro rfl ?_|refine AB.mk (λh=>?_) (λh=>?_))<;>conv=>whnf)
      refine aa.meth (bA (dt (txt w (k+1))) ⟨(bf[k+1]).toArray⟩ (by simp only[List.length_append,List.length_cons,List.length_nil,cp,kC,cb,kD,d9];omega)) [(1000,3),(1001,900)] rfl rfl ?_
      conv=>whnf
      repeat'((first|refine aw0 ?_|refine awx ?_|refine AIx.map hlt ?_|refine cP (hR) ?_|refine cP (hsp_p) ?_|refine AOp.eqNil false rfl underlying62 (.inr (.inr ⟨_,_,_,rfl,rfl⟩)) ?_|refine AW.i64 Mo Mo ?_|exact rr|refine And.intro rfl ?_|refine AB.mk (λh=>?_) (λh=>?_))<;>conv=>whnf)
      refine aa.meth (bA (dt (txt w (k+1))++bq ⟨(bf[k+1]).toArray⟩) ⟨(bK (x::r)).toArray⟩ (by simp only[List.length_append,List.length_cons,List.length_nil,cp,kC,cb,kD,d9];omega)) [(1000,3),(1001,900)] rfl rfl ?_
      conv=>whnf
      repeat'((first|refine aw0 ?_|refine awx ?_|refine AIx.map hlt ?_|refine cP (hR) ?_|refine cP (hsp_p) ?_|refine AOp.eqNil false rfl underlying62 (.inr (.inr ⟨_,_,_,rfl,rfl⟩)) ?_|refine AW.i64 Mo Mo ?_|exact rr|refine And.intro rfl ?_|refine AB.mk (λh=>?_) (λh=>?_))<;>conv=>whnf)
      refine aa.meth (bA (dt (txt w (k+1))++bq ⟨(bf[k+1]).toArray⟩++bq ⟨(bK (x::r)).toArray⟩) ⟨#[10]⟩ (by simp only[List.length_append,List.length_cons,List.length_nil,cp,kC,cb,kD,d9];omega)) [(1000,3),(1001,900)] rfl rfl ?_
      conv=>whnf
      repeat'((first|refine aw0 ?_|refine awx ?_|refine AIx.map hlt ?_|refine cP (hR) ?_|refine cP (hsp_p) ?_|refine AOp.eqNil false rfl underlying62 (.inr (.inr ⟨_,_,_,rfl,rfl⟩)) ?_|refine AW.i64 Mo Mo ?_|exact rr|refine And.intro rfl ?_|refine AB.mk (λh=>?_) (λh=>?_))<;>conv=>whnf)
      refine aB.mk ⟨k+2,hlt,by omega,?_,ak.cons rfl (ak.cons rfl (ak.cons (congrArg some (congrArg (AO.row 5 1) hrow)) ak.nil))⟩
      exact hds
   ·have e7:k=7:=by omega
    subst e7
    have hc:decide (((7:Nat):Int)<((bf.map eS).length:Int))=false:=by simp[bf]
    repeat'((first|refine aw0 ?_|refine awx ?_|refine aa.meth (Ds (txt w 7) (If Mq)) [(1000,3),(1001,900)] rfl rfl ?_|exact rr|refine And.intro rfl ?_|refine AB.mk (λh=>?_) (λh=>?_))<;>conv=>whnf)
end Go.Proofs.YtehobfglmeiglaaGreatDoor
