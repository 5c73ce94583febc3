/- J16 -/
import Derived.Test.YtehobfglmeiglaaGreatDoorJ03
import Derived.Deep.Slices
import Derived.ChangeArms
import Derived.Test.YtehobfglmeiglaaGreatDoorJ04
set_option linter.unusedVariables false
set_option linter.unusedSimpArgs false
set_option maxRecDepth 100000
namespace Go.Proofs.YtehobfglmeiglaaGreatDoor
open Go.Proofs.Tryz
open Go.ChangeShapes Go.WideShapes Go.RowKit Go.Deep
def bz(P:Program)(t:TypeId){α:Type}(R:Rep α):Prop:=
 ∀(H:Type) (enc:TypeId×Value->H) (w:World) (base:Nat) (spare:Nat->Bool) (held:Bool) (fuel:Nat) (cs:List Value) (y:DataW H×List MemPlace),
  DataW.trod enc P w base spare held fuel t cs=some y->∃a F,R.rd w cs a F
theorem an{P:Program}{t:TypeId}{k:IntKind}(ht:P.underlying t=some (.int k)):bz P t (Rep.int k):=by
 intro H enc w base spare held fuel cs y h
 obtain⟨n,rfl,_,hw⟩:=DataW.trod_int ht h
 exact⟨n,[],rfl,hw,rfl⟩
theorem mL{P:Program}{t:TypeId}(ht:P.underlying t=some .bool):bz P t Rep.bool:=by
 intro H enc w base spare held fuel cs y h
 obtain⟨n,rfl,_⟩:=DataW.trod_bool ht h
 exact⟨n,[],rfl,rfl⟩
theorem bx{P:Program}{t e:TypeId}{α:Type}{R:Rep α}(ht:P.underlying t=some (.slice e))(hc:P.cellsOf e=R.size)(hr:bz P e R):bz P t (Rep.sl R):=by
 intro H enc w base spare held fuel cs y h
 rcases open_slice ht h with⟨rfl,_⟩|⟨a,len,cap,m,n,D,Pl,rfl,hb,hl,hm,hmm,_,hi⟩
 ·exact⟨[],[],none,0,[],[],rfl,Nat.le_refl _,Nat.zero_le _,λj hj=>absurd hj (Nat.not_lt_zero _),⟨rfl,rfl⟩,rfl⟩
 ·have hlm:len<=m:=by rw[hmm];split<;>omega
  have key:∀q,q<=len->∃(l:List α) (xs:List Value) (F:List Nat),l.length=q/\R.all w xs l F/\∀(j:Nat) (u:Value),xs[j]? =some u->w.cell? (a.add j)=some u:=by
   intro q
   induction q with
   |zero=>intro _;exact⟨[],[],[],rfl,⟨rfl,rfl⟩,by intro j u hu;simp at hu⟩
   |succ q ih=>
    intro hq
    obtain⟨l,xs,F,hll,hall,hx⟩:=ih Mo
    obtain⟨cs',h1,h2⟩:=hi q Mo
    obtain⟨_,hcl,hat⟩:=World.cells?_some h1
    obtain⟨b,F',hrd⟩:=hr H enc w base spare held n cs' _ h2
    have hxl:=Rep.all_len hall
    refine⟨l++[b],xs++cs',F++F',by simp[hll],Rep.all_snoc hall hrd,λj u hu=>?_⟩
    by_cases hj:j<xs.length
    ·rw[List.getElem?_append_left hj]at hu
     exact hx j u hu
    ·rw[List.getElem?_append_right Mo]at hu
     have hjl:j-xs.length<cs'.length:=(List.getElem?_eq_some_iff.1 hu).1
     have:=hat (j-xs.length) Mo
     rw[hu,Go.Deep.add_add,hc,<-hll,<-hxl,show xs.length+(j-xs.length)=j by omega]at this
     exact this
  obtain⟨l,xs,F,hll,hall,hx⟩:=key len (Nat.le_refl _)
  refine⟨l,ft (some a) xs++F,some a,cap,xs,F,by rw[hll],by omega,hm,?_,hall,rfl⟩
  intro j0 hj0
  have h0:=hx 0 xs[0] (List.getElem?_eq_getElem Mo)
  have ea:a.add 0=a:=by simp[Addr.add]
  rw[ea]at h0
  have hlt:=World.block_lt_of_cell? w a h0
  have hsp:a.spot=none:=by
   unfold World.cell? at h0
   split at h0
   ·split at h0
    ·cases h0
    ·rename_i hs;simpa using hs
   ·cases h0
  obtain⟨b,off,sp⟩:=a
  simp only at hsp
  subst hsp
  refine⟨b,off,rfl,hlt,λi u hu=>?_⟩
  have:=hx i u hu
  rwa[show(⟨b,off,none⟩:Addr).add i=⟨b,off+i,none⟩by unfold Addr.add;split<;>simp_all]at this
theorem aS{P:Program}{H:Type}{enc:TypeId×Value->H}{w:World}{base:Nat}{spare:Nat->Bool}{held:Bool}{fuel:Nat}{cs:List Value}{f:Field}{o s:Nat}{α:Type}{R:Rep α}
  (h:bz P f.type R) {y:Option (DataW H×List MemPlace)} (hf:DataW.trod enc P w base spare held fuel f.type ((cs.drop f.offset).take (P.cellsOf f.type))=y) (hy:y.isSome=true) (ho:f.offset=o) (hs:P.cellsOf f.type=s) (hl:cs.length=o+s):
  ∃a F,R.rd w (cs.drop o) a F:=by
 obtain⟨y',rfl⟩:=Option.isSome_iff_exists.1 hy
 rw[ho,hs,List.take_of_length_le Mv]at hf
 exact h H enc w base spare held fuel _ _ hf
theorem am{P:Program}{H:Type}{enc:TypeId×Value->H}{w:World}{base:Nat}{spare:Nat->Bool}{held:Bool}{fuel:Nat}{cs:List Value}{f:Field}{o s:Nat}{α β:Type}{R:Rep α}{S:Rep β}
  (h:bz P f.type R) {y:Option (DataW H×List MemPlace)} (hf:DataW.trod enc P w base spare held fuel f.type ((cs.drop f.offset).take (P.cellsOf f.type))=y) (hy:y.isSome=true) (ho:f.offset=o) (hs:P.cellsOf f.type=s)
  (hrest:∃b G,S.rd w (cs.drop (o+s)) b G):∃a F,(Rep.pair R S).rd w (cs.drop o) a F:=by
 obtain⟨y',rfl⟩:=Option.isSome_iff_exists.1 hy
 rw[ho,hs]at hf
 obtain⟨a,F,ha⟩:=h H enc w base spare held fuel _ _ hf
 obtain⟨b,G,hb⟩:=hrest
 exact⟨(a,b),F++G,_,_,F,G,by rw[<-List.drop_drop,List.take_append_drop],rfl,ha,hb⟩
theorem ap{α:Type}{l:List α}{n j:Nat}(h:l.length=n)(hj:j<n):(l[j]?).isSome=true:=by simp;omega
end Go.Proofs.YtehobfglmeiglaaGreatDoor
namespace Go.Proofs.YtehobfglmeiglaaGreatDoor
open Go.Proofs.Tryz
open Go.ChangeShapes Go.WideShapes Go.RowKit
theorem Eg:Tryz.prog.cellsOf 51=5:=by kernel_rfl
theorem oK:bz Tryz.prog 51 Rep.DOp:=by
 intro H enc w base spare held fuel cs y h
 obtain⟨ys,n,_,_,hl,hyl,hf⟩:=DataW.trod_struct underlying51 h
 rw[Eg]at hl
 have hk:=am (o:=0) (s:=1) (an underlying2) (hf 0 _ rfl) (ap hyl Mq) rfl Mp
  (am (o := 1) (s := 1) (an underlying2) (hf 1 _ rfl) (ap hyl Mq) rfl Mp
  (am (o := 2) (s := 1) (an underlying2) (hf 2 _ rfl) (ap hyl Mq) rfl Mp
  (am (o := 3) (s := 1) (an underlying2) (hf 3 _ rfl) (ap hyl Mq) rfl Mp
  (aS (o:=4) (s:=1) (an underlying2) (hf 4 _ rfl) (ap hyl Mq) rfl Mp hl))))
 obtain⟨⟨a0,a1,a2,a3,a4⟩,F,hk⟩:=hk
 exact⟨⟨a0,a1,a2,a3,a4⟩,F,hk⟩
theorem yq:Tryz.prog.cellsOf 309=9:=by kernel_rfl
theorem uP:bz Tryz.prog 309 Rep.DEntry:=by
 intro H enc w base spare held fuel cs y h
 obtain⟨ys,n,_,_,hl,hyl,hf⟩:=DataW.trod_struct underlying309 h
 rw[yq]at hl
 have hk:=am (o:=0) (s:=1) (an underlying2) (hf 0 _ rfl) (ap hyl Mq) rfl Mp
  (am (o := 1) (s := 1) (an underlying2) (hf 1 _ rfl) (ap hyl Mq) rfl Mp
  (am (o := 2) (s := 1) (an underlying2) (hf 2 _ rfl) (ap hyl Mq) rfl Mp
  (am (o := 3) (s := 1) (an underlying2) (hf 3 _ rfl) (ap hyl Mq) rfl Mp
  (aS (o:=4) (s:=5) oK (hf 4 _ rfl) (ap hyl Mq) rfl Mp hl))))
 obtain⟨⟨a0,a1,a2,a3,a4⟩,F,hk⟩:=hk
 exact⟨⟨a0,a1,a2,a3,a4⟩,F,hk⟩
theorem AZ:Tryz.prog.cellsOf 250=7:=by kernel_rfl
theorem xT:bz Tryz.prog 250 Rep.DWant:=by
 intro H enc w base spare held fuel cs y h
 obtain⟨ys,n,_,_,hl,hyl,hf⟩:=DataW.trod_struct underlying250 h
 rw[AZ]at hl
 have hk:=am (o:=0) (s:=1) (an underlying2) (hf 0 _ rfl) (ap hyl Mq) rfl Mp
  (am (o := 1) (s := 5) oK (hf 1 _ rfl) (ap hyl Mq) rfl Mp
  (aS (o:=6) (s:=1) (an underlying2) (hf 2 _ rfl) (ap hyl Mq) rfl Mp hl))
 obtain⟨⟨a0,a1,a2⟩,F,hk⟩:=hk
 exact⟨⟨a0,a1,a2⟩,F,hk⟩
end Go.Proofs.YtehobfglmeiglaaGreatDoor
namespace Go.Proofs.YtehobfglmeiglaaGreatDoor
open Go.Proofs.Tryz
open Go.ChangeShapes Go.WideShapes Go.RowKit
theorem yx:Tryz.prog.cellsOf 293=2:=by kernel_rfl
theorem uU:bz Tryz.prog 293 Rep.DWrite:=by
 intro H enc w base spare held fuel cs y h
 obtain⟨ys,n,_,_,hl,hyl,hf⟩:=DataW.trod_struct underlying293 h
 rw[yx]at hl
 have hk:=
  am (o:=0) (s:=1) (an underlying2) (hf 0 _ rfl) (ap hyl Mq) rfl Mp
  (aS (o:=1) (s:=1) (bx underlying62 Mp (an underlying2)) (hf 1 _ rfl) (ap hyl Mq) rfl Mp hl)
 obtain⟨⟨a0,a1⟩,F,hk⟩:=hk
 exact⟨⟨a0,a1⟩,F,hk⟩
theorem AN:Tryz.prog.cellsOf 25=2:=by kernel_rfl
theorem kp:bz Tryz.prog 25 Rep.DDisk:=by
 intro H enc w base spare held fuel cs y h
 obtain⟨ys,n,_,_,hl,hyl,hf⟩:=DataW.trod_struct underlying25 h
 rw[AN]at hl
 have hk:=
  am (o:=0) (s:=1) (bx underlying22 Mp (bx underlying62 Mp (an underlying2))) (hf 0 _ rfl) (ap hyl Mq) rfl Mp
  (aS (o:=1) (s:=1) (bx underlying23 Mp uU) (hf 1 _ rfl) (ap hyl Mq) rfl Mp hl)
 obtain⟨⟨a0,a1⟩,F,hk⟩:=hk
 exact⟨⟨a0,a1⟩,F,hk⟩
theorem CO:Tryz.prog.cellsOf 27=4:=by kernel_rfl
theorem Af:bz Tryz.prog 27 Rep.DTwo:=by
 intro H enc w base spare held fuel cs y h
 obtain⟨ys,n,_,_,hl,hyl,hf⟩:=DataW.trod_struct underlying27 h
 rw[CO]at hl
 have hk:=
  am (o:=0) (s:=2) kp (hf 0 _ rfl) (ap hyl Mq) rfl Mp
  (aS (o:=2) (s:=2) kp (hf 1 _ rfl) (ap hyl Mq) rfl Mp hl)
 obtain⟨⟨a0,a1⟩,F,hk⟩:=hk
 exact⟨⟨a0,a1⟩,F,hk⟩
theorem AU:Tryz.prog.cellsOf 237=3:=by kernel_rfl
theorem p3:bz Tryz.prog 237 Rep.DMark:=by
 intro H enc w base spare held fuel cs y h
 obtain⟨ys,n,_,_,hl,hyl,hf⟩:=DataW.trod_struct underlying237 h
 rw[AU]at hl
 have hk:=
  am (o:=0) (s:=1) (an underlying2) (hf 0 _ rfl) (ap hyl Mq) rfl Mp
  (am (o := 1) (s := 1) (an underlying2) (hf 1 _ rfl) (ap hyl Mq) rfl Mp
  (aS (o:=2) (s:=1) (an underlying2) (hf 2 _ rfl) (ap hyl Mq) rfl Mp hl))
 obtain⟨⟨a0,a1,a2⟩,F,hk⟩:=hk
 exact⟨⟨a0,a1,a2⟩,F,hk⟩
theorem AQ:Tryz.prog.cellsOf 30=4:=by kernel_rfl
theorem pZ:bz Tryz.prog 30 Rep.DHead:=by
 intro H enc w base spare held fuel cs y h
 obtain⟨ys,n,_,_,hl,hyl,hf⟩:=DataW.trod_struct underlying30 h
 rw[AQ]at hl
 have hk:=
  am (o:=0) (s:=1) (an underlying2) (hf 0 _ rfl) (ap hyl Mq) rfl Mp
  (am (o := 1) (s := 1) (an underlying2) (hf 1 _ rfl) (ap hyl Mq) rfl Mp
  (am (o := 2) (s := 1) (an underlying2) (hf 2 _ rfl) (ap hyl Mq) rfl Mp
  (aS (o:=3) (s:=1) (bx underlying28 Mp p3) (hf 3 _ rfl) (ap hyl Mq) rfl Mp hl)))
 obtain⟨⟨a0,a1,a2,a3⟩,F,hk⟩:=hk
 exact⟨⟨a0,a1,a2,a3⟩,F,hk⟩
theorem AM:Tryz.prog.cellsOf 33=3:=by kernel_rfl
theorem xO:bz Tryz.prog 33 Rep.DBook:=by
 intro H enc w base spare held fuel cs y h
 obtain⟨ys,n,_,_,hl,hyl,hf⟩:=DataW.trod_struct underlying33 h
 rw[AM]at hl
 have hk:=
  am (o:=0) (s:=1) (an underlying2) (hf 0 _ rfl) (ap hyl Mq) rfl Mp
  (am (o := 1) (s := 1) (an underlying2) (hf 1 _ rfl) (ap hyl Mq) rfl Mp
  (aS (o:=2) (s:=1) (bx underlying31 Mp uP) (hf 2 _ rfl) (ap hyl Mq) rfl Mp hl))
 obtain⟨⟨a0,a1,a2⟩,F,hk⟩:=hk
 exact⟨⟨a0,a1,a2⟩,F,hk⟩
theorem CI:Tryz.prog.cellsOf 241=4:=by kernel_rfl
theorem z8:bz Tryz.prog 241 Rep.DAck:=by
 intro H enc w base spare held fuel cs y h
 obtain⟨ys,n,_,_,hl,hyl,hf⟩:=DataW.trod_struct underlying241 h
 rw[CI]at hl
 have hk:=
  am (o:=0) (s:=1) (an underlying2) (hf 0 _ rfl) (ap hyl Mq) rfl Mp
  (am (o := 1) (s := 1) (an underlying2) (hf 1 _ rfl) (ap hyl Mq) rfl Mp
  (am (o := 2) (s := 1) (an underlying2) (hf 2 _ rfl) (ap hyl Mq) rfl Mp
  (aS (o:=3) (s:=1) (an underlying2) (hf 3 _ rfl) (ap hyl Mq) rfl Mp hl)))
 obtain⟨⟨a0,a1,a2,a3⟩,F,hk⟩:=hk
 exact⟨⟨a0,a1,a2,a3⟩,F,hk⟩
theorem uI:Tryz.prog.cellsOf 36=19:=by kernel_rfl
theorem rH:bz Tryz.prog 36 Rep.DLogNode:=by
 intro H enc w base spare held fuel cs y h
 obtain⟨ys,n,_,_,hl,hyl,hf⟩:=DataW.trod_struct underlying36 h
 rw[uI]at hl
 have hk:=
  am (o:=0) (s:=4) Af (hf 0 _ rfl) (ap hyl Mq) rfl Mp
  (am (o := 4) (s := 4) pZ (hf 1 _ rfl) (ap hyl Mq) rfl Mp
  (am (o := 8) (s := 4) pZ (hf 2 _ rfl) (ap hyl Mq) rfl Mp
  (am (o := 12) (s := 1) (mL underlying4) (hf 3 _ rfl) (ap hyl Mq) rfl Mp
  (am (o := 13) (s := 3) xO (hf 4 _ rfl) (ap hyl Mq) rfl Mp
  (am (o := 16) (s := 1) (bx underlying28 Mp p3) (hf 5 _ rfl) (ap hyl Mq) rfl Mp
  (am (o := 17) (s := 1) (an underlying2) (hf 6 _ rfl) (ap hyl Mq) rfl Mp
  (aS (o:=18) (s:=1) (bx underlying34 Mp z8) (hf 7 _ rfl) (ap hyl Mq) rfl Mp hl)))))))
 obtain⟨⟨a0,a1,a2,a3,a4,a5,a6,a7⟩,F,hk⟩:=hk
 exact⟨⟨a0,a1,a2,a3,a4,a5,a6,a7⟩,F,hk⟩
theorem AX:Tryz.prog.cellsOf 315=2:=by kernel_rfl
theorem xR:bz Tryz.prog 315 Rep.DPair:=by
 intro H enc w base spare held fuel cs y h
 obtain⟨ys,n,_,_,hl,hyl,hf⟩:=DataW.trod_struct underlying315 h
 rw[AX]at hl
 have hk:=
  am (o:=0) (s:=1) (an underlying2) (hf 0 _ rfl) (ap hyl Mq) rfl Mp
  (aS (o:=1) (s:=1) (an underlying2) (hf 1 _ rfl) (ap hyl Mq) rfl Mp hl)
 obtain⟨⟨a0,a1⟩,F,hk⟩:=hk
 exact⟨⟨a0,a1⟩,F,hk⟩
theorem CL:Tryz.prog.cellsOf 317=5:=by kernel_rfl
theorem Ac:bz Tryz.prog 317 Rep.DJob:=by
 intro H enc w base spare held fuel cs y h
 obtain⟨ys,n,_,_,hl,hyl,hf⟩:=DataW.trod_struct underlying317 h
 rw[CL]at hl
 have hk:=
  am (o:=0) (s:=1) (an underlying2) (hf 0 _ rfl) (ap hyl Mq) rfl Mp
  (am (o := 1) (s := 1) (an underlying2) (hf 1 _ rfl) (ap hyl Mq) rfl Mp
  (am (o := 2) (s := 1) (an underlying2) (hf 2 _ rfl) (ap hyl Mq) rfl Mp
  (am (o := 3) (s := 1) (an underlying2) (hf 3 _ rfl) (ap hyl Mq) rfl Mp
  (aS (o:=4) (s:=1) (an underlying2) (hf 4 _ rfl) (ap hyl Mq) rfl Mp hl))))
 obtain⟨⟨a0,a1,a2,a3,a4⟩,F,hk⟩:=hk
 exact⟨⟨a0,a1,a2,a3,a4⟩,F,hk⟩
theorem yr:Tryz.prog.cellsOf 40=3:=by kernel_rfl
theorem uQ:bz Tryz.prog 40 Rep.DLease:=by
 intro H enc w base spare held fuel cs y h
 obtain⟨ys,n,_,_,hl,hyl,hf⟩:=DataW.trod_struct underlying40 h
 rw[yr]at hl
 have hk:=
  am (o:=0) (s:=1) (an underlying2) (hf 0 _ rfl) (ap hyl Mq) rfl Mp
  (am (o := 1) (s := 1) (an underlying2) (hf 1 _ rfl) (ap hyl Mq) rfl Mp
  (aS (o:=2) (s:=1) (an underlying2) (hf 2 _ rfl) (ap hyl Mq) rfl Mp hl))
 obtain⟨⟨a0,a1,a2⟩,F,hk⟩:=hk
 exact⟨⟨a0,a1,a2⟩,F,hk⟩
theorem yu:Tryz.prog.cellsOf 42=7:=by kernel_rfl
theorem uR:bz Tryz.prog 42 Rep.DState:=by
 intro H enc w base spare held fuel cs y h
 obtain⟨ys,n,_,_,hl,hyl,hf⟩:=DataW.trod_struct underlying42 h
 rw[yu]at hl
 have hk:=
  am (o:=0) (s:=1) (an underlying2) (hf 0 _ rfl) (ap hyl Mq) rfl Mp
  (am (o := 1) (s := 1) (an underlying2) (hf 1 _ rfl) (ap hyl Mq) rfl Mp
  (am (o := 2) (s := 1) (bx underlying37 Mp xR) (hf 2 _ rfl) (ap hyl Mq) rfl Mp
  (am (o := 3) (s := 1) (bx underlying38 Mp Ac) (hf 3 _ rfl) (ap hyl Mq) rfl Mp
  (aS (o:=4) (s:=3) uQ (hf 4 _ rfl) (ap hyl Mq) rfl Mp hl))))
 obtain⟨⟨a0,a1,a2,a3,a4⟩,F,hk⟩:=hk
 exact⟨⟨a0,a1,a2,a3,a4⟩,F,hk⟩
theorem yv:Tryz.prog.cellsOf 44=12:=by kernel_rfl
theorem uS:bz Tryz.prog 44 Rep.DStore:=by
 intro H enc w base spare held fuel cs y h
 obtain⟨ys,n,_,_,hl,hyl,hf⟩:=DataW.trod_struct underlying44 h
 rw[yv]at hl
 have hk:=
  am (o:=0) (s:=2) kp (hf 0 _ rfl) (ap hyl Mq) rfl Mp
  (am (o := 2) (s := 7) uR (hf 1 _ rfl) (ap hyl Mq) rfl Mp
  (am (o := 9) (s := 1) (an underlying2) (hf 2 _ rfl) (ap hyl Mq) rfl Mp
  (am (o := 10) (s := 1) (an underlying2) (hf 3 _ rfl) (ap hyl Mq) rfl Mp
  (aS (o:=11) (s:=1) (an underlying2) (hf 4 _ rfl) (ap hyl Mq) rfl Mp hl))))
 obtain⟨⟨a0,a1,a2,a3,a4⟩,F,hk⟩:=hk
 exact⟨⟨a0,a1,a2,a3,a4⟩,F,hk⟩
theorem CJ:Tryz.prog.cellsOf 344=2:=by kernel_rfl
theorem Aa:bz Tryz.prog 344 Rep.DDue:=by
 intro H enc w base spare held fuel cs y h
 obtain⟨ys,n,_,_,hl,hyl,hf⟩:=DataW.trod_struct underlying344 h
 rw[CJ]at hl
 have hk:=
  am (o:=0) (s:=1) (an underlying2) (hf 0 _ rfl) (ap hyl Mq) rfl Mp
  (aS (o:=1) (s:=1) (an underlying2) (hf 1 _ rfl) (ap hyl Mq) rfl Mp hl)
 obtain⟨⟨a0,a1⟩,F,hk⟩:=hk
 exact⟨⟨a0,a1⟩,F,hk⟩
theorem AS:Tryz.prog.cellsOf 47=6:=by kernel_rfl
theorem xP:bz Tryz.prog 47 Rep.DJobs:=by
 intro H enc w base spare held fuel cs y h
 obtain⟨ys,n,_,_,hl,hyl,hf⟩:=DataW.trod_struct underlying47 h
 rw[AS]at hl
 have hk:=
  am (o:=0) (s:=1) (an underlying2) (hf 0 _ rfl) (ap hyl Mq) rfl Mp
  (am (o := 1) (s := 1) (an underlying2) (hf 1 _ rfl) (ap hyl Mq) rfl Mp
  (am (o := 2) (s := 1) (an underlying2) (hf 2 _ rfl) (ap hyl Mq) rfl Mp
  (am (o := 3) (s := 1) (an underlying2) (hf 3 _ rfl) (ap hyl Mq) rfl Mp
  (am (o := 4) (s := 1) (an underlying2) (hf 4 _ rfl) (ap hyl Mq) rfl Mp
  (aS (o:=5) (s:=1) (bx underlying45 Mp Aa) (hf 5 _ rfl) (ap hyl Mq) rfl Mp hl)))))
 obtain⟨⟨a0,a1,a2,a3,a4,a5⟩,F,hk⟩:=hk
 exact⟨⟨a0,a1,a2,a3,a4,a5⟩,F,hk⟩
theorem AY:Tryz.prog.cellsOf 49=6:=by kernel_rfl
theorem xS:bz Tryz.prog 49 Rep.DView:=by
 intro H enc w base spare held fuel cs y h
 obtain⟨ys,n,_,_,hl,hyl,hf⟩:=DataW.trod_struct underlying49 h
 rw[AY]at hl
 have hk:=
  aS (o:=0) (s:=6) xP (hf 0 _ rfl) (ap hyl Mq) rfl Mp hl
 obtain⟨a0,F,hk⟩:=hk
 exact⟨⟨a0⟩,F,hk⟩
theorem yt:Tryz.prog.cellsOf 53=15:=by kernel_rfl
theorem n8:bz Tryz.prog 53 Rep.DSched:=by
 intro H enc w base spare held fuel cs y h
 obtain⟨ys,n,_,_,hl,hyl,hf⟩:=DataW.trod_struct underlying53 h
 rw[yt]at hl
 have hk:=
  am (o:=0) (s:=1) (an underlying2) (hf 0 _ rfl) (ap hyl Mq) rfl Mp
  (am (o := 1) (s := 1) (an underlying2) (hf 1 _ rfl) (ap hyl Mq) rfl Mp
  (am (o := 2) (s := 6) xS (hf 2 _ rfl) (ap hyl Mq) rfl Mp
  (am (o := 8) (s := 1) (mL underlying4) (hf 3 _ rfl) (ap hyl Mq) rfl Mp
  (am (o := 9) (s := 5) oK (hf 4 _ rfl) (ap hyl Mq) rfl Mp
  (aS (o:=14) (s:=1) (an underlying2) (hf 5 _ rfl) (ap hyl Mq) rfl Mp hl)))))
 obtain⟨⟨a0,a1,a2,a3,a4,a5⟩,F,hk⟩:=hk
 exact⟨⟨a0,a1,a2,a3,a4,a5⟩,F,hk⟩
theorem CK:Tryz.prog.cellsOf 252=4:=by kernel_rfl
theorem Ab:bz Tryz.prog 252 Rep.DGot:=by
 intro H enc w base spare held fuel cs y h
 obtain⟨ys,n,_,_,hl,hyl,hf⟩:=DataW.trod_struct underlying252 h
 rw[CK]at hl
 have hk:=
  am (o:=0) (s:=1) (an underlying2) (hf 0 _ rfl) (ap hyl Mq) rfl Mp
  (am (o := 1) (s := 1) (an underlying2) (hf 1 _ rfl) (ap hyl Mq) rfl Mp
  (am (o := 2) (s := 1) (an underlying2) (hf 2 _ rfl) (ap hyl Mq) rfl Mp
  (aS (o:=3) (s:=1) (an underlying2) (hf 3 _ rfl) (ap hyl Mq) rfl Mp hl)))
 obtain⟨⟨a0,a1,a2,a3⟩,F,hk⟩:=hk
 exact⟨⟨a0,a1,a2,a3⟩,F,hk⟩
theorem xe:Tryz.prog.cellsOf 57=4:=by kernel_rfl
theorem mK:bz Tryz.prog 57 Rep.DClient:=by
 intro H enc w base spare held fuel cs y h
 obtain⟨ys,n,_,_,hl,hyl,hf⟩:=DataW.trod_struct underlying57 h
 rw[xe]at hl
 have hk:=
  am (o:=0) (s:=1) (an underlying2) (hf 0 _ rfl) (ap hyl Mq) rfl Mp
  (am (o := 1) (s := 1) (bx underlying54 Mp xT) (hf 1 _ rfl) (ap hyl Mq) rfl Mp
  (am (o := 2) (s := 1) (bx underlying55 Mp Ab) (hf 2 _ rfl) (ap hyl Mq) rfl Mp
  (aS (o:=3) (s:=1) (an underlying2) (hf 3 _ rfl) (ap hyl Mq) rfl Mp hl)))
 obtain⟨⟨a0,a1,a2,a3⟩,F,hk⟩:=hk
 exact⟨⟨a0,a1,a2,a3⟩,F,hk⟩
theorem CM:Tryz.prog.cellsOf 211=3:=by kernel_rfl
theorem Ad:bz Tryz.prog 211 Rep.DMsg:=by
 intro H enc w base spare held fuel cs y h
 obtain⟨ys,n,_,_,hl,hyl,hf⟩:=DataW.trod_struct underlying211 h
 rw[CM]at hl
 have hk:=
  am (o:=0) (s:=1) (an underlying2) (hf 0 _ rfl) (ap hyl Mq) rfl Mp
  (am (o := 1) (s := 1) (an underlying2) (hf 1 _ rfl) (ap hyl Mq) rfl Mp
  (aS (o:=2) (s:=1) (bx underlying62 Mp (an underlying2)) (hf 2 _ rfl) (ap hyl Mq) rfl Mp hl))
 obtain⟨⟨a0,a1,a2⟩,F,hk⟩:=hk
 exact⟨⟨a0,a1,a2⟩,F,hk⟩
theorem AT:Tryz.prog.cellsOf 255=2:=by kernel_rfl
theorem xQ:bz Tryz.prog 255 Rep.DLink:=by
 intro H enc w base spare held fuel cs y h
 obtain⟨ys,n,_,_,hl,hyl,hf⟩:=DataW.trod_struct underlying255 h
 rw[AT]at hl
 have hk:=
  am (o:=0) (s:=1) (an underlying2) (hf 0 _ rfl) (ap hyl Mq) rfl Mp
  (aS (o:=1) (s:=1) (an underlying2) (hf 1 _ rfl) (ap hyl Mq) rfl Mp hl)
 obtain⟨⟨a0,a1⟩,F,hk⟩:=hk
 exact⟨⟨a0,a1⟩,F,hk⟩
theorem CN:Tryz.prog.cellsOf 61=2:=by kernel_rfl
theorem Ae:bz Tryz.prog 61 Rep.DNet:=by
 intro H enc w base spare held fuel cs y h
 obtain⟨ys,n,_,_,hl,hyl,hf⟩:=DataW.trod_struct underlying61 h
 rw[CN]at hl
 have hk:=
  am (o:=0) (s:=1) (bx underlying58 Mp Ad) (hf 0 _ rfl) (ap hyl Mq) rfl Mp
  (aS (o:=1) (s:=1) (bx underlying59 Mp xQ) (hf 1 _ rfl) (ap hyl Mq) rfl Mp hl)
 obtain⟨⟨a0,a1⟩,F,hk⟩:=hk
 exact⟨⟨a0,a1⟩,F,hk⟩
theorem yw:Tryz.prog.cellsOf 65=73:=by kernel_rfl
theorem uT:bz Tryz.prog 65 Rep.DWorld:=by
 intro H enc w base spare held fuel cs y h
 obtain⟨ys,n,_,_,hl,hyl,hf⟩:=DataW.trod_struct underlying65 h
 rw[yw]at hl
 have hk:=
  am (o:=0) (s:=19) rH (hf 0 _ rfl) (ap hyl Mq) rfl Mp
  (am (o := 19) (s := 12) uS (hf 1 _ rfl) (ap hyl Mq) rfl Mp
  (am (o := 31) (s := 15) n8 (hf 2 _ rfl) (ap hyl Mq) rfl Mp
  (am (o := 46) (s := 15) n8 (hf 3 _ rfl) (ap hyl Mq) rfl Mp
  (am (o := 61) (s := 4) mK (hf 4 _ rfl) (ap hyl Mq) rfl Mp
  (am (o := 65) (s := 4) mK (hf 5 _ rfl) (ap hyl Mq) rfl Mp
  (am (o := 69) (s := 2) Ae (hf 6 _ rfl) (ap hyl Mq) rfl Mp
  (am (o := 71) (s := 1) (bx underlying62 Mp (an underlying2)) (hf 7 _ rfl) (ap hyl Mq) rfl Mp
  (aS (o:=72) (s:=1) (bx underlying63 Mp (mL underlying4)) (hf 8 _ rfl) (ap hyl Mq) rfl Mp hl))))))))
 obtain⟨⟨a0,a1,a2,a3,a4,a5,a6,a7,a8⟩,F,hk⟩:=hk
 exact⟨⟨a0,a1,a2,a3,a4,a5,a6,a7,a8⟩,F,hk⟩
end Go.Proofs.YtehobfglmeiglaaGreatDoor
