/- J16 -/
import Derived.Test.YtnlhpdbijmnkhaaGreatDoorJ03
import Derived.Deep.Slices
import Derived.ChangeArms
set_option linter.unusedVariables false
set_option linter.unusedSimpArgs false
set_option maxRecDepth 100000
namespace Go.Proofs.YtnlhpdbijmnkhaaGreatDoor
open Go.ChangeShapes Go.WideShapes Go.RowKit Go.Deep
def xU(P:Program)(t:TypeId){α:Type}(R:Rep α):Prop:=
 ∀(H:Type) (enc:TypeId×Value->H) (w:World) (base:Nat) (spare:Nat->Bool) (held:Bool) (fuel:Nat) (cs:List Value) (y:DataW H×List MemPlace),
  DataW.trod enc P w base spare held fuel t cs=some y->∃a F,R.rd w cs a F
theorem zb{P:Program}{t:TypeId}{k:IntKind}(ht:P.underlying t=some (.int k)):xU P t (Rep.int k):=by
 intro H enc w base spare held fuel cs y h
 obtain⟨n,rfl,_,hw⟩:=DataW.trod_int ht h
 exact⟨n,[],rfl,hw,rfl⟩
theorem Bf{P:Program}{t e:TypeId}{α:Type}{R:Rep α}(ht:P.underlying t=some (.slice e))(hc:P.cellsOf e=R.size)(hr:xU P e R):xU P t (Rep.sl R):=by
 intro H enc w base spare held fuel cs y h
 rcases open_slice ht h with⟨rfl,_⟩|⟨a,len,cap,m,n,D,Pl,rfl,hb,hl,hm,hmm,_,hi⟩
 ·exact⟨[],[],none,0,[],[],rfl,Nat.le_refl _,Nat.zero_le _,λj hj=>absurd hj (Nat.not_lt_zero _),⟨rfl,rfl⟩,rfl⟩
 ·have hlm:len<=m:=by rw[hmm];split<;>omega
  have key:∀q,q<=len->∃(l:List α) (xs:List Value) (F:List Nat),l.length=q/\R.all w xs l F/\∀(j:Nat) (u:Value),xs[j]? =some u->w.cell? (a.add j)=some u:=by
   intro q
   induction q with
   |zero=>intro _;exact⟨[],[],[],rfl,⟨rfl,rfl⟩,by intro j u hu;simp at hu⟩
   |succ q ih=>
    intro hq
    obtain⟨l,xs,F,hll,hall,hx⟩:=ih Iv
    obtain⟨cs',h1,h2⟩:=hi q Iv
    obtain⟨_,hcl,hat⟩:=World.cells?_some h1
    obtain⟨b,F',hrd⟩:=hr H enc w base spare held n cs' _ h2
    have hxl:=Rep.all_len hall
    refine⟨l++[b],xs++cs',F++F',by simp[hll],Rep.all_snoc hall hrd,λj u hu=>?_⟩
    by_cases hj:j<xs.length
    ·rw[List.getElem?_append_left hj]at hu
     exact hx j u hu
    ·rw[List.getElem?_append_right Iv]at hu
     have hjl:j-xs.length<cs'.length:=(List.getElem?_eq_some_iff.1 hu).1
     have:=hat (j-xs.length) Iv
     rw[hu,Go.Deep.add_add,hc,<-hll,<-hxl,show xs.length+(j-xs.length)=j by omega]at this
     exact this
  obtain⟨l,xs,F,hll,hall,hx⟩:=key len (Nat.le_refl _)
  refine⟨l,dW (some a) xs++F,some a,cap,xs,F,by rw[hll],by omega,hm,?_,hall,rfl⟩
  intro j0 hj0
  have h0:=hx 0 xs[0] (List.getElem?_eq_getElem Iv)
  have ea:a.add 0=a:=by simp[Addr.add]
  rw[ea]at h0
  have hlt:=World.block_lt_of_cell? w a h0
  have hsp:a.spot=none:=by
   unfold World.cell? at h0
   split at h0
   ·split at h0
    ·cases h0
    ·rename_i hs;simpa using hs
   ·cases h0
  obtain⟨b,off,sp⟩:=a
  simp only at hsp
  subst hsp
  refine⟨b,off,rfl,hlt,λi u hu=>?_⟩
  have:=hx i u hu
  rwa[show(⟨b,off,none⟩:Addr).add i=⟨b,off+i,none⟩by unfold Addr.add;split<;>simp_all]at this
end Go.Proofs.YtnlhpdbijmnkhaaGreatDoor
namespace Go.Proofs.YtnlhpdbijmnkhaaGreatDoor
open Go.ChangeShapes Go.WideShapes Go.RowKit
end Go.Proofs.YtnlhpdbijmnkhaaGreatDoor
