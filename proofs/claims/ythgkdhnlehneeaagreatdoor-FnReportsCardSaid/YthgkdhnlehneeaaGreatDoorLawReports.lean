/- LawReports -/
import Derived.Test.YthgkdhnlehneeaaGreatDoorLawReportsA
import Derived.Test.YthgkdhnlehneeaaGreatDoorRPD
import Derived.Test.YthgkdhnlehneeaaGreatDoorWJReports
import Derived.Test.YthgkdhnlehneeaaGreatDoorAvQ
import Derived.Test.YthgkdhnlehneeaaGreatDoorAvFQ
import Derived.Test.YthgkdhnlehneeaaGreatDoorCards
import Derived.Test.YthgkdhnlehneeaaGreatDoorTie
import Derived.SevenTiedAt
import Derived.MakeChecks
import Derived.Lay
set_option maxHeartbeats 8000000
set_option linter.unusedVariables false
set_option linter.unusedSimpArgs false
namespace Go.Proofs.YthgkdhnlehneeaaGreatDoor.lawReports
open Go.Proofs.Tryz
open Go.ChangeShapes Go.WideShapes Go.RowKit
theorem UA{w:World}:∀{l:List Int} {xs:List Value} {F:List Nat},(Rep.int .u8).all w xs l F->∀x∈l,0<=x/\x<=255
 |[],_,_,_,x,hx=>by cases hx
 |a::l,_,_,⟨c1,c2,F1,F2,rfl,rfl,h1,h2⟩,x,hx=>by
  rcases List.mem_cons.1 hx with rfl|hx
  ·have hw:=h1.2.1;have e1:IntKind.u8.min=0:=ai;have e2:IntKind.u8.max=255:=ai;simp only[Lit.wf,Bool.and_eq_true,decide_eq_true_eq,e1,e2]at hw;omega
  ·exact UA h2 x hx
set_option maxRecDepth 100000 in
theorem lifted(os:Os)(started:os.Started)(H:Type)(enc:TypeId×Value->H):
  ReturnsInHanded {} Tryz.checked os 3 .any (λw args=>(Rows.fnReportsSpec.pre enc Tryz.prog Tryz.f3 [] false w args/\laidMetH Tryz.prog Rows.fnReportsRow.laid w)/\sizedMet enc Tryz.prog Tryz.f3 (OpenSpec.ofChange Rows.fnReportsSpec) false w args) (Rows.fnReportsSpec.post enc Tryz.prog Tryz.f3 false true false false):=by
 refine law_lifted_laid (L:=Rows.fnReportsRow.laid) (C:=Tryz.checked) (tb:=4) Xv started WB func3 WC WD rfl Xx underlying4 ?_
  (ChangeSpec.witness_shaped (enc:=enc) (C:=Tryz.checked) (os:=os) (X:=λw _=>laidMetH Tryz.prog Rows.fnReportsRow.laid w) false (World.laidAll Tryz.prog os Rows.fnReportsRow.laid) #[.slice none 0 0] 8 (World.laidAll_os _ _ _) (World.shaped_of_ZipB (WE os) (WF os)) (Zj os) (Xw os enc) (Zk os enc) (Tj os _)) ?_
 ·intro ds h;match ds,h with
  |[d],_=>rfl
 ·intro W base args ds p hval hA hfz hsh hL;rw[Tryz.params3]at hA hval;obtain⟨v0,vs0,d0,ds0,p0,q0,hargs,rfl,rfl,h0,r0⟩:=trodAll_cons hA;obtain⟨rfl,rfl,rfl⟩:=trodAll_nil r0;obtain rfl:args= #[v0]:=by cases args;simp_all
  obtain⟨a0,len,cap,rfl⟩:=okWide_slice underlying22 (hval 0 22 v0 rfl rfl);obtain⟨fuel,hf⟩:=h0;obtain⟨l,F,hrd⟩:=SF (R:=Rep.int .u8) underlying22 ae (Pz underlying5) H enc W 0 _ _ fuel _ _ hf;have hrd0:=hrd;obtain⟨A,cap0,xs,F1,hv,hc,hm,hrow,hall,rfl⟩:=hrd0;exact(lawReports_p l (UA hall)).walk (Vv hsh (WZ hL)) rfl λi p u hp hu=>by
   cases i with
   |zero=>
    simp at hp hu;subst hp hu;exact Enc.cell (f:=λl=> .sl (l.map eU)) (Enc.sl Enc.int) hrd
   |succ i=>simp at hp
theorem XL:Rows.FnReportsSaid:=
 OpenClaim.holds_of_wide 3 Tryz.f3 rfl rfl rfl rfl rfl rfl rfl ⟨rfl,rfl,rfl,rfl,rfl⟩ rfl rfl rfl rfl rfl ae func3 EF
  (of_decide_eq_true ae) (by unfold Func.isWrapper;first|(rw[if_pos (by decide+kernel)];kernel_rfl)|(rw[if_neg (by decide+kernel)];exact⟨rfl,rfl⟩))
  (λos started H enc _=>lifted os started H enc)
#print axioms XL
end Go.Proofs.YthgkdhnlehneeaaGreatDoor.lawReports
