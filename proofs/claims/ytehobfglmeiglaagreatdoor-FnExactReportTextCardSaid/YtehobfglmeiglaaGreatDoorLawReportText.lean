/- LawReportText -/
import Derived.Test.YtehobfglmeiglaaGreatDoorLawLaid
import Derived.Test.YtehobfglmeiglaaGreatDoorWU5
import Derived.Test.YtehobfglmeiglaaGreatDoorWJReportText
import Derived.Test.YtehobfglmeiglaaGreatDoorJ03
import Derived.Test.YtehobfglmeiglaaGreatDoorJ16
import Derived.Test.YtehobfglmeiglaaGreatDoorCards
import Derived.Test.YtehobfglmeiglaaGreatDoorTie
import Derived.SevenTiedAt
import Derived.MakeChecks
set_option linter.unusedVariables false
set_option linter.unusedSimpArgs false
namespace Go.Proofs.YtehobfglmeiglaaGreatDoor.lawReportText
open Go.Proofs.Tryz
open Go.ChangeShapes Go.WideShapes Go.RowKit
theorem Eh(os:Os)(args:Array Value):laidMetH Tryz.prog Rows.fnExactReportTextRow.laid ((World.doorLaid Tryz.prog 72 os).forCall (λ_ _=>0) ⟨#[],args,[]⟩).memory:=
 laidMetH_of_parts3 (fuel:=8) (laidMet_of_run' 8 Mp Mp) Mp Mp
theorem Id{W:World}(h:laidMetH Tryz.prog Rows.fnExactReportTextRow.laid W):Tab W:=by
 rw[MakeChecks.laidMetH_plain _ _ _ Mp]at h
 exact zX rfl Mp h
set_option maxRecDepth 100000 in
theorem lifted(os:Os)(started:os.Started)(H:Type)(enc:TypeId×Value->H):
  ReturnsInHanded {} Tryz.checked os 3 .any (λw args=>(Rows.fnExactReportTextSpec.pre enc Tryz.prog Tryz.f3 [] false w args/\laidMetH Tryz.prog Rows.fnExactReportTextRow.laid w)/\sizedMet enc Tryz.prog Tryz.f3 (OpenSpec.ofChange Rows.fnExactReportTextSpec) false w args) (Rows.fnExactReportTextSpec.post enc Tryz.prog Tryz.f3 false true false false):=by
 refine law_lifted_laid (L:=Rows.fnExactReportTextRow.laid) (C:=Tryz.checked) (tb:=4) Mp started Mp func3 Mp Mp rfl Mp underlying4 ?_
  (ChangeSpec.witness_shaped (enc:=enc) (C:=Tryz.checked) (os:=os) (X:=λw _=>laidMetH Tryz.prog Rows.fnExactReportTextRow.laid w) false (World.doorLaid Tryz.prog 72 os) #[.agg #[(.slice none 0 0),(.slice none 0 0),(.slice none 0 0),(.slice none 0 0),(.int .i64 0),(.int .i64 0),(.int .i64 0),(.slice none 0 0),(.int .i64 0),(.int .i64 0),(.int .i64 0),(.slice none 0 0),(.bool false),(.int .i64 0),(.int .i64 0),(.slice none 0 0),(.slice none 0 0),(.int .i64 0),(.slice none 0 0),(.slice none 0 0),(.slice none 0 0),(.int .i64 0),(.int .i64 0),(.slice none 0 0),(.slice none 0 0),(.int .i64 0),(.int .i64 0),(.int .i64 0),(.int .i64 0),(.int .i64 0),(.int .i64 0),(.int .i64 0),(.int .i64 0),(.int .i64 0),(.int .i64 0),(.int .i64 0),(.int .i64 0),(.int .i64 0),(.slice none 0 0),(.bool false),(.int .i64 0),(.int .i64 0),(.int .i64 0),(.int .i64 0),(.int .i64 0),(.int .i64 0),(.int .i64 0),(.int .i64 0),(.int .i64 0),(.int .i64 0),(.int .i64 0),(.int .i64 0),(.int .i64 0),(.slice none 0 0),(.bool false),(.int .i64 0),(.int .i64 0),(.int .i64 0),(.int .i64 0),(.int .i64 0),(.int .i64 0),(.int .i64 0),(.slice none 0 0),(.slice none 0 0),(.int .i64 0),(.int .i64 0),(.slice none 0 0),(.slice none 0 0),(.int .i64 0),(.slice none 0 0),(.slice none 0 0),(.slice none 0 0),(.slice none 0 0)]] 8 rfl (World.shaped_of_RefB Mp Mp) Mp Mp Mp (Eh os _)) ?_
 ·intro ds h
  match ds,h with
  |[d],_=>rfl
 ·intro W base args ds p hval hA hfz hsh hL
  rw[Tryz.params3]at hA hval
  obtain⟨v0,vs0,d0,ds0,p0,q0,hargs,rfl,rfl,h0,r0⟩:=trodAll_cons hA
  obtain⟨rfl,rfl,rfl⟩:=trodAll_nil r0
  obtain rfl:args= #[v0]:=by cases args;simp_all
  obtain⟨cs,rfl,_⟩:=okWide_struct underlying65 (hval 0 65 v0 rfl rfl)
  obtain⟨fuel,hf⟩:=h0
  obtain⟨o,F,hrd⟩:=uT H enc W 0 _ _ fuel _ _ hf
  exact(lawReportText_p o (Do.h hrd)).walk (Gy hsh (Id hL)) rfl λi p u hp hu=>by
   cases i with
   |zero=>
    simp at hp hu
    subst hp hu
    exact Enc.agg (f:=DWorld.ds) DWorld.enc hrd
   |succ i=>simp at hp
theorem Iu:Rows.FnExactReportTextSaid:=
 OpenClaim.holds_of_wide 3 Tryz.f3 rfl rfl rfl rfl rfl rfl rfl ⟨rfl,rfl,rfl,rfl,rfl⟩ rfl rfl rfl rfl rfl Mp func3 o5
  (of_decide_eq_true Mp) (by unfold Func.isWrapper;first|(rw[if_pos (by decide+kernel)];kernel_rfl)|(rw[if_neg (by decide+kernel)];exact⟨rfl,rfl⟩))
  (λos started H enc _=>lifted os started H enc)
#print axioms Iu
end Go.Proofs.YtehobfglmeiglaaGreatDoor.lawReportText
