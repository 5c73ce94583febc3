/- LawScripts -/
import Derived.Test.YtnlhpdbijmnkhaaGreatDoorLawLaid
import Derived.Test.YtnlhpdbijmnkhaaGreatDoorJ19
import Derived.Test.YtnlhpdbijmnkhaaGreatDoorWJScripts
import Derived.Test.YtnlhpdbijmnkhaaGreatDoorJ03
import Derived.Test.YtnlhpdbijmnkhaaGreatDoorJ16
import Derived.Test.YtnlhpdbijmnkhaaGreatDoorCards
import Derived.Test.YtnlhpdbijmnkhaaGreatDoorTie
import Derived.SevenTiedAt
import Derived.MakeChecks
set_option linter.unusedVariables false
set_option linter.unusedSimpArgs false
namespace Go.Proofs.YtnlhpdbijmnkhaaGreatDoor.lawScripts
open Go.Proofs.Tryz
open Go.ChangeShapes Go.WideShapes Go.RowKit
theorem C0{w:World}:∀{l:List Int} {xs:List Value} {F:List Nat},(Rep.int .u8).all w xs l F->∀x∈l,0<=x/\x<=255
 |[],_,_,_,x,hx=>by cases hx
 |a::l,_,_,⟨c1,c2,F1,F2,rfl,rfl,h1,h2⟩,x,hx=>by
  rcases List.mem_cons.1 hx with rfl|hx
  ·have hw:=h1.2.1
   have e1:IntKind.u8.min=0:=by decide
   have e2:IntKind.u8.max=255:=by decide
   simp only[Lit.wf,Bool.and_eq_true,decide_eq_true_eq,e1,e2]at hw
   omega
  ·exact C0 h2 x hx
theorem BS(os:Os)(args:Array Value):laidMetH Tryz.prog Rows.fnScriptsRow.laid ((World.doorLaid Tryz.prog 72 os).forCall (λ_ _=>0) ⟨#[],args,[]⟩).memory:=
 laidMetH_of_parts3 (fuel:=8) (laidMet_of_run' 8 Iw Iw) Iw Iw
theorem Ff{W:World}(h:laidMetH Tryz.prog Rows.fnScriptsRow.laid W):Tab W:=by
 rw[MakeChecks.laidMetH_plain _ _ _ Iw]at h
 exact xJ rfl Iw h
set_option maxRecDepth 100000 in
theorem lifted(os:Os)(started:os.Started)(H:Type)(enc:TypeId×Value->H):
  ReturnsInHanded {} Tryz.checked os 3 .any (λw args=>(Rows.fnScriptsSpec.pre enc Tryz.prog Tryz.f3 [] false w args/\laidMetH Tryz.prog Rows.fnScriptsRow.laid w)/\sizedMet enc Tryz.prog Tryz.f3 (OpenSpec.ofChange Rows.fnScriptsSpec) false w args) (Rows.fnScriptsSpec.post enc Tryz.prog Tryz.f3 false true false false):=by
 refine law_lifted_laid (L:=Rows.fnScriptsRow.laid) (C:=Tryz.checked) (tb:=4) Iw started Iw func3 Iw Iw rfl Iw underlying4 ?_
  (ChangeSpec.witness_shaped (enc:=enc) (C:=Tryz.checked) (os:=os) (X:=λw _=>laidMetH Tryz.prog Rows.fnScriptsRow.laid w) false (World.doorLaid Tryz.prog 72 os) #[.slice none 0 0] 8 rfl (World.shaped_of_RefB Iw Iw) Iw Iw Iw (BS os _)) ?_
 ·intro ds h
  match ds,h with
  |[d],_=>rfl
 ·intro W base args ds p hval hA hfz hsh hL
  rw[Tryz.params3]at hA hval
  obtain⟨v0,vs0,d0,ds0,p0,q0,hargs,rfl,rfl,h0,r0⟩:=trodAll_cons hA
  obtain⟨rfl,rfl,rfl⟩:=trodAll_nil r0
  obtain rfl:args= #[v0]:=by cases args;simp_all
  obtain⟨a0,len,cap,rfl⟩:=okWide_slice underlying22 (hval 0 22 v0 rfl rfl)
  obtain⟨fuel,hf⟩:=h0
  obtain⟨l,F,hrd⟩:=Bf (R:=Rep.int .u8) underlying22 Iw (zb underlying5) H enc W 0 _ _ fuel _ _ hf
  have hrd0:=hrd
  obtain⟨A,cap0,xs,F1,hv,hc,hm,hrow,hall,rfl⟩:=hrd0
  exact(lawScripts_p l (C0 hall)).walk (D3 hsh (Ff hL)) rfl λi p u hp hu=>by
   cases i with
   |zero=>
    simp at hp hu
    subst hp hu
    exact Enc.cell (f:=λl=> .sl (l.map eU)) (Enc.sl Enc.int) hrd
   |succ i=>simp at hp
theorem Fv:Rows.FnScriptsSaid:=
 OpenClaim.holds_of_wide 3 Tryz.f3 rfl rfl rfl rfl rfl rfl rfl ⟨rfl,rfl,rfl,rfl,rfl⟩ rfl rfl rfl rfl rfl Iw func3 qP
  (of_decide_eq_true Iw) (by unfold Func.isWrapper;first|(rw[if_pos (by decide+kernel)];kernel_rfl)|(rw[if_neg (by decide+kernel)];exact⟨rfl,rfl⟩))
  (λos started H enc _=>lifted os started H enc)
#print axioms Fv
end Go.Proofs.YtnlhpdbijmnkhaaGreatDoor.lawScripts
