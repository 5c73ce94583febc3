/- The tied card of Scripts: the row proved, its tables tied to the program's text. -/
import Derived.Test.YtnlhpdbijmnkhaaGreatDoorCardScriptsB
namespace Go.Proofs.YtnlhpdbijmnkhaaGreatDoor.lawScripts
open Go
theorem proved:Rows.FnScriptsCardSaid:=
 Claim7.holds_tied_plain_at .later [] [.data,.data,.data,.sentinel,.sentinel] true Rows.fnScriptsCard.stood.harness Rows.fnScriptsCard.stood.looks
  FA (λ_ h=>by cases h) IB (λ_ h=>by cases h) fnScripts_row_tie rfl ⟨rfl,rfl⟩ Aj rfl
  (λf fn hf hfn=>by
   obtain rfl:f=3:=Option.some.inj ((show Tryz.prog.funcNamed Rows.fnScriptsRow.func=some 3 by kernel_rfl).symm.trans hf)|>.symm
   obtain rfl:fn=Tryz.f3:=(Option.some.inj (Tryz.func3.symm.trans hfn)).symm
   exact⟨yo,λj t ht=>by
    rw[Tryz.params3]at ht
    have h3:t=22:=by
     rcases j with _|j
     ·simpa using ht.symm
     ·simp at ht
    subst h3
    exact yp⟩)
  Ai
#print axioms proved
end Go.Proofs.YtnlhpdbijmnkhaaGreatDoor.lawScripts
