/- The tied card of Scripts: the row proved, its tables tied to the program's text. -/
import Derived.Test.YtnlhpdbijmnkhaaGreatDoorCardScriptsB
namespace Go.Proofs.YtnlhpdbijmnkhaaGreatDoor.lawScripts
open Go
theorem proved:Rows.FnScriptsCardSaid:=
 Claim7.holds_tied_plain_at .later [] [.data,.data,.data,.sentinel,.sentinel] true Rows.fnScriptsCard.stood.harness Rows.fnScriptsCard.stood.looks
  Fv (λ_ h=>by cases h) Iw (λ_ h=>by cases h) fnScripts_row_tie rfl ⟨rfl,rfl⟩ Ae rfl
  (λf fn hf hfn=>by
   obtain rfl:f=3:=Option.some.inj ((show Tryz.prog.funcNamed Rows.fnScriptsRow.func=some 3 by kernel_rfl).symm.trans hf)|>.symm
   obtain rfl:fn=Tryz.f3:=(Option.some.inj (Tryz.func3.symm.trans hfn)).symm
   exact⟨yj,λj t ht=>by
    rw[Tryz.params3]at ht
    have h3:t=22:=by
     rcases j with _|j
     ·simpa using ht.symm
     ·simp at ht
    subst h3
    exact yk⟩)
  Ad
#print axioms proved
end Go.Proofs.YtnlhpdbijmnkhaaGreatDoor.lawScripts
