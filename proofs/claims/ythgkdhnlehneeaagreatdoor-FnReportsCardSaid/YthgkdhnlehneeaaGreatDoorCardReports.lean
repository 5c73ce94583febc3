/- The tied card of FnReports: the row proved, its tables tied to the program's text. -/
import Derived.Test.YthgkdhnlehneeaaGreatDoorCardReportsB
namespace Go.Proofs.YthgkdhnlehneeaaGreatDoor.lawReports
open Go
theorem proved:Rows.FnReportsCardSaid:=
 Claim7.holds_tied_plain_at .later [] [.data,.data,.data,.data,.sentinel,.sentinel,.pinned] true Rows.fnReportsCard.stood.harness Rows.fnReportsCard.stood.looks
  XL (λ_ h=>by cases h) ae (λ_ h=>by cases h) fnReports_row_tie rfl ⟨rfl,rfl⟩ Rd rfl
  (λf fn hf hfn=>by
   obtain rfl:f=3:=Option.some.inj ((show Tryz.prog.funcNamed Rows.fnReportsRow.func=some 3 by kernel_rfl).symm.trans hf)|>.symm
   obtain rfl:fn=Tryz.f3:=(Option.some.inj (Tryz.func3.symm.trans hfn)).symm
   exact⟨NW,λj t ht=>by
    rw[Tryz.params3]at ht
    have h3:t=22:=by
     rcases j with _|j
     ·simpa using ht.symm
     ·simp at ht
    subst h3
    exact NX⟩)
  Rc
#print axioms proved
end Go.Proofs.YthgkdhnlehneeaaGreatDoor.lawReports
