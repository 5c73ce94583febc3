/- The tied card of ReportText: the row proved, its tables tied to the program's text. -/
import Derived.Test.YtehobfglmeiglaaGreatDoorCardReportTextB
namespace Go.Proofs.YtehobfglmeiglaaGreatDoor.lawReportText
open Go
theorem proved:Rows.FnExactReportTextCardSaid:=
 Claim7.holds_tied_plain_at .later [] [.data,.data,.data] true Rows.fnExactReportTextCard.stood.harness Rows.fnExactReportTextCard.stood.looks
  Iu (λ_ h=>by cases h) Mp (λ_ h=>by cases h) fnExactReportText_row_tie rfl ⟨rfl,rfl⟩ CH rfl
  (λf fn hf hfn=>by
   obtain rfl:f=3:=Option.some.inj ((show Tryz.prog.funcNamed Rows.fnExactReportTextRow.func=some 3 by kernel_rfl).symm.trans hf)|>.symm
   obtain rfl:fn=Tryz.f3:=(Option.some.inj (Tryz.func3.symm.trans hfn)).symm
   exact⟨AK,λj t ht=>by
    rw[Tryz.params3]at ht
    have h3:t=65:=by
     rcases j with _|j
     ·simpa using ht.symm
     ·simp at ht
    subst h3
    exact AL⟩)
  CG
#print axioms proved
end Go.Proofs.YtehobfglmeiglaaGreatDoor.lawReportText
