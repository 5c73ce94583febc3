/-
  DERIVED. GIVEN WITH THE SEED: THE CARDS: each row of YtehobfglmeiglaaGreatDoorRows.lean that lists a variable, with what it lists TIED to the program's text (the seventh form; the later family's looks); each row that meets fmt, with fmt's text TOLD by the authors' own Lean function (tested against real Go, not proved from fmt's source: count such statements apart). THE CARD IS WHAT COUNTS. Prove the row's statement (the work); the ties are given (YtehobfglmeiglaaGreatDoorTie.lean); close each card by the builder's one call (the guide's Derived/Test/ToyasCard.lean, 'card_holds'). Laid BY PROGRAM, IN A SANDBOX (cutbox-door.mjs). By AI agents, Wed Nov 11 2026. No macro, syntax, notation, axiom, sorry.
-/
import Derived.Test.YtehobfglmeiglaaGreatDoorRows
import GoSem.ClaimSeven
namespace Go.Proofs.YtehobfglmeiglaaGreatDoor
namespace Rows

/-- THE TIED CARD OF 'laws.FnExactReportText'. -/
def fnExactReportTextCard : Claim7 := { stood := { row := fnExactReportTextRow, standIns := [], harness := (true, "c40683c857ce5363a97ac3ba4ddbb0d02bde941440609cec06ddb17cf81a9269"), looks := false }, kinds := [], alts := [], laidByText := true, laidKinds := [.data, .data, .data], laidTests := true, laidLooks := .later }
def FnExactReportTextCardSaid : Prop := Claim7.holds Tryz.pinned (.plain (OpenSpec.ofChange fnExactReportTextSpec)) fnExactReportTextCard

/-- THE SECOND FORM's CARD OF 'laws.FnExactReportText'. -/
def fnExactReportTextUptoCard : Claim7 := { stood := { row := fnExactReportTextUptoRow, standIns := [], harness := (true, "c40683c857ce5363a97ac3ba4ddbb0d02bde941440609cec06ddb17cf81a9269"), looks := false }, kinds := [], alts := [], laidByText := true, laidKinds := [.data, .data, .data], laidTests := true, laidLooks := .later }
def FnExactReportTextUptoCardSaid : Prop := Claim7.holds Tryz.pinned (.plain (OpenSpec.upto fnExactReportTextSpec)) fnExactReportTextUptoCard
end Rows
end Go.Proofs.YtehobfglmeiglaaGreatDoor
