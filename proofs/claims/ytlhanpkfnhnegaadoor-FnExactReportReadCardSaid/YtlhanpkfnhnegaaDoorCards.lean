/-
  DERIVED. GIVEN WITH THE SEED: THE CARDS: each row of YtlhanpkfnhnegaaDoorRows.lean that lists a variable, with what it lists TIED to the program's text (the seventh form; the later family's looks); each row that meets fmt, with fmt's text TOLD by the authors' own Lean function (tested against real Go, not proved from fmt's source: count such statements apart). THE CARD IS WHAT COUNTS. Prove the row's statement (the work); the ties are given (YtlhanpkfnhnegaaDoorTie.lean); close each card by the builder's one call (the guide's Derived/Test/ToyasCard.lean, 'card_holds'). Laid BY PROGRAM, IN A SANDBOX (cutbox-door.mjs). By AI agents, Wed Nov 11 2026. No macro, syntax, notation, axiom, sorry.
-/
import Derived.Test.YtlhanpkfnhnegaaDoorRows
import GoSem.ClaimSeven
namespace Go.Proofs.YtlhanpkfnhnegaaDoor
namespace Rows

/-- THE TIED CARD OF 'laws.FnExactOpText'. -/
def fnExactOpTextCard : Claim7 := { stood := { row := fnExactOpTextRow, standIns := [], harness := (true, "b243dc887ae6a8616ba72c6ce89ee480a6105a6dfea0f7883c2c8dc728c37ffb"), looks := true }, kinds := [], alts := [], laidByText := true, laidKinds := [.data, .data, .data], laidTests := true, laidLooks := .later }
def FnExactOpTextCardSaid : Prop := Claim7.holds Tryd.pinned (.plain (OpenSpec.ofChange fnExactOpTextSpec)) fnExactOpTextCard

/-- THE TIED CARD OF 'laws.FnExactEntryText'. -/
def fnExactEntryTextCard : Claim7 := { stood := { row := fnExactEntryTextRow, standIns := [], harness := (true, "b243dc887ae6a8616ba72c6ce89ee480a6105a6dfea0f7883c2c8dc728c37ffb"), looks := true }, kinds := [], alts := [], laidByText := true, laidKinds := [.data, .data, .data], laidTests := true, laidLooks := .later }
def FnExactEntryTextCardSaid : Prop := Claim7.holds Tryd.pinned (.plain (OpenSpec.ofChange fnExactEntryTextSpec)) fnExactEntryTextCard

/-- THE TIED CARD OF 'laws.FnExactWantText'. -/
def fnExactWantTextCard : Claim7 := { stood := { row := fnExactWantTextRow, standIns := [], harness := (true, "b243dc887ae6a8616ba72c6ce89ee480a6105a6dfea0f7883c2c8dc728c37ffb"), looks := true }, kinds := [], alts := [], laidByText := true, laidKinds := [.data, .data, .data], laidTests := true, laidLooks := .later }
def FnExactWantTextCardSaid : Prop := Claim7.holds Tryd.pinned (.plain (OpenSpec.ofChange fnExactWantTextSpec)) fnExactWantTextCard

/-- THE TIED CARD OF 'laws.FnExactStepText'. -/
def fnExactStepTextCard : Claim7 := { stood := { row := fnExactStepTextRow, standIns := [], harness := (true, "b243dc887ae6a8616ba72c6ce89ee480a6105a6dfea0f7883c2c8dc728c37ffb"), looks := true }, kinds := [], alts := [], laidByText := true, laidKinds := [.data, .data, .data], laidTests := true, laidLooks := .later }
def FnExactStepTextCardSaid : Prop := Claim7.holds Tryd.pinned (.plain (OpenSpec.ofChange fnExactStepTextSpec)) fnExactStepTextCard

/-- THE TIED CARD OF 'laws.FnExactScriptText'. -/
def fnExactScriptTextCard : Claim7 := { stood := { row := fnExactScriptTextRow, standIns := [], harness := (true, "b243dc887ae6a8616ba72c6ce89ee480a6105a6dfea0f7883c2c8dc728c37ffb"), looks := true }, kinds := [], alts := [], laidByText := true, laidKinds := [.data, .data, .data], laidTests := true, laidLooks := .later }
def FnExactScriptTextCardSaid : Prop := Claim7.holds Tryd.pinned (.plain (OpenSpec.ofChange fnExactScriptTextSpec)) fnExactScriptTextCard

/-- THE TIED CARD OF 'laws.FnExactTextOp'. -/
def fnExactTextOpCard : Claim7 := { stood := { row := fnExactTextOpRow, standIns := [], harness := (true, "b243dc887ae6a8616ba72c6ce89ee480a6105a6dfea0f7883c2c8dc728c37ffb"), looks := true }, kinds := [], alts := [], laidByText := true, laidKinds := [.data, .data, .data, .sentinel, .sentinel], laidTests := true, laidLooks := .later }
def FnExactTextOpCardSaid : Prop := Claim7.holds Tryd.pinned (.plain (OpenSpec.ofChange fnExactTextOpSpec)) fnExactTextOpCard

/-- THE TIED CARD OF 'laws.FnExactReportRead'. -/
def fnExactReportReadCard : Claim7 := { stood := { row := fnExactReportReadRow, standIns := [], harness := (true, "b243dc887ae6a8616ba72c6ce89ee480a6105a6dfea0f7883c2c8dc728c37ffb"), looks := true }, kinds := [], alts := [], laidByText := true, laidKinds := [.data, .data, .data, .data, .sentinel, .sentinel, .pinned], laidTests := true, laidLooks := .later }
def FnExactReportReadCardSaid : Prop := Claim7.holds Tryd.pinned (.plain (OpenSpec.ofChange fnExactReportReadSpec)) fnExactReportReadCard

/-- THE TIED CARD OF 'laws.FnExactTextEntry'. -/
def fnExactTextEntryCard : Claim7 := { stood := { row := fnExactTextEntryRow, standIns := [], harness := (true, "b243dc887ae6a8616ba72c6ce89ee480a6105a6dfea0f7883c2c8dc728c37ffb"), looks := true }, kinds := [], alts := [], laidByText := true, laidKinds := [.data, .data, .data, .sentinel, .sentinel], laidTests := true, laidLooks := .later }
def FnExactTextEntryCardSaid : Prop := Claim7.holds Tryd.pinned (.plain (OpenSpec.ofChange fnExactTextEntrySpec)) fnExactTextEntryCard

/-- THE TIED CARD OF 'laws.FnExactTextWant'. -/
def fnExactTextWantCard : Claim7 := { stood := { row := fnExactTextWantRow, standIns := [], harness := (true, "b243dc887ae6a8616ba72c6ce89ee480a6105a6dfea0f7883c2c8dc728c37ffb"), looks := true }, kinds := [], alts := [], laidByText := true, laidKinds := [.data, .data, .data, .sentinel, .sentinel], laidTests := true, laidLooks := .later }
def FnExactTextWantCardSaid : Prop := Claim7.holds Tryd.pinned (.plain (OpenSpec.ofChange fnExactTextWantSpec)) fnExactTextWantCard

/-- THE TIED CARD OF 'laws.FnExactTextStep'. -/
def fnExactTextStepCard : Claim7 := { stood := { row := fnExactTextStepRow, standIns := [], harness := (true, "b243dc887ae6a8616ba72c6ce89ee480a6105a6dfea0f7883c2c8dc728c37ffb"), looks := true }, kinds := [], alts := [], laidByText := true, laidKinds := [.data, .data, .data, .sentinel, .sentinel], laidTests := true, laidLooks := .later }
def FnExactTextStepCardSaid : Prop := Claim7.holds Tryd.pinned (.plain (OpenSpec.ofChange fnExactTextStepSpec)) fnExactTextStepCard

/-- THE TIED CARD OF 'laws.FnStepWords'. -/
def fnStepWordsCard : Claim7 := { stood := { row := fnStepWordsRow, standIns := [], harness := (true, "b243dc887ae6a8616ba72c6ce89ee480a6105a6dfea0f7883c2c8dc728c37ffb"), looks := true }, kinds := [], alts := [], laidByText := true, laidKinds := [.data, .data, .data, .sentinel, .sentinel], laidTests := true, laidLooks := .later }
def FnStepWordsCardSaid : Prop := Claim7.holds Tryd.pinned (.plain (OpenSpec.ofChange fnStepWordsSpec)) fnStepWordsCard

/-- THE TIED CARD OF 'laws.FnExactTextScript'. -/
def fnExactTextScriptCard : Claim7 := { stood := { row := fnExactTextScriptRow, standIns := [], harness := (true, "b243dc887ae6a8616ba72c6ce89ee480a6105a6dfea0f7883c2c8dc728c37ffb"), looks := true }, kinds := [], alts := [], laidByText := true, laidKinds := [.data, .data, .data, .sentinel, .sentinel], laidTests := true, laidLooks := .later }
def FnExactTextScriptCardSaid : Prop := Claim7.holds Tryd.pinned (.plain (OpenSpec.ofChange fnExactTextScriptSpec)) fnExactTextScriptCard

/-- THE SECOND FORM's CARD OF 'laws.FnExactOpText'. -/
def fnExactOpTextUptoCard : Claim7 := { stood := { row := fnExactOpTextUptoRow, standIns := [], harness := (true, "b243dc887ae6a8616ba72c6ce89ee480a6105a6dfea0f7883c2c8dc728c37ffb"), looks := true }, kinds := [], alts := [], laidByText := true, laidKinds := [.data, .data, .data], laidTests := true, laidLooks := .later }
def FnExactOpTextUptoCardSaid : Prop := Claim7.holds Tryd.pinned (.plain (OpenSpec.upto fnExactOpTextSpec)) fnExactOpTextUptoCard

/-- THE SECOND FORM's CARD OF 'laws.FnExactEntryText'. -/
def fnExactEntryTextUptoCard : Claim7 := { stood := { row := fnExactEntryTextUptoRow, standIns := [], harness := (true, "b243dc887ae6a8616ba72c6ce89ee480a6105a6dfea0f7883c2c8dc728c37ffb"), looks := true }, kinds := [], alts := [], laidByText := true, laidKinds := [.data, .data, .data], laidTests := true, laidLooks := .later }
def FnExactEntryTextUptoCardSaid : Prop := Claim7.holds Tryd.pinned (.plain (OpenSpec.upto fnExactEntryTextSpec)) fnExactEntryTextUptoCard

/-- THE SECOND FORM's CARD OF 'laws.FnExactWantText'. -/
def fnExactWantTextUptoCard : Claim7 := { stood := { row := fnExactWantTextUptoRow, standIns := [], harness := (true, "b243dc887ae6a8616ba72c6ce89ee480a6105a6dfea0f7883c2c8dc728c37ffb"), looks := true }, kinds := [], alts := [], laidByText := true, laidKinds := [.data, .data, .data], laidTests := true, laidLooks := .later }
def FnExactWantTextUptoCardSaid : Prop := Claim7.holds Tryd.pinned (.plain (OpenSpec.upto fnExactWantTextSpec)) fnExactWantTextUptoCard

/-- THE SECOND FORM's CARD OF 'laws.FnExactStepText'. -/
def fnExactStepTextUptoCard : Claim7 := { stood := { row := fnExactStepTextUptoRow, standIns := [], harness := (true, "b243dc887ae6a8616ba72c6ce89ee480a6105a6dfea0f7883c2c8dc728c37ffb"), looks := true }, kinds := [], alts := [], laidByText := true, laidKinds := [.data, .data, .data], laidTests := true, laidLooks := .later }
def FnExactStepTextUptoCardSaid : Prop := Claim7.holds Tryd.pinned (.plain (OpenSpec.upto fnExactStepTextSpec)) fnExactStepTextUptoCard

/-- THE SECOND FORM's CARD OF 'laws.FnExactScriptText'. -/
def fnExactScriptTextUptoCard : Claim7 := { stood := { row := fnExactScriptTextUptoRow, standIns := [], harness := (true, "b243dc887ae6a8616ba72c6ce89ee480a6105a6dfea0f7883c2c8dc728c37ffb"), looks := true }, kinds := [], alts := [], laidByText := true, laidKinds := [.data, .data, .data], laidTests := true, laidLooks := .later }
def FnExactScriptTextUptoCardSaid : Prop := Claim7.holds Tryd.pinned (.plain (OpenSpec.upto fnExactScriptTextSpec)) fnExactScriptTextUptoCard

/-- THE SECOND FORM's CARD OF 'laws.FnExactTextOp'. -/
def fnExactTextOpUptoCard : Claim7 := { stood := { row := fnExactTextOpUptoRow, standIns := [], harness := (true, "b243dc887ae6a8616ba72c6ce89ee480a6105a6dfea0f7883c2c8dc728c37ffb"), looks := true }, kinds := [], alts := [], laidByText := true, laidKinds := [.data, .data, .data, .sentinel, .sentinel], laidTests := true, laidLooks := .later }
def FnExactTextOpUptoCardSaid : Prop := Claim7.holds Tryd.pinned (.plain (OpenSpec.upto fnExactTextOpSpec)) fnExactTextOpUptoCard

/-- THE SECOND FORM's CARD OF 'laws.FnExactReportRead'. -/
def fnExactReportReadUptoCard : Claim7 := { stood := { row := fnExactReportReadUptoRow, standIns := [], harness := (true, "b243dc887ae6a8616ba72c6ce89ee480a6105a6dfea0f7883c2c8dc728c37ffb"), looks := true }, kinds := [], alts := [], laidByText := true, laidKinds := [.data, .data, .data, .data, .sentinel, .sentinel, .pinned], laidTests := true, laidLooks := .later }
def FnExactReportReadUptoCardSaid : Prop := Claim7.holds Tryd.pinned (.plain (OpenSpec.upto fnExactReportReadSpec)) fnExactReportReadUptoCard

/-- THE SECOND FORM's CARD OF 'laws.FnExactTextEntry'. -/
def fnExactTextEntryUptoCard : Claim7 := { stood := { row := fnExactTextEntryUptoRow, standIns := [], harness := (true, "b243dc887ae6a8616ba72c6ce89ee480a6105a6dfea0f7883c2c8dc728c37ffb"), looks := true }, kinds := [], alts := [], laidByText := true, laidKinds := [.data, .data, .data, .sentinel, .sentinel], laidTests := true, laidLooks := .later }
def FnExactTextEntryUptoCardSaid : Prop := Claim7.holds Tryd.pinned (.plain (OpenSpec.upto fnExactTextEntrySpec)) fnExactTextEntryUptoCard

/-- THE SECOND FORM's CARD OF 'laws.FnExactTextWant'. -/
def fnExactTextWantUptoCard : Claim7 := { stood := { row := fnExactTextWantUptoRow, standIns := [], harness := (true, "b243dc887ae6a8616ba72c6ce89ee480a6105a6dfea0f7883c2c8dc728c37ffb"), looks := true }, kinds := [], alts := [], laidByText := true, laidKinds := [.data, .data, .data, .sentinel, .sentinel], laidTests := true, laidLooks := .later }
def FnExactTextWantUptoCardSaid : Prop := Claim7.holds Tryd.pinned (.plain (OpenSpec.upto fnExactTextWantSpec)) fnExactTextWantUptoCard

/-- THE SECOND FORM's CARD OF 'laws.FnExactTextStep'. -/
def fnExactTextStepUptoCard : Claim7 := { stood := { row := fnExactTextStepUptoRow, standIns := [], harness := (true, "b243dc887ae6a8616ba72c6ce89ee480a6105a6dfea0f7883c2c8dc728c37ffb"), looks := true }, kinds := [], alts := [], laidByText := true, laidKinds := [.data, .data, .data, .sentinel, .sentinel], laidTests := true, laidLooks := .later }
def FnExactTextStepUptoCardSaid : Prop := Claim7.holds Tryd.pinned (.plain (OpenSpec.upto fnExactTextStepSpec)) fnExactTextStepUptoCard

/-- THE SECOND FORM's CARD OF 'laws.FnStepWords'. -/
def fnStepWordsUptoCard : Claim7 := { stood := { row := fnStepWordsUptoRow, standIns := [], harness := (true, "b243dc887ae6a8616ba72c6ce89ee480a6105a6dfea0f7883c2c8dc728c37ffb"), looks := true }, kinds := [], alts := [], laidByText := true, laidKinds := [.data, .data, .data, .sentinel, .sentinel], laidTests := true, laidLooks := .later }
def FnStepWordsUptoCardSaid : Prop := Claim7.holds Tryd.pinned (.plain (OpenSpec.upto fnStepWordsSpec)) fnStepWordsUptoCard

/-- THE SECOND FORM's CARD OF 'laws.FnExactTextScript'. -/
def fnExactTextScriptUptoCard : Claim7 := { stood := { row := fnExactTextScriptUptoRow, standIns := [], harness := (true, "b243dc887ae6a8616ba72c6ce89ee480a6105a6dfea0f7883c2c8dc728c37ffb"), looks := true }, kinds := [], alts := [], laidByText := true, laidKinds := [.data, .data, .data, .sentinel, .sentinel], laidTests := true, laidLooks := .later }
def FnExactTextScriptUptoCardSaid : Prop := Claim7.holds Tryd.pinned (.plain (OpenSpec.upto fnExactTextScriptSpec)) fnExactTextScriptUptoCard
end Rows
end Go.Proofs.YtlhanpkfnhnegaaDoor
