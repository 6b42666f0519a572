/-
  DERIVED. GIVEN WITH THE SEED: THE CARDS: each row of YtnigjppddilpcaaGreatDoorRows.lean that lists a variable, with what it lists TIED to the program's text (the seventh form; the later family's looks); each row that meets fmt, with fmt's text TOLD by the authors' own Lean function (tested against real Go, not proved from fmt's source: count such statements apart). THE CARD IS WHAT COUNTS. Prove the row's statement (the work); the ties are given (YtnigjppddilpcaaGreatDoorTie.lean); close each card by the builder's one call (the guide's Derived/Test/ToyasCard.lean, 'card_holds'). Laid BY PROGRAM, IN A SANDBOX (cutbox-door.mjs). By AI agents, Wed Nov 11 2026. No macro, syntax, notation, axiom, sorry.
-/
import Derived.Test.YtnigjppddilpcaaGreatDoorRows
import GoSem.ClaimSeven
namespace Go.Proofs.YtnigjppddilpcaaGreatDoor
namespace Rows

/-- THE TIED CARD OF 'workflowlaw23.EventcodeEncode'. -/
def eventcodeEncodeCard : Claim7 := { stood := { row := eventcodeEncodeRow, standIns := [], harness := (true, "d3f8171a6e7a074e1ea4c0673278b9b1af8a30a7aeabba1b339a565d3619567c"), looks := true }, kinds := [], alts := [], laidByText := true, laidKinds := [.data, .data, .data, .sentinel, .sentinel], laidTests := true, laidLooks := .later }
def EventcodeEncodeCardSaid : Prop := Claim7.holds Tryz.pinned (.plain (OpenSpec.ofChange eventcodeEncodeSpec)) eventcodeEncodeCard

/-- THE TIED CARD OF 'workflowlaw23.EventcodeBatch'. -/
def eventcodeBatchCard : Claim7 := { stood := { row := eventcodeBatchRow, standIns := [], harness := (true, "d3f8171a6e7a074e1ea4c0673278b9b1af8a30a7aeabba1b339a565d3619567c"), looks := true }, kinds := [], alts := [], laidByText := true, laidKinds := [.data, .data, .data, .sentinel, .sentinel], laidTests := true, laidLooks := .later }
def EventcodeBatchCardSaid : Prop := Claim7.holds Tryz.pinned (.plain (OpenSpec.ofChange eventcodeBatchSpec)) eventcodeBatchCard

/-- THE TIED CARD OF 'workflowlaw23.EventcodeUnbatch'. -/
def eventcodeUnbatchCard : Claim7 := { stood := { row := eventcodeUnbatchRow, standIns := [], harness := (true, "d3f8171a6e7a074e1ea4c0673278b9b1af8a30a7aeabba1b339a565d3619567c"), looks := true }, kinds := [], alts := [], laidByText := true, laidKinds := [.data, .data, .data, .sentinel, .sentinel], laidTests := true, laidLooks := .later }
def EventcodeUnbatchCardSaid : Prop := Claim7.holds Tryz.pinned (.plain (OpenSpec.ofChange eventcodeUnbatchSpec)) eventcodeUnbatchCard

/-- THE TIED CARD OF 'workflowlaw23.EventcodeChanged'. -/
def eventcodeChangedCard : Claim7 := { stood := { row := eventcodeChangedRow, standIns := [], harness := (true, "d3f8171a6e7a074e1ea4c0673278b9b1af8a30a7aeabba1b339a565d3619567c"), looks := true }, kinds := [], alts := [], laidByText := true, laidKinds := [.data, .data, .data, .sentinel, .sentinel], laidTests := true, laidLooks := .later }
def EventcodeChangedCardSaid : Prop := Claim7.holds Tryz.pinned (.plain (OpenSpec.ofChange eventcodeChangedSpec)) eventcodeChangedCard

/-- THE TIED CARD OF 'workflowlaw23.EventcodeDecode'. -/
def eventcodeDecodeCard : Claim7 := { stood := { row := eventcodeDecodeRow, standIns := [], harness := (true, "d3f8171a6e7a074e1ea4c0673278b9b1af8a30a7aeabba1b339a565d3619567c"), looks := true }, kinds := [], alts := [], laidByText := true, laidKinds := [.data, .data, .data, .sentinel, .sentinel], laidTests := true, laidLooks := .later }
def EventcodeDecodeCardSaid : Prop := Claim7.holds Tryz.pinned (.plain (OpenSpec.ofChange eventcodeDecodeSpec)) eventcodeDecodeCard

/-- THE TIED CARD OF 'workflowlaw23.EventcodeRound'. -/
def eventcodeRoundCard : Claim7 := { stood := { row := eventcodeRoundRow, standIns := [], harness := (true, "d3f8171a6e7a074e1ea4c0673278b9b1af8a30a7aeabba1b339a565d3619567c"), looks := true }, kinds := [], alts := [], laidByText := true, laidKinds := [.data, .data, .data, .sentinel, .sentinel], laidTests := true, laidLooks := .later }
def EventcodeRoundCardSaid : Prop := Claim7.holds Tryz.pinned (.plain (OpenSpec.ofChange eventcodeRoundSpec)) eventcodeRoundCard

/-- THE TIED CARD OF 'workflowlaw48.RequestEncodes'. -/
def requestEncodesCard : Claim7 := { stood := { row := requestEncodesRow, standIns := [], harness := (true, "d3f8171a6e7a074e1ea4c0673278b9b1af8a30a7aeabba1b339a565d3619567c"), looks := true }, kinds := [], alts := [], laidByText := true, laidKinds := [.data, .data, .data, .sentinel, .sentinel], laidTests := true, laidLooks := .later }
def RequestEncodesCardSaid : Prop := Claim7.holds Tryz.pinned (.plain (OpenSpec.ofChange requestEncodesSpec)) requestEncodesCard

/-- THE TIED CARD OF 'workflowlaw48.RequestRoundTrip'. -/
def requestRoundTripCard : Claim7 := { stood := { row := requestRoundTripRow, standIns := [], harness := (true, "d3f8171a6e7a074e1ea4c0673278b9b1af8a30a7aeabba1b339a565d3619567c"), looks := true }, kinds := [], alts := [], laidByText := true, laidKinds := [.data, .data, .data, .sentinel, .sentinel], laidTests := true, laidLooks := .later }
def RequestRoundTripCardSaid : Prop := Claim7.holds Tryz.pinned (.plain (OpenSpec.ofChange requestRoundTripSpec)) requestRoundTripCard

/-- THE TIED CARD OF 'workflowlaw48.RequestRight'. -/
def requestRightCard : Claim7 := { stood := { row := requestRightRow, standIns := [], harness := (true, "d3f8171a6e7a074e1ea4c0673278b9b1af8a30a7aeabba1b339a565d3619567c"), looks := true }, kinds := [], alts := [], laidByText := true, laidKinds := [.data, .data, .data, .sentinel, .sentinel], laidTests := true, laidLooks := .later }
def RequestRightCardSaid : Prop := Claim7.holds Tryz.pinned (.plain (OpenSpec.ofChange requestRightSpec)) requestRightCard

/-- THE TIED CARD OF 'workflowlaw48.RequestSame'. -/
def requestSameCard : Claim7 := { stood := { row := requestSameRow, standIns := [], harness := (true, "d3f8171a6e7a074e1ea4c0673278b9b1af8a30a7aeabba1b339a565d3619567c"), looks := true }, kinds := [], alts := [], laidByText := true, laidKinds := [.data, .data, .data, .sentinel, .sentinel], laidTests := true, laidLooks := .later }
def RequestSameCardSaid : Prop := Claim7.holds Tryz.pinned (.plain (OpenSpec.ofChange requestSameSpec)) requestSameCard

/-- THE TIED CARD OF 'workflowlaw48.RequestDecodes'. -/
def requestDecodesCard : Claim7 := { stood := { row := requestDecodesRow, standIns := [], harness := (true, "d3f8171a6e7a074e1ea4c0673278b9b1af8a30a7aeabba1b339a565d3619567c"), looks := true }, kinds := [], alts := [], laidByText := true, laidKinds := [.data, .data, .data, .sentinel, .sentinel], laidTests := true, laidLooks := .later }
def RequestDecodesCardSaid : Prop := Claim7.holds Tryz.pinned (.plain (OpenSpec.ofChange requestDecodesSpec)) requestDecodesCard

/-- THE TIED CARD OF 'workflowlaw48.RequestReplies'. -/
def requestRepliesCard : Claim7 := { stood := { row := requestRepliesRow, standIns := [], harness := (true, "d3f8171a6e7a074e1ea4c0673278b9b1af8a30a7aeabba1b339a565d3619567c"), looks := true }, kinds := [], alts := [], laidByText := true, laidKinds := [.data, .data, .data, .sentinel, .sentinel], laidTests := true, laidLooks := .later }
def RequestRepliesCardSaid : Prop := Claim7.holds Tryz.pinned (.plain (OpenSpec.ofChange requestRepliesSpec)) requestRepliesCard

/-- THE SECOND FORM's CARD OF 'workflowlaw23.EventcodeEncode'. -/
def eventcodeEncodeUptoCard : Claim7 := { stood := { row := eventcodeEncodeUptoRow, standIns := [], harness := (true, "d3f8171a6e7a074e1ea4c0673278b9b1af8a30a7aeabba1b339a565d3619567c"), looks := true }, kinds := [], alts := [], laidByText := true, laidKinds := [.data, .data, .data, .sentinel, .sentinel], laidTests := true, laidLooks := .later }
def EventcodeEncodeUptoCardSaid : Prop := Claim7.holds Tryz.pinned (.plain (OpenSpec.upto eventcodeEncodeSpec)) eventcodeEncodeUptoCard

/-- THE SECOND FORM's CARD OF 'workflowlaw23.EventcodeBatch'. -/
def eventcodeBatchUptoCard : Claim7 := { stood := { row := eventcodeBatchUptoRow, standIns := [], harness := (true, "d3f8171a6e7a074e1ea4c0673278b9b1af8a30a7aeabba1b339a565d3619567c"), looks := true }, kinds := [], alts := [], laidByText := true, laidKinds := [.data, .data, .data, .sentinel, .sentinel], laidTests := true, laidLooks := .later }
def EventcodeBatchUptoCardSaid : Prop := Claim7.holds Tryz.pinned (.plain (OpenSpec.upto eventcodeBatchSpec)) eventcodeBatchUptoCard

/-- THE SECOND FORM's CARD OF 'workflowlaw23.EventcodeUnbatch'. -/
def eventcodeUnbatchUptoCard : Claim7 := { stood := { row := eventcodeUnbatchUptoRow, standIns := [], harness := (true, "d3f8171a6e7a074e1ea4c0673278b9b1af8a30a7aeabba1b339a565d3619567c"), looks := true }, kinds := [], alts := [], laidByText := true, laidKinds := [.data, .data, .data, .sentinel, .sentinel], laidTests := true, laidLooks := .later }
def EventcodeUnbatchUptoCardSaid : Prop := Claim7.holds Tryz.pinned (.plain (OpenSpec.upto eventcodeUnbatchSpec)) eventcodeUnbatchUptoCard

/-- THE SECOND FORM's CARD OF 'workflowlaw23.EventcodeChanged'. -/
def eventcodeChangedUptoCard : Claim7 := { stood := { row := eventcodeChangedUptoRow, standIns := [], harness := (true, "d3f8171a6e7a074e1ea4c0673278b9b1af8a30a7aeabba1b339a565d3619567c"), looks := true }, kinds := [], alts := [], laidByText := true, laidKinds := [.data, .data, .data, .sentinel, .sentinel], laidTests := true, laidLooks := .later }
def EventcodeChangedUptoCardSaid : Prop := Claim7.holds Tryz.pinned (.plain (OpenSpec.upto eventcodeChangedSpec)) eventcodeChangedUptoCard

/-- THE SECOND FORM's CARD OF 'workflowlaw23.EventcodeDecode'. -/
def eventcodeDecodeUptoCard : Claim7 := { stood := { row := eventcodeDecodeUptoRow, standIns := [], harness := (true, "d3f8171a6e7a074e1ea4c0673278b9b1af8a30a7aeabba1b339a565d3619567c"), looks := true }, kinds := [], alts := [], laidByText := true, laidKinds := [.data, .data, .data, .sentinel, .sentinel], laidTests := true, laidLooks := .later }
def EventcodeDecodeUptoCardSaid : Prop := Claim7.holds Tryz.pinned (.plain (OpenSpec.upto eventcodeDecodeSpec)) eventcodeDecodeUptoCard

/-- THE SECOND FORM's CARD OF 'workflowlaw23.EventcodeRound'. -/
def eventcodeRoundUptoCard : Claim7 := { stood := { row := eventcodeRoundUptoRow, standIns := [], harness := (true, "d3f8171a6e7a074e1ea4c0673278b9b1af8a30a7aeabba1b339a565d3619567c"), looks := true }, kinds := [], alts := [], laidByText := true, laidKinds := [.data, .data, .data, .sentinel, .sentinel], laidTests := true, laidLooks := .later }
def EventcodeRoundUptoCardSaid : Prop := Claim7.holds Tryz.pinned (.plain (OpenSpec.upto eventcodeRoundSpec)) eventcodeRoundUptoCard

/-- THE SECOND FORM's CARD OF 'workflowlaw48.RequestEncodes'. -/
def requestEncodesUptoCard : Claim7 := { stood := { row := requestEncodesUptoRow, standIns := [], harness := (true, "d3f8171a6e7a074e1ea4c0673278b9b1af8a30a7aeabba1b339a565d3619567c"), looks := true }, kinds := [], alts := [], laidByText := true, laidKinds := [.data, .data, .data, .sentinel, .sentinel], laidTests := true, laidLooks := .later }
def RequestEncodesUptoCardSaid : Prop := Claim7.holds Tryz.pinned (.plain (OpenSpec.upto requestEncodesSpec)) requestEncodesUptoCard

/-- THE SECOND FORM's CARD OF 'workflowlaw48.RequestRoundTrip'. -/
def requestRoundTripUptoCard : Claim7 := { stood := { row := requestRoundTripUptoRow, standIns := [], harness := (true, "d3f8171a6e7a074e1ea4c0673278b9b1af8a30a7aeabba1b339a565d3619567c"), looks := true }, kinds := [], alts := [], laidByText := true, laidKinds := [.data, .data, .data, .sentinel, .sentinel], laidTests := true, laidLooks := .later }
def RequestRoundTripUptoCardSaid : Prop := Claim7.holds Tryz.pinned (.plain (OpenSpec.upto requestRoundTripSpec)) requestRoundTripUptoCard

/-- THE SECOND FORM's CARD OF 'workflowlaw48.RequestRight'. -/
def requestRightUptoCard : Claim7 := { stood := { row := requestRightUptoRow, standIns := [], harness := (true, "d3f8171a6e7a074e1ea4c0673278b9b1af8a30a7aeabba1b339a565d3619567c"), looks := true }, kinds := [], alts := [], laidByText := true, laidKinds := [.data, .data, .data, .sentinel, .sentinel], laidTests := true, laidLooks := .later }
def RequestRightUptoCardSaid : Prop := Claim7.holds Tryz.pinned (.plain (OpenSpec.upto requestRightSpec)) requestRightUptoCard

/-- THE SECOND FORM's CARD OF 'workflowlaw48.RequestSame'. -/
def requestSameUptoCard : Claim7 := { stood := { row := requestSameUptoRow, standIns := [], harness := (true, "d3f8171a6e7a074e1ea4c0673278b9b1af8a30a7aeabba1b339a565d3619567c"), looks := true }, kinds := [], alts := [], laidByText := true, laidKinds := [.data, .data, .data, .sentinel, .sentinel], laidTests := true, laidLooks := .later }
def RequestSameUptoCardSaid : Prop := Claim7.holds Tryz.pinned (.plain (OpenSpec.upto requestSameSpec)) requestSameUptoCard

/-- THE SECOND FORM's CARD OF 'workflowlaw48.RequestDecodes'. -/
def requestDecodesUptoCard : Claim7 := { stood := { row := requestDecodesUptoRow, standIns := [], harness := (true, "d3f8171a6e7a074e1ea4c0673278b9b1af8a30a7aeabba1b339a565d3619567c"), looks := true }, kinds := [], alts := [], laidByText := true, laidKinds := [.data, .data, .data, .sentinel, .sentinel], laidTests := true, laidLooks := .later }
def RequestDecodesUptoCardSaid : Prop := Claim7.holds Tryz.pinned (.plain (OpenSpec.upto requestDecodesSpec)) requestDecodesUptoCard

/-- THE SECOND FORM's CARD OF 'workflowlaw48.RequestReplies'. -/
def requestRepliesUptoCard : Claim7 := { stood := { row := requestRepliesUptoRow, standIns := [], harness := (true, "d3f8171a6e7a074e1ea4c0673278b9b1af8a30a7aeabba1b339a565d3619567c"), looks := true }, kinds := [], alts := [], laidByText := true, laidKinds := [.data, .data, .data, .sentinel, .sentinel], laidTests := true, laidLooks := .later }
def RequestRepliesUptoCardSaid : Prop := Claim7.holds Tryz.pinned (.plain (OpenSpec.upto requestRepliesSpec)) requestRepliesUptoCard
end Rows
end Go.Proofs.YtnigjppddilpcaaGreatDoor
