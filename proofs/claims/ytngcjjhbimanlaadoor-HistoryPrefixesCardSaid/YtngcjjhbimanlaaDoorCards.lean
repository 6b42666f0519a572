/-
  DERIVED. GIVEN WITH THE SEED: THE CARDS: each row of YtngcjjhbimanlaaDoorRows.lean that lists a variable, with what it lists TIED to the program's text (the seventh form; the later family's looks); each row that meets fmt, with fmt's text TOLD by the authors' own Lean function (tested against real Go, not proved from fmt's source: count such statements apart). THE CARD IS WHAT COUNTS. Prove the row's statement (the work); the ties are given (YtngcjjhbimanlaaDoorTie.lean); close each card by the builder's one call (the guide's Derived/Test/ToyasCard.lean, 'card_holds'). Laid BY PROGRAM, IN A SANDBOX (cutbox-door.mjs). By AI agents, Wed Nov 11 2026. No macro, syntax, notation, axiom, sorry.
-/
import Derived.Test.YtngcjjhbimanlaaDoorRows
import GoSem.ClaimSeven
namespace Go.Proofs.YtngcjjhbimanlaaDoor
namespace Rows

/-- THE TIED CARD OF 'workflowlaw22.EventValid'. -/
def eventValidCard : Claim7 := { stood := { row := eventValidRow, standIns := [], harness := (true, "56eaa0a54510910ec2cb6d46af7739268cd40a0ef6613cb1bc9ebf3b067edbc1"), looks := true }, kinds := [], alts := [], laidByText := true, laidKinds := [.data, .data, .data, .sentinel, .sentinel], laidTests := true, laidLooks := .later }
def EventValidCardSaid : Prop := Claim7.holds Tryd.pinned (.plain (OpenSpec.ofChange eventValidSpec)) eventValidCard

/-- THE TIED CARD OF 'workflowlaw22.EventSame'. -/
def eventSameCard : Claim7 := { stood := { row := eventSameRow, standIns := [], harness := (true, "56eaa0a54510910ec2cb6d46af7739268cd40a0ef6613cb1bc9ebf3b067edbc1"), looks := true }, kinds := [], alts := [], laidByText := true, laidKinds := [.data, .data, .data, .sentinel, .sentinel], laidTests := true, laidLooks := .later }
def EventSameCardSaid : Prop := Claim7.holds Tryd.pinned (.plain (OpenSpec.ofChange eventSameSpec)) eventSameCard

/-- THE TIED CARD OF 'workflowlaw22.EventKinds'. -/
def eventKindsCard : Claim7 := { stood := { row := eventKindsRow, standIns := [], harness := (true, "56eaa0a54510910ec2cb6d46af7739268cd40a0ef6613cb1bc9ebf3b067edbc1"), looks := true }, kinds := [], alts := [], laidByText := true, laidKinds := [.data, .data, .data, .sentinel, .sentinel], laidTests := true, laidLooks := .later }
def EventKindsCardSaid : Prop := Claim7.holds Tryd.pinned (.plain (OpenSpec.ofChange eventKindsSpec)) eventKindsCard

/-- THE TIED CARD OF 'workflowlaw24.HistoryPrefixes'. -/
def historyPrefixesCard : Claim7 := { stood := { row := historyPrefixesRow, standIns := [], harness := (true, "56eaa0a54510910ec2cb6d46af7739268cd40a0ef6613cb1bc9ebf3b067edbc1"), looks := true }, kinds := [], alts := [], laidByText := true, laidKinds := [.data, .data, .data, .sentinel, .sentinel], laidTests := true, laidLooks := .later }
def HistoryPrefixesCardSaid : Prop := Claim7.holds Tryd.pinned (.plain (OpenSpec.ofChange historyPrefixesSpec)) historyPrefixesCard

/-- THE TIED CARD OF 'workflowlaw24.HistoryFinds'. -/
def historyFindsCard : Claim7 := { stood := { row := historyFindsRow, standIns := [], harness := (true, "56eaa0a54510910ec2cb6d46af7739268cd40a0ef6613cb1bc9ebf3b067edbc1"), looks := true }, kinds := [], alts := [], laidByText := true, laidKinds := [.data, .data, .data, .sentinel, .sentinel], laidTests := true, laidLooks := .later }
def HistoryFindsCardSaid : Prop := Claim7.holds Tryd.pinned (.plain (OpenSpec.ofChange historyFindsSpec)) historyFindsCard

/-- THE TIED CARD OF 'workflowlaw24.HistoryGrows'. -/
def historyGrowsCard : Claim7 := { stood := { row := historyGrowsRow, standIns := [], harness := (true, "56eaa0a54510910ec2cb6d46af7739268cd40a0ef6613cb1bc9ebf3b067edbc1"), looks := true }, kinds := [], alts := [], laidByText := true, laidKinds := [.data, .data, .data, .sentinel, .sentinel], laidTests := true, laidLooks := .later }
def HistoryGrowsCardSaid : Prop := Claim7.holds Tryd.pinned (.plain (OpenSpec.ofChange historyGrowsSpec)) historyGrowsCard

/-- THE SECOND FORM's CARD OF 'workflowlaw22.EventValid'. -/
def eventValidUptoCard : Claim7 := { stood := { row := eventValidUptoRow, standIns := [], harness := (true, "56eaa0a54510910ec2cb6d46af7739268cd40a0ef6613cb1bc9ebf3b067edbc1"), looks := true }, kinds := [], alts := [], laidByText := true, laidKinds := [.data, .data, .data, .sentinel, .sentinel], laidTests := true, laidLooks := .later }
def EventValidUptoCardSaid : Prop := Claim7.holds Tryd.pinned (.plain (OpenSpec.upto eventValidSpec)) eventValidUptoCard

/-- THE SECOND FORM's CARD OF 'workflowlaw22.EventSame'. -/
def eventSameUptoCard : Claim7 := { stood := { row := eventSameUptoRow, standIns := [], harness := (true, "56eaa0a54510910ec2cb6d46af7739268cd40a0ef6613cb1bc9ebf3b067edbc1"), looks := true }, kinds := [], alts := [], laidByText := true, laidKinds := [.data, .data, .data, .sentinel, .sentinel], laidTests := true, laidLooks := .later }
def EventSameUptoCardSaid : Prop := Claim7.holds Tryd.pinned (.plain (OpenSpec.upto eventSameSpec)) eventSameUptoCard

/-- THE SECOND FORM's CARD OF 'workflowlaw22.EventKinds'. -/
def eventKindsUptoCard : Claim7 := { stood := { row := eventKindsUptoRow, standIns := [], harness := (true, "56eaa0a54510910ec2cb6d46af7739268cd40a0ef6613cb1bc9ebf3b067edbc1"), looks := true }, kinds := [], alts := [], laidByText := true, laidKinds := [.data, .data, .data, .sentinel, .sentinel], laidTests := true, laidLooks := .later }
def EventKindsUptoCardSaid : Prop := Claim7.holds Tryd.pinned (.plain (OpenSpec.upto eventKindsSpec)) eventKindsUptoCard

/-- THE SECOND FORM's CARD OF 'workflowlaw24.HistoryPrefixes'. -/
def historyPrefixesUptoCard : Claim7 := { stood := { row := historyPrefixesUptoRow, standIns := [], harness := (true, "56eaa0a54510910ec2cb6d46af7739268cd40a0ef6613cb1bc9ebf3b067edbc1"), looks := true }, kinds := [], alts := [], laidByText := true, laidKinds := [.data, .data, .data, .sentinel, .sentinel], laidTests := true, laidLooks := .later }
def HistoryPrefixesUptoCardSaid : Prop := Claim7.holds Tryd.pinned (.plain (OpenSpec.upto historyPrefixesSpec)) historyPrefixesUptoCard

/-- THE SECOND FORM's CARD OF 'workflowlaw24.HistoryFinds'. -/
def historyFindsUptoCard : Claim7 := { stood := { row := historyFindsUptoRow, standIns := [], harness := (true, "56eaa0a54510910ec2cb6d46af7739268cd40a0ef6613cb1bc9ebf3b067edbc1"), looks := true }, kinds := [], alts := [], laidByText := true, laidKinds := [.data, .data, .data, .sentinel, .sentinel], laidTests := true, laidLooks := .later }
def HistoryFindsUptoCardSaid : Prop := Claim7.holds Tryd.pinned (.plain (OpenSpec.upto historyFindsSpec)) historyFindsUptoCard

/-- THE SECOND FORM's CARD OF 'workflowlaw24.HistoryGrows'. -/
def historyGrowsUptoCard : Claim7 := { stood := { row := historyGrowsUptoRow, standIns := [], harness := (true, "56eaa0a54510910ec2cb6d46af7739268cd40a0ef6613cb1bc9ebf3b067edbc1"), looks := true }, kinds := [], alts := [], laidByText := true, laidKinds := [.data, .data, .data, .sentinel, .sentinel], laidTests := true, laidLooks := .later }
def HistoryGrowsUptoCardSaid : Prop := Claim7.holds Tryd.pinned (.plain (OpenSpec.upto historyGrowsSpec)) historyGrowsUptoCard
end Rows
end Go.Proofs.YtngcjjhbimanlaaDoor
