/-
  DERIVED. GIVEN WITH THE SEED: THE CARDS: each row of YtngcjjhbimanlaaGreatDoorRows.lean that lists a variable, with what it lists TIED to the program's text (the seventh form; the later family's looks); each row that meets fmt, with fmt's text TOLD by the authors' own Lean function (tested against real Go, not proved from fmt's source: count such statements apart). THE CARD IS WHAT COUNTS. Prove the row's statement (the work); the ties are given (YtngcjjhbimanlaaGreatDoorTie.lean); close each card by the builder's one call (the guide's Derived/Test/ToyasCard.lean, 'card_holds'). Laid BY PROGRAM, IN A SANDBOX (cutbox-door.mjs). By AI agents, Wed Nov 11 2026. No macro, syntax, notation, axiom, sorry.
-/
import Derived.Test.YtngcjjhbimanlaaGreatDoorRows
import GoSem.ClaimSeven
namespace Go.Proofs.YtngcjjhbimanlaaGreatDoor
namespace Rows

/-- THE TIED CARD OF 'workflowlaw22.EventRight'. -/
def eventRightCard : Claim7 := { stood := { row := eventRightRow, standIns := [], harness := (true, "0d58172a610b25a4aaf649ecb6e4b2130ccc56167d4d04838c1df3a5bf4d03b2"), looks := true }, kinds := [], alts := [], laidByText := true, laidKinds := [.data, .data, .data, .sentinel, .sentinel], laidTests := true, laidLooks := .later }
def EventRightCardSaid : Prop := Claim7.holds Tryz.pinned (.plain (OpenSpec.ofChange eventRightSpec)) eventRightCard

/-- THE TIED CARD OF 'workflowlaw22.EventCommands'. -/
def eventCommandsCard : Claim7 := { stood := { row := eventCommandsRow, standIns := [], harness := (true, "0d58172a610b25a4aaf649ecb6e4b2130ccc56167d4d04838c1df3a5bf4d03b2"), looks := true }, kinds := [], alts := [], laidByText := true, laidKinds := [.data, .data, .data, .sentinel, .sentinel], laidTests := true, laidLooks := .later }
def EventCommandsCardSaid : Prop := Claim7.holds Tryz.pinned (.plain (OpenSpec.ofChange eventCommandsSpec)) eventCommandsCard

/-- THE TIED CARD OF 'workflowlaw24.HistoryChecks'. -/
def historyChecksCard : Claim7 := { stood := { row := historyChecksRow, standIns := [], harness := (true, "0d58172a610b25a4aaf649ecb6e4b2130ccc56167d4d04838c1df3a5bf4d03b2"), looks := true }, kinds := [], alts := [], laidByText := true, laidKinds := [.data, .data, .data, .sentinel, .sentinel], laidTests := true, laidLooks := .later }
def HistoryChecksCardSaid : Prop := Claim7.holds Tryz.pinned (.plain (OpenSpec.ofChange historyChecksSpec)) historyChecksCard

/-- THE TIED CARD OF 'workflowlaw24.HistoryTurns'. -/
def historyTurnsCard : Claim7 := { stood := { row := historyTurnsRow, standIns := [], harness := (true, "0d58172a610b25a4aaf649ecb6e4b2130ccc56167d4d04838c1df3a5bf4d03b2"), looks := true }, kinds := [], alts := [], laidByText := true, laidKinds := [.data, .data, .data, .sentinel, .sentinel], laidTests := true, laidLooks := .later }
def HistoryTurnsCardSaid : Prop := Claim7.holds Tryz.pinned (.plain (OpenSpec.ofChange historyTurnsSpec)) historyTurnsCard

/-- THE TIED CARD OF 'workflowlaw24.HistoryAppends'. -/
def historyAppendsCard : Claim7 := { stood := { row := historyAppendsRow, standIns := [], harness := (true, "0d58172a610b25a4aaf649ecb6e4b2130ccc56167d4d04838c1df3a5bf4d03b2"), looks := true }, kinds := [], alts := [], laidByText := true, laidKinds := [.data, .data, .data, .sentinel, .sentinel], laidTests := true, laidLooks := .later }
def HistoryAppendsCardSaid : Prop := Claim7.holds Tryz.pinned (.plain (OpenSpec.ofChange historyAppendsSpec)) historyAppendsCard

/-- THE SECOND FORM's CARD OF 'workflowlaw22.EventRight'. -/
def eventRightUptoCard : Claim7 := { stood := { row := eventRightUptoRow, standIns := [], harness := (true, "0d58172a610b25a4aaf649ecb6e4b2130ccc56167d4d04838c1df3a5bf4d03b2"), looks := true }, kinds := [], alts := [], laidByText := true, laidKinds := [.data, .data, .data, .sentinel, .sentinel], laidTests := true, laidLooks := .later }
def EventRightUptoCardSaid : Prop := Claim7.holds Tryz.pinned (.plain (OpenSpec.upto eventRightSpec)) eventRightUptoCard

/-- THE SECOND FORM's CARD OF 'workflowlaw22.EventCommands'. -/
def eventCommandsUptoCard : Claim7 := { stood := { row := eventCommandsUptoRow, standIns := [], harness := (true, "0d58172a610b25a4aaf649ecb6e4b2130ccc56167d4d04838c1df3a5bf4d03b2"), looks := true }, kinds := [], alts := [], laidByText := true, laidKinds := [.data, .data, .data, .sentinel, .sentinel], laidTests := true, laidLooks := .later }
def EventCommandsUptoCardSaid : Prop := Claim7.holds Tryz.pinned (.plain (OpenSpec.upto eventCommandsSpec)) eventCommandsUptoCard

/-- THE SECOND FORM's CARD OF 'workflowlaw24.HistoryChecks'. -/
def historyChecksUptoCard : Claim7 := { stood := { row := historyChecksUptoRow, standIns := [], harness := (true, "0d58172a610b25a4aaf649ecb6e4b2130ccc56167d4d04838c1df3a5bf4d03b2"), looks := true }, kinds := [], alts := [], laidByText := true, laidKinds := [.data, .data, .data, .sentinel, .sentinel], laidTests := true, laidLooks := .later }
def HistoryChecksUptoCardSaid : Prop := Claim7.holds Tryz.pinned (.plain (OpenSpec.upto historyChecksSpec)) historyChecksUptoCard

/-- THE SECOND FORM's CARD OF 'workflowlaw24.HistoryTurns'. -/
def historyTurnsUptoCard : Claim7 := { stood := { row := historyTurnsUptoRow, standIns := [], harness := (true, "0d58172a610b25a4aaf649ecb6e4b2130ccc56167d4d04838c1df3a5bf4d03b2"), looks := true }, kinds := [], alts := [], laidByText := true, laidKinds := [.data, .data, .data, .sentinel, .sentinel], laidTests := true, laidLooks := .later }
def HistoryTurnsUptoCardSaid : Prop := Claim7.holds Tryz.pinned (.plain (OpenSpec.upto historyTurnsSpec)) historyTurnsUptoCard

/-- THE SECOND FORM's CARD OF 'workflowlaw24.HistoryAppends'. -/
def historyAppendsUptoCard : Claim7 := { stood := { row := historyAppendsUptoRow, standIns := [], harness := (true, "0d58172a610b25a4aaf649ecb6e4b2130ccc56167d4d04838c1df3a5bf4d03b2"), looks := true }, kinds := [], alts := [], laidByText := true, laidKinds := [.data, .data, .data, .sentinel, .sentinel], laidTests := true, laidLooks := .later }
def HistoryAppendsUptoCardSaid : Prop := Claim7.holds Tryz.pinned (.plain (OpenSpec.upto historyAppendsSpec)) historyAppendsUptoCard
end Rows
end Go.Proofs.YtngcjjhbimanlaaGreatDoor
