/-
  DERIVED. GIVEN WITH THE SEED: THE CARDS: each row of YtmbdbdhdcbdcpaaGreatDoorRows.lean that lists a variable, with what it lists TIED to the program's text (the seventh form; the later family's looks); each row that meets fmt, with fmt's text TOLD by the authors' own Lean function (tested against real Go, not proved from fmt's source: count such statements apart). THE CARD IS WHAT COUNTS. Prove the row's statement (the work); the ties are given (YtmbdbdhdcbdcpaaGreatDoorTie.lean); close each card by the builder's one call (the guide's Derived/Test/ToyasCard.lean, 'card_holds'). Laid BY PROGRAM, IN A SANDBOX (cutbox-door.mjs). By AI agents, Wed Nov 11 2026. No macro, syntax, notation, axiom, sorry.
-/
import Derived.Test.YtmbdbdhdcbdcpaaGreatDoorRows
import GoSem.ClaimSeven
namespace Go.Proofs.YtmbdbdhdcbdcpaaGreatDoor
namespace Rows

/-- THE TIED CARD OF 'workflowlaw24.HistoryAppends'. -/
def historyAppendsCard : Claim7 := { stood := { row := historyAppendsRow, standIns := [], harness := (true, "38444412d35975d1d31cb48c722d34868aa815232d19a0b5db4a5fa0f6ae37a1"), looks := true }, kinds := [], alts := [], laidByText := true, laidKinds := [.data, .data, .data, .sentinel, .sentinel], laidTests := true, laidLooks := .later }
def HistoryAppendsCardSaid : Prop := Claim7.holds Tryz.pinned (.plain (OpenSpec.ofChange historyAppendsSpec)) historyAppendsCard

/-- THE SECOND FORM's CARD OF 'workflowlaw24.HistoryAppends'. -/
def historyAppendsUptoCard : Claim7 := { stood := { row := historyAppendsUptoRow, standIns := [], harness := (true, "38444412d35975d1d31cb48c722d34868aa815232d19a0b5db4a5fa0f6ae37a1"), looks := true }, kinds := [], alts := [], laidByText := true, laidKinds := [.data, .data, .data, .sentinel, .sentinel], laidTests := true, laidLooks := .later }
def HistoryAppendsUptoCardSaid : Prop := Claim7.holds Tryz.pinned (.plain (OpenSpec.upto historyAppendsSpec)) historyAppendsUptoCard
end Rows
end Go.Proofs.YtmbdbdhdcbdcpaaGreatDoor
