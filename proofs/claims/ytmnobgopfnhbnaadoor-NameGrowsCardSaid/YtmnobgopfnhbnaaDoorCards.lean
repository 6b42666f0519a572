/-
  DERIVED. GIVEN WITH THE SEED: THE CARDS: each row of YtmnobgopfnhbnaaDoorRows.lean that lists a variable, with what it lists TIED to the program's text (the seventh form; the later family's looks); each row that meets fmt, with fmt's text TOLD by the authors' own Lean function (tested against real Go, not proved from fmt's source: count such statements apart). THE CARD IS WHAT COUNTS. Prove the row's statement (the work); the ties are given (YtmnobgopfnhbnaaDoorTie.lean); close each card by the builder's one call (the guide's Derived/Test/ToyasCard.lean, 'card_holds'). Laid BY PROGRAM, IN A SANDBOX (cutbox-door.mjs). By AI agents, Wed Nov 11 2026. No macro, syntax, notation, axiom, sorry.
-/
import Derived.Test.YtmnobgopfnhbnaaDoorRows
import GoSem.ClaimSeven
namespace Go.Proofs.YtmnobgopfnhbnaaDoor
namespace Rows

/-- THE TIED CARD OF 'workflowlaw06.NameChecks'. -/
def nameChecksCard : Claim7 := { stood := { row := nameChecksRow, standIns := [], harness := (true, "21553faf331837e7c58d21f2fb9d7ae99fb75b4138a5eb3eb10c7fea3f740619"), looks := true }, kinds := [], alts := [], laidByText := true, laidKinds := [.data, .data, .data, .sentinel, .sentinel], laidTests := true, laidLooks := .later }
def NameChecksCardSaid : Prop := Claim7.holds Tryd.pinned (.plain (OpenSpec.ofChange nameChecksSpec)) nameChecksCard

/-- THE TIED CARD OF 'workflowlaw06.NameRuns'. -/
def nameRunsCard : Claim7 := { stood := { row := nameRunsRow, standIns := [], harness := (true, "21553faf331837e7c58d21f2fb9d7ae99fb75b4138a5eb3eb10c7fea3f740619"), looks := true }, kinds := [], alts := [], laidByText := true, laidKinds := [.data, .data, .data, .sentinel, .sentinel], laidTests := true, laidLooks := .later }
def NameRunsCardSaid : Prop := Claim7.holds Tryd.pinned (.plain (OpenSpec.ofChange nameRunsSpec)) nameRunsCard

/-- THE TIED CARD OF 'workflowlaw06.NameKeys'. -/
def nameKeysCard : Claim7 := { stood := { row := nameKeysRow, standIns := [], harness := (true, "21553faf331837e7c58d21f2fb9d7ae99fb75b4138a5eb3eb10c7fea3f740619"), looks := true }, kinds := [], alts := [], laidByText := true, laidKinds := [.data, .data, .data, .sentinel, .sentinel], laidTests := true, laidLooks := .later }
def NameKeysCardSaid : Prop := Claim7.holds Tryd.pinned (.plain (OpenSpec.ofChange nameKeysSpec)) nameKeysCard

/-- THE TIED CARD OF 'workflowlaw06.NameGrows'. -/
def nameGrowsCard : Claim7 := { stood := { row := nameGrowsRow, standIns := [], harness := (true, "21553faf331837e7c58d21f2fb9d7ae99fb75b4138a5eb3eb10c7fea3f740619"), looks := true }, kinds := [], alts := [], laidByText := true, laidKinds := [.data, .data, .data, .sentinel, .sentinel], laidTests := true, laidLooks := .later }
def NameGrowsCardSaid : Prop := Claim7.holds Tryd.pinned (.plain (OpenSpec.ofChange nameGrowsSpec)) nameGrowsCard

/-- THE SECOND FORM's CARD OF 'workflowlaw06.NameChecks'. -/
def nameChecksUptoCard : Claim7 := { stood := { row := nameChecksUptoRow, standIns := [], harness := (true, "21553faf331837e7c58d21f2fb9d7ae99fb75b4138a5eb3eb10c7fea3f740619"), looks := true }, kinds := [], alts := [], laidByText := true, laidKinds := [.data, .data, .data, .sentinel, .sentinel], laidTests := true, laidLooks := .later }
def NameChecksUptoCardSaid : Prop := Claim7.holds Tryd.pinned (.plain (OpenSpec.upto nameChecksSpec)) nameChecksUptoCard

/-- THE SECOND FORM's CARD OF 'workflowlaw06.NameRuns'. -/
def nameRunsUptoCard : Claim7 := { stood := { row := nameRunsUptoRow, standIns := [], harness := (true, "21553faf331837e7c58d21f2fb9d7ae99fb75b4138a5eb3eb10c7fea3f740619"), looks := true }, kinds := [], alts := [], laidByText := true, laidKinds := [.data, .data, .data, .sentinel, .sentinel], laidTests := true, laidLooks := .later }
def NameRunsUptoCardSaid : Prop := Claim7.holds Tryd.pinned (.plain (OpenSpec.upto nameRunsSpec)) nameRunsUptoCard

/-- THE SECOND FORM's CARD OF 'workflowlaw06.NameKeys'. -/
def nameKeysUptoCard : Claim7 := { stood := { row := nameKeysUptoRow, standIns := [], harness := (true, "21553faf331837e7c58d21f2fb9d7ae99fb75b4138a5eb3eb10c7fea3f740619"), looks := true }, kinds := [], alts := [], laidByText := true, laidKinds := [.data, .data, .data, .sentinel, .sentinel], laidTests := true, laidLooks := .later }
def NameKeysUptoCardSaid : Prop := Claim7.holds Tryd.pinned (.plain (OpenSpec.upto nameKeysSpec)) nameKeysUptoCard

/-- THE SECOND FORM's CARD OF 'workflowlaw06.NameGrows'. -/
def nameGrowsUptoCard : Claim7 := { stood := { row := nameGrowsUptoRow, standIns := [], harness := (true, "21553faf331837e7c58d21f2fb9d7ae99fb75b4138a5eb3eb10c7fea3f740619"), looks := true }, kinds := [], alts := [], laidByText := true, laidKinds := [.data, .data, .data, .sentinel, .sentinel], laidTests := true, laidLooks := .later }
def NameGrowsUptoCardSaid : Prop := Claim7.holds Tryd.pinned (.plain (OpenSpec.upto nameGrowsSpec)) nameGrowsUptoCard
end Rows
end Go.Proofs.YtmnobgopfnhbnaaDoor
