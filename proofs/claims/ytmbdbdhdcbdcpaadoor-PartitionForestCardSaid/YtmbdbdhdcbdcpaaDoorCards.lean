/-
  DERIVED. GIVEN WITH THE SEED: THE CARDS: each row of YtmbdbdhdcbdcpaaDoorRows.lean that lists a variable, with what it lists TIED to the program's text (the seventh form; the later family's looks); each row that meets fmt, with fmt's text TOLD by the authors' own Lean function (tested against real Go, not proved from fmt's source: count such statements apart). THE CARD IS WHAT COUNTS. Prove the row's statement (the work); the ties are given (YtmbdbdhdcbdcpaaDoorTie.lean); close each card by the builder's one call (the guide's Derived/Test/ToyasCard.lean, 'card_holds'). Laid BY PROGRAM, IN A SANDBOX (cutbox-door.mjs). By AI agents, Wed Nov 11 2026. No macro, syntax, notation, axiom, sorry.
-/
import Derived.Test.YtmbdbdhdcbdcpaaDoorRows
import GoSem.ClaimSeven
namespace Go.Proofs.YtmbdbdhdcbdcpaaDoor
namespace Rows

/-- THE TIED CARD OF 'workflowlaw41.MatchingDelivers'. -/
def matchingDeliversCard : Claim7 := { stood := { row := matchingDeliversRow, standIns := [], harness := (true, "34b480643ce7941085ba8b1d5c6e9330ee3a1e1fadf5122abd704e07c98b7ec1"), looks := true }, kinds := [], alts := [], laidByText := true, laidKinds := [.data, .data, .data], laidTests := true, laidLooks := .later }
def MatchingDeliversCardSaid : Prop := Claim7.holds Tryd.pinned (.plain (OpenSpec.ofChange matchingDeliversSpec)) matchingDeliversCard

/-- THE TIED CARD OF 'workflowlaw39.PartitionForest'. -/
def partitionForestCard : Claim7 := { stood := { row := partitionForestRow, standIns := [], harness := (true, "34b480643ce7941085ba8b1d5c6e9330ee3a1e1fadf5122abd704e07c98b7ec1"), looks := true }, kinds := [], alts := [], laidByText := true, laidKinds := [.data, .data, .data, .sentinel, .sentinel], laidTests := true, laidLooks := .later }
def PartitionForestCardSaid : Prop := Claim7.holds Tryd.pinned (.plain (OpenSpec.ofChange partitionForestSpec)) partitionForestCard

/-- THE TIED CARD OF 'workflowlaw41.MatchingSteps'. -/
def matchingStepsCard : Claim7 := { stood := { row := matchingStepsRow, standIns := [], harness := (true, "34b480643ce7941085ba8b1d5c6e9330ee3a1e1fadf5122abd704e07c98b7ec1"), looks := true }, kinds := [], alts := [], laidByText := true, laidKinds := [.data, .data, .data], laidTests := true, laidLooks := .later }
def MatchingStepsCardSaid : Prop := Claim7.holds Tryd.pinned (.plain (OpenSpec.ofChange matchingStepsSpec)) matchingStepsCard

/-- THE TIED CARD OF 'workflowlaw41.MatchingScripts'. -/
def matchingScriptsCard : Claim7 := { stood := { row := matchingScriptsRow, standIns := [], harness := (true, "34b480643ce7941085ba8b1d5c6e9330ee3a1e1fadf5122abd704e07c98b7ec1"), looks := true }, kinds := [], alts := [], laidByText := true, laidKinds := [.data, .data, .data], laidTests := true, laidLooks := .later }
def MatchingScriptsCardSaid : Prop := Claim7.holds Tryd.pinned (.plain (OpenSpec.ofChange matchingScriptsSpec)) matchingScriptsCard

/-- THE TIED CARD OF 'workflowlaw24.HistoryGrows'. -/
def historyGrowsCard : Claim7 := { stood := { row := historyGrowsRow, standIns := [], harness := (true, "34b480643ce7941085ba8b1d5c6e9330ee3a1e1fadf5122abd704e07c98b7ec1"), looks := true }, kinds := [], alts := [], laidByText := true, laidKinds := [.data, .data, .data, .sentinel, .sentinel], laidTests := true, laidLooks := .later }
def HistoryGrowsCardSaid : Prop := Claim7.holds Tryd.pinned (.plain (OpenSpec.ofChange historyGrowsSpec)) historyGrowsCard

/-- THE SECOND FORM's CARD OF 'workflowlaw41.MatchingDelivers'. -/
def matchingDeliversUptoCard : Claim7 := { stood := { row := matchingDeliversUptoRow, standIns := [], harness := (true, "34b480643ce7941085ba8b1d5c6e9330ee3a1e1fadf5122abd704e07c98b7ec1"), looks := true }, kinds := [], alts := [], laidByText := true, laidKinds := [.data, .data, .data], laidTests := true, laidLooks := .later }
def MatchingDeliversUptoCardSaid : Prop := Claim7.holds Tryd.pinned (.plain (OpenSpec.upto matchingDeliversSpec)) matchingDeliversUptoCard

/-- THE SECOND FORM's CARD OF 'workflowlaw39.PartitionForest'. -/
def partitionForestUptoCard : Claim7 := { stood := { row := partitionForestUptoRow, standIns := [], harness := (true, "34b480643ce7941085ba8b1d5c6e9330ee3a1e1fadf5122abd704e07c98b7ec1"), looks := true }, kinds := [], alts := [], laidByText := true, laidKinds := [.data, .data, .data, .sentinel, .sentinel], laidTests := true, laidLooks := .later }
def PartitionForestUptoCardSaid : Prop := Claim7.holds Tryd.pinned (.plain (OpenSpec.upto partitionForestSpec)) partitionForestUptoCard

/-- THE SECOND FORM's CARD OF 'workflowlaw41.MatchingSteps'. -/
def matchingStepsUptoCard : Claim7 := { stood := { row := matchingStepsUptoRow, standIns := [], harness := (true, "34b480643ce7941085ba8b1d5c6e9330ee3a1e1fadf5122abd704e07c98b7ec1"), looks := true }, kinds := [], alts := [], laidByText := true, laidKinds := [.data, .data, .data], laidTests := true, laidLooks := .later }
def MatchingStepsUptoCardSaid : Prop := Claim7.holds Tryd.pinned (.plain (OpenSpec.upto matchingStepsSpec)) matchingStepsUptoCard

/-- THE SECOND FORM's CARD OF 'workflowlaw41.MatchingScripts'. -/
def matchingScriptsUptoCard : Claim7 := { stood := { row := matchingScriptsUptoRow, standIns := [], harness := (true, "34b480643ce7941085ba8b1d5c6e9330ee3a1e1fadf5122abd704e07c98b7ec1"), looks := true }, kinds := [], alts := [], laidByText := true, laidKinds := [.data, .data, .data], laidTests := true, laidLooks := .later }
def MatchingScriptsUptoCardSaid : Prop := Claim7.holds Tryd.pinned (.plain (OpenSpec.upto matchingScriptsSpec)) matchingScriptsUptoCard

/-- THE SECOND FORM's CARD OF 'workflowlaw24.HistoryGrows'. -/
def historyGrowsUptoCard : Claim7 := { stood := { row := historyGrowsUptoRow, standIns := [], harness := (true, "34b480643ce7941085ba8b1d5c6e9330ee3a1e1fadf5122abd704e07c98b7ec1"), looks := true }, kinds := [], alts := [], laidByText := true, laidKinds := [.data, .data, .data, .sentinel, .sentinel], laidTests := true, laidLooks := .later }
def HistoryGrowsUptoCardSaid : Prop := Claim7.holds Tryd.pinned (.plain (OpenSpec.upto historyGrowsSpec)) historyGrowsUptoCard
end Rows
end Go.Proofs.YtmbdbdhdcbdcpaaDoor
