/-
  DERIVED. GIVEN WITH THE SEED: THE CARDS: each row of YtopijeegnhighaaDoorRows.lean that lists a variable, with what it lists TIED to the program's text (the seventh form; the later family's looks); each row that meets fmt, with fmt's text TOLD by the authors' own Lean function (tested against real Go, not proved from fmt's source: count such statements apart). THE CARD IS WHAT COUNTS. Prove the row's statement (the work); the ties are given (YtopijeegnhighaaDoorTie.lean); close each card by the builder's one call (the guide's Derived/Test/ToyasCard.lean, 'card_holds'). Laid BY PROGRAM, IN A SANDBOX (cutbox-door.mjs). By AI agents, Wed Nov 11 2026. No macro, syntax, notation, axiom, sorry.
-/
import Derived.Test.YtopijeegnhighaaDoorRows
import GoSem.ClaimSeven
namespace Go.Proofs.YtopijeegnhighaaDoor
namespace Rows

/-- THE TIED CARD OF 'workflowlaw45.ChildrenReports'. -/
def childrenReportsCard : Claim7 := { stood := { row := childrenReportsRow, standIns := [], harness := (true, "aaf965b6fd2fbc22a3b1e229b456dcc270cb63352169111e12cbf4d0203dd830"), looks := true }, kinds := [], alts := [], laidByText := true, laidKinds := [.data, .data, .data], laidTests := true, laidLooks := .later }
def ChildrenReportsCardSaid : Prop := Claim7.holds Tryd.pinned (.plain (OpenSpec.ofChange childrenReportsSpec)) childrenReportsCard

/-- THE TIED CARD OF 'workflowlaw45.ChildrenSends'. -/
def childrenSendsCard : Claim7 := { stood := { row := childrenSendsRow, standIns := [], harness := (true, "aaf965b6fd2fbc22a3b1e229b456dcc270cb63352169111e12cbf4d0203dd830"), looks := true }, kinds := [], alts := [], laidByText := true, laidKinds := [.data, .data, .data], laidTests := true, laidLooks := .later }
def ChildrenSendsCardSaid : Prop := Claim7.holds Tryd.pinned (.plain (OpenSpec.ofChange childrenSendsSpec)) childrenSendsCard

/-- THE TIED CARD OF 'workflowlaw45.ChildrenStarts'. -/
def childrenStartsCard : Claim7 := { stood := { row := childrenStartsRow, standIns := [], harness := (true, "aaf965b6fd2fbc22a3b1e229b456dcc270cb63352169111e12cbf4d0203dd830"), looks := true }, kinds := [], alts := [], laidByText := true, laidKinds := [.data, .data, .data], laidTests := true, laidLooks := .later }
def ChildrenStartsCardSaid : Prop := Claim7.holds Tryd.pinned (.plain (OpenSpec.ofChange childrenStartsSpec)) childrenStartsCard

/-- THE TIED CARD OF 'workflowlaw45.ChildrenRepeat'. -/
def childrenRepeatCard : Claim7 := { stood := { row := childrenRepeatRow, standIns := [], harness := (true, "aaf965b6fd2fbc22a3b1e229b456dcc270cb63352169111e12cbf4d0203dd830"), looks := true }, kinds := [], alts := [], laidByText := true, laidKinds := [.data, .data, .data], laidTests := true, laidLooks := .later }
def ChildrenRepeatCardSaid : Prop := Claim7.holds Tryd.pinned (.plain (OpenSpec.ofChange childrenRepeatSpec)) childrenRepeatCard

/-- THE TIED CARD OF 'workflowlaw44.ChainFind'. -/
def chainFindCard : Claim7 := { stood := { row := chainFindRow, standIns := [], harness := (true, "aaf965b6fd2fbc22a3b1e229b456dcc270cb63352169111e12cbf4d0203dd830"), looks := true }, kinds := [], alts := [], laidByText := true, laidKinds := [.data, .data, .data, .sentinel, .sentinel], laidTests := true, laidLooks := .later }
def ChainFindCardSaid : Prop := Claim7.holds Tryd.pinned (.plain (OpenSpec.ofChange chainFindSpec)) chainFindCard

/-- THE TIED CARD OF 'workflowlaw44.ChainDecide'. -/
def chainDecideCard : Claim7 := { stood := { row := chainDecideRow, standIns := [], harness := (true, "aaf965b6fd2fbc22a3b1e229b456dcc270cb63352169111e12cbf4d0203dd830"), looks := true }, kinds := [], alts := [], laidByText := true, laidKinds := [.data, .data, .data, .sentinel, .sentinel], laidTests := true, laidLooks := .later }
def ChainDecideCardSaid : Prop := Claim7.holds Tryd.pinned (.plain (OpenSpec.ofChange chainDecideSpec)) chainDecideCard

/-- THE TIED CARD OF 'workflowlaw44.ChainFollow'. -/
def chainFollowCard : Claim7 := { stood := { row := chainFollowRow, standIns := [], harness := (true, "aaf965b6fd2fbc22a3b1e229b456dcc270cb63352169111e12cbf4d0203dd830"), looks := true }, kinds := [], alts := [], laidByText := true, laidKinds := [.data, .data, .data, .sentinel, .sentinel], laidTests := true, laidLooks := .later }
def ChainFollowCardSaid : Prop := Claim7.holds Tryd.pinned (.plain (OpenSpec.ofChange chainFollowSpec)) chainFollowCard

/-- THE TIED CARD OF 'workflowlaw44.ChainContinue'. -/
def chainContinueCard : Claim7 := { stood := { row := chainContinueRow, standIns := [], harness := (true, "aaf965b6fd2fbc22a3b1e229b456dcc270cb63352169111e12cbf4d0203dd830"), looks := true }, kinds := [], alts := [], laidByText := true, laidKinds := [.data, .data, .data, .sentinel, .sentinel], laidTests := true, laidLooks := .later }
def ChainContinueCardSaid : Prop := Claim7.holds Tryd.pinned (.plain (OpenSpec.ofChange chainContinueSpec)) chainContinueCard

/-- THE TIED CARD OF 'workflowlaw44.ChainAdds'. -/
def chainAddsCard : Claim7 := { stood := { row := chainAddsRow, standIns := [], harness := (true, "aaf965b6fd2fbc22a3b1e229b456dcc270cb63352169111e12cbf4d0203dd830"), looks := true }, kinds := [], alts := [], laidByText := true, laidKinds := [.data, .data, .data, .sentinel, .sentinel], laidTests := true, laidLooks := .later }
def ChainAddsCardSaid : Prop := Claim7.holds Tryd.pinned (.plain (OpenSpec.ofChange chainAddsSpec)) chainAddsCard

/-- THE TIED CARD OF 'workflowlaw44.ChainEnd'. -/
def chainEndCard : Claim7 := { stood := { row := chainEndRow, standIns := [], harness := (true, "aaf965b6fd2fbc22a3b1e229b456dcc270cb63352169111e12cbf4d0203dd830"), looks := true }, kinds := [], alts := [], laidByText := true, laidKinds := [.data, .data, .data, .sentinel, .sentinel], laidTests := true, laidLooks := .later }
def ChainEndCardSaid : Prop := Claim7.holds Tryd.pinned (.plain (OpenSpec.ofChange chainEndSpec)) chainEndCard

/-- THE SECOND FORM's CARD OF 'workflowlaw45.ChildrenReports'. -/
def childrenReportsUptoCard : Claim7 := { stood := { row := childrenReportsUptoRow, standIns := [], harness := (true, "aaf965b6fd2fbc22a3b1e229b456dcc270cb63352169111e12cbf4d0203dd830"), looks := true }, kinds := [], alts := [], laidByText := true, laidKinds := [.data, .data, .data], laidTests := true, laidLooks := .later }
def ChildrenReportsUptoCardSaid : Prop := Claim7.holds Tryd.pinned (.plain (OpenSpec.upto childrenReportsSpec)) childrenReportsUptoCard

/-- THE SECOND FORM's CARD OF 'workflowlaw45.ChildrenSends'. -/
def childrenSendsUptoCard : Claim7 := { stood := { row := childrenSendsUptoRow, standIns := [], harness := (true, "aaf965b6fd2fbc22a3b1e229b456dcc270cb63352169111e12cbf4d0203dd830"), looks := true }, kinds := [], alts := [], laidByText := true, laidKinds := [.data, .data, .data], laidTests := true, laidLooks := .later }
def ChildrenSendsUptoCardSaid : Prop := Claim7.holds Tryd.pinned (.plain (OpenSpec.upto childrenSendsSpec)) childrenSendsUptoCard

/-- THE SECOND FORM's CARD OF 'workflowlaw45.ChildrenStarts'. -/
def childrenStartsUptoCard : Claim7 := { stood := { row := childrenStartsUptoRow, standIns := [], harness := (true, "aaf965b6fd2fbc22a3b1e229b456dcc270cb63352169111e12cbf4d0203dd830"), looks := true }, kinds := [], alts := [], laidByText := true, laidKinds := [.data, .data, .data], laidTests := true, laidLooks := .later }
def ChildrenStartsUptoCardSaid : Prop := Claim7.holds Tryd.pinned (.plain (OpenSpec.upto childrenStartsSpec)) childrenStartsUptoCard

/-- THE SECOND FORM's CARD OF 'workflowlaw45.ChildrenRepeat'. -/
def childrenRepeatUptoCard : Claim7 := { stood := { row := childrenRepeatUptoRow, standIns := [], harness := (true, "aaf965b6fd2fbc22a3b1e229b456dcc270cb63352169111e12cbf4d0203dd830"), looks := true }, kinds := [], alts := [], laidByText := true, laidKinds := [.data, .data, .data], laidTests := true, laidLooks := .later }
def ChildrenRepeatUptoCardSaid : Prop := Claim7.holds Tryd.pinned (.plain (OpenSpec.upto childrenRepeatSpec)) childrenRepeatUptoCard

/-- THE SECOND FORM's CARD OF 'workflowlaw44.ChainFind'. -/
def chainFindUptoCard : Claim7 := { stood := { row := chainFindUptoRow, standIns := [], harness := (true, "aaf965b6fd2fbc22a3b1e229b456dcc270cb63352169111e12cbf4d0203dd830"), looks := true }, kinds := [], alts := [], laidByText := true, laidKinds := [.data, .data, .data, .sentinel, .sentinel], laidTests := true, laidLooks := .later }
def ChainFindUptoCardSaid : Prop := Claim7.holds Tryd.pinned (.plain (OpenSpec.upto chainFindSpec)) chainFindUptoCard

/-- THE SECOND FORM's CARD OF 'workflowlaw44.ChainDecide'. -/
def chainDecideUptoCard : Claim7 := { stood := { row := chainDecideUptoRow, standIns := [], harness := (true, "aaf965b6fd2fbc22a3b1e229b456dcc270cb63352169111e12cbf4d0203dd830"), looks := true }, kinds := [], alts := [], laidByText := true, laidKinds := [.data, .data, .data, .sentinel, .sentinel], laidTests := true, laidLooks := .later }
def ChainDecideUptoCardSaid : Prop := Claim7.holds Tryd.pinned (.plain (OpenSpec.upto chainDecideSpec)) chainDecideUptoCard

/-- THE SECOND FORM's CARD OF 'workflowlaw44.ChainFollow'. -/
def chainFollowUptoCard : Claim7 := { stood := { row := chainFollowUptoRow, standIns := [], harness := (true, "aaf965b6fd2fbc22a3b1e229b456dcc270cb63352169111e12cbf4d0203dd830"), looks := true }, kinds := [], alts := [], laidByText := true, laidKinds := [.data, .data, .data, .sentinel, .sentinel], laidTests := true, laidLooks := .later }
def ChainFollowUptoCardSaid : Prop := Claim7.holds Tryd.pinned (.plain (OpenSpec.upto chainFollowSpec)) chainFollowUptoCard

/-- THE SECOND FORM's CARD OF 'workflowlaw44.ChainContinue'. -/
def chainContinueUptoCard : Claim7 := { stood := { row := chainContinueUptoRow, standIns := [], harness := (true, "aaf965b6fd2fbc22a3b1e229b456dcc270cb63352169111e12cbf4d0203dd830"), looks := true }, kinds := [], alts := [], laidByText := true, laidKinds := [.data, .data, .data, .sentinel, .sentinel], laidTests := true, laidLooks := .later }
def ChainContinueUptoCardSaid : Prop := Claim7.holds Tryd.pinned (.plain (OpenSpec.upto chainContinueSpec)) chainContinueUptoCard

/-- THE SECOND FORM's CARD OF 'workflowlaw44.ChainAdds'. -/
def chainAddsUptoCard : Claim7 := { stood := { row := chainAddsUptoRow, standIns := [], harness := (true, "aaf965b6fd2fbc22a3b1e229b456dcc270cb63352169111e12cbf4d0203dd830"), looks := true }, kinds := [], alts := [], laidByText := true, laidKinds := [.data, .data, .data, .sentinel, .sentinel], laidTests := true, laidLooks := .later }
def ChainAddsUptoCardSaid : Prop := Claim7.holds Tryd.pinned (.plain (OpenSpec.upto chainAddsSpec)) chainAddsUptoCard

/-- THE SECOND FORM's CARD OF 'workflowlaw44.ChainEnd'. -/
def chainEndUptoCard : Claim7 := { stood := { row := chainEndUptoRow, standIns := [], harness := (true, "aaf965b6fd2fbc22a3b1e229b456dcc270cb63352169111e12cbf4d0203dd830"), looks := true }, kinds := [], alts := [], laidByText := true, laidKinds := [.data, .data, .data, .sentinel, .sentinel], laidTests := true, laidLooks := .later }
def ChainEndUptoCardSaid : Prop := Claim7.holds Tryd.pinned (.plain (OpenSpec.upto chainEndSpec)) chainEndUptoCard
end Rows
end Go.Proofs.YtopijeegnhighaaDoor
