/-
  DERIVED. GIVEN WITH THE SEED: THE CARDS: each row of YtefhpdcafdhcaaaDoorRows.lean that lists a variable, with what it lists TIED to the program's text (the seventh form; the later family's looks); each row that meets fmt, with fmt's text TOLD by the authors' own Lean function (tested against real Go, not proved from fmt's source: count such statements apart). THE CARD IS WHAT COUNTS. Prove the row's statement (the work); the ties are given (YtefhpdcafdhcaaaDoorTie.lean); close each card by the builder's one call (the guide's Derived/Test/ToyasCard.lean, 'card_holds'). Laid BY PROGRAM, IN A SANDBOX (cutbox-door.mjs). By AI agents, Wed Nov 11 2026. No macro, syntax, notation, axiom, sorry.
-/
import Derived.Test.YtefhpdcafdhcaaaDoorRows
import GoSem.ClaimSeven
namespace Go.Proofs.YtefhpdcafdhcaaaDoor
namespace Rows

/-- THE TIED CARD OF 'drawloomlaw11.AllocRight'. -/
def allocRightCard : Claim7 := { stood := { row := allocRightRow, standIns := [], harness := (true, "1e1848c2fc1de6174944e0ba8307c4065700cb629099ef9fcf256a6891febaab"), looks := false }, kinds := [], alts := [], laidByText := true, laidKinds := [.listed, .data], laidTests := true, laidLooks := .later }
def AllocRightCardSaid : Prop := Claim7.holds Tryd.pinned (.plain (OpenSpec.ofChange allocRightSpec)) allocRightCard

/-- THE TIED CARD OF 'drawloomlaw11.AllocAssigns'. -/
def allocAssignsCard : Claim7 := { stood := { row := allocAssignsRow, standIns := [], harness := (true, "1e1848c2fc1de6174944e0ba8307c4065700cb629099ef9fcf256a6891febaab"), looks := false }, kinds := [], alts := [], laidByText := true, laidKinds := [.listed, .data], laidTests := true, laidLooks := .later }
def AllocAssignsCardSaid : Prop := Claim7.holds Tryd.pinned (.plain (OpenSpec.ofChange allocAssignsSpec)) allocAssignsCard

/-- THE TIED CARD OF 'drawloomlaw11.AllocLive'. -/
def allocLiveCard : Claim7 := { stood := { row := allocLiveRow, standIns := [], harness := (true, "1e1848c2fc1de6174944e0ba8307c4065700cb629099ef9fcf256a6891febaab"), looks := false }, kinds := [], alts := [], laidByText := true, laidKinds := [.listed, .data], laidTests := true, laidLooks := .later }
def AllocLiveCardSaid : Prop := Claim7.holds Tryd.pinned (.plain (OpenSpec.ofChange allocLiveSpec)) allocLiveCard

/-- THE TIED CARD OF 'drawloomlaw11.AllocEdges'. -/
def allocEdgesCard : Claim7 := { stood := { row := allocEdgesRow, standIns := [], harness := (true, "1e1848c2fc1de6174944e0ba8307c4065700cb629099ef9fcf256a6891febaab"), looks := false }, kinds := [], alts := [], laidByText := true, laidKinds := [.listed, .data], laidTests := true, laidLooks := .later }
def AllocEdgesCardSaid : Prop := Claim7.holds Tryd.pinned (.plain (OpenSpec.ofChange allocEdgesSpec)) allocEdgesCard

/-- THE SECOND FORM's CARD OF 'drawloomlaw11.AllocRight'. -/
def allocRightUptoCard : Claim7 := { stood := { row := allocRightUptoRow, standIns := [], harness := (true, "1e1848c2fc1de6174944e0ba8307c4065700cb629099ef9fcf256a6891febaab"), looks := false }, kinds := [], alts := [], laidByText := true, laidKinds := [.listed, .data], laidTests := true, laidLooks := .later }
def AllocRightUptoCardSaid : Prop := Claim7.holds Tryd.pinned (.plain (OpenSpec.upto allocRightSpec)) allocRightUptoCard

/-- THE SECOND FORM's CARD OF 'drawloomlaw11.AllocAssigns'. -/
def allocAssignsUptoCard : Claim7 := { stood := { row := allocAssignsUptoRow, standIns := [], harness := (true, "1e1848c2fc1de6174944e0ba8307c4065700cb629099ef9fcf256a6891febaab"), looks := false }, kinds := [], alts := [], laidByText := true, laidKinds := [.listed, .data], laidTests := true, laidLooks := .later }
def AllocAssignsUptoCardSaid : Prop := Claim7.holds Tryd.pinned (.plain (OpenSpec.upto allocAssignsSpec)) allocAssignsUptoCard

/-- THE SECOND FORM's CARD OF 'drawloomlaw11.AllocLive'. -/
def allocLiveUptoCard : Claim7 := { stood := { row := allocLiveUptoRow, standIns := [], harness := (true, "1e1848c2fc1de6174944e0ba8307c4065700cb629099ef9fcf256a6891febaab"), looks := false }, kinds := [], alts := [], laidByText := true, laidKinds := [.listed, .data], laidTests := true, laidLooks := .later }
def AllocLiveUptoCardSaid : Prop := Claim7.holds Tryd.pinned (.plain (OpenSpec.upto allocLiveSpec)) allocLiveUptoCard

/-- THE SECOND FORM's CARD OF 'drawloomlaw11.AllocEdges'. -/
def allocEdgesUptoCard : Claim7 := { stood := { row := allocEdgesUptoRow, standIns := [], harness := (true, "1e1848c2fc1de6174944e0ba8307c4065700cb629099ef9fcf256a6891febaab"), looks := false }, kinds := [], alts := [], laidByText := true, laidKinds := [.listed, .data], laidTests := true, laidLooks := .later }
def AllocEdgesUptoCardSaid : Prop := Claim7.holds Tryd.pinned (.plain (OpenSpec.upto allocEdgesSpec)) allocEdgesUptoCard
end Rows
end Go.Proofs.YtefhpdcafdhcaaaDoor
