/-
  DERIVED. GIVEN WITH THE SEED: THE CARDS: each row of YtbphnigdbffpmaaGreatDoorRows.lean that lists a variable, with what it lists TIED to the program's text (the seventh form; the later family's looks); each row that meets fmt, with fmt's text TOLD by the authors' own Lean function (tested against real Go, not proved from fmt's source: count such statements apart). THE CARD IS WHAT COUNTS. Prove the row's statement (the work); the ties are given (YtbphnigdbffpmaaGreatDoorTie.lean); close each card by the builder's one call (the guide's Derived/Test/ToyasCard.lean, 'card_holds'). Laid BY PROGRAM, IN A SANDBOX (cutbox-door.mjs). By AI agents, Wed Nov 11 2026. No macro, syntax, notation, axiom, sorry.
-/
import Derived.Test.YtbphnigdbffpmaaGreatDoorRows
import GoSem.ClaimSeven
namespace Go.Proofs.YtbphnigdbffpmaaGreatDoor
namespace Rows

/-- THE TIED CARD OF 'verdigrislaw22.LocateFinds'. -/
def locateFindsCard : Claim7 := { stood := { row := locateFindsRow, standIns := [], harness := (true, "731b201f806b2e2bc1be6a5aa777020f0d20fe4e564818e04132ce31ba9349c1"), looks := true }, kinds := [], alts := [], laidByText := true, laidKinds := [.data, .data, .data, .sentinel, .sentinel, .data], laidTests := true, laidLooks := .later }
def LocateFindsCardSaid : Prop := Claim7.holds Tryz.pinned (.plain (OpenSpec.ofChange locateFindsSpec)) locateFindsCard

/-- THE TIED CARD OF 'verdigrislaw22.LocateLinear'. -/
def locateLinearCard : Claim7 := { stood := { row := locateLinearRow, standIns := [], harness := (true, "731b201f806b2e2bc1be6a5aa777020f0d20fe4e564818e04132ce31ba9349c1"), looks := true }, kinds := [], alts := [], laidByText := true, laidKinds := [.data, .data, .data, .sentinel, .sentinel, .data], laidTests := true, laidLooks := .later }
def LocateLinearCardSaid : Prop := Claim7.holds Tryz.pinned (.plain (OpenSpec.ofChange locateLinearSpec)) locateLinearCard

/-- THE TIED CARD OF 'verdigrislaw22.LocateNodes'. -/
def locateNodesCard : Claim7 := { stood := { row := locateNodesRow, standIns := [], harness := (true, "731b201f806b2e2bc1be6a5aa777020f0d20fe4e564818e04132ce31ba9349c1"), looks := true }, kinds := [], alts := [], laidByText := true, laidKinds := [.data, .data, .data, .sentinel, .sentinel, .data], laidTests := true, laidLooks := .later }
def LocateNodesCardSaid : Prop := Claim7.holds Tryz.pinned (.plain (OpenSpec.ofChange locateNodesSpec)) locateNodesCard

/-- THE TIED CARD OF 'verdigrislaw22.LocateKnown'. -/
def locateKnownCard : Claim7 := { stood := { row := locateKnownRow, standIns := [], harness := (true, "731b201f806b2e2bc1be6a5aa777020f0d20fe4e564818e04132ce31ba9349c1"), looks := true }, kinds := [], alts := [], laidByText := true, laidKinds := [.data, .data, .data, .sentinel, .sentinel, .data], laidTests := true, laidLooks := .later }
def LocateKnownCardSaid : Prop := Claim7.holds Tryz.pinned (.plain (OpenSpec.ofChange locateKnownSpec)) locateKnownCard

/-- THE TIED CARD OF 'verdigrislaw22.LocateBack'. -/
def locateBackCard : Claim7 := { stood := { row := locateBackRow, standIns := [], harness := (true, "731b201f806b2e2bc1be6a5aa777020f0d20fe4e564818e04132ce31ba9349c1"), looks := true }, kinds := [], alts := [], laidByText := true, laidKinds := [.data, .data, .data, .sentinel, .sentinel, .data], laidTests := true, laidLooks := .later }
def LocateBackCardSaid : Prop := Claim7.holds Tryz.pinned (.plain (OpenSpec.ofChange locateBackSpec)) locateBackCard

/-- THE SECOND FORM's CARD OF 'verdigrislaw22.LocateFinds'. -/
def locateFindsUptoCard : Claim7 := { stood := { row := locateFindsUptoRow, standIns := [], harness := (true, "731b201f806b2e2bc1be6a5aa777020f0d20fe4e564818e04132ce31ba9349c1"), looks := true }, kinds := [], alts := [], laidByText := true, laidKinds := [.data, .data, .data, .sentinel, .sentinel, .data], laidTests := true, laidLooks := .later }
def LocateFindsUptoCardSaid : Prop := Claim7.holds Tryz.pinned (.plain (OpenSpec.upto locateFindsSpec)) locateFindsUptoCard

/-- THE SECOND FORM's CARD OF 'verdigrislaw22.LocateLinear'. -/
def locateLinearUptoCard : Claim7 := { stood := { row := locateLinearUptoRow, standIns := [], harness := (true, "731b201f806b2e2bc1be6a5aa777020f0d20fe4e564818e04132ce31ba9349c1"), looks := true }, kinds := [], alts := [], laidByText := true, laidKinds := [.data, .data, .data, .sentinel, .sentinel, .data], laidTests := true, laidLooks := .later }
def LocateLinearUptoCardSaid : Prop := Claim7.holds Tryz.pinned (.plain (OpenSpec.upto locateLinearSpec)) locateLinearUptoCard

/-- THE SECOND FORM's CARD OF 'verdigrislaw22.LocateNodes'. -/
def locateNodesUptoCard : Claim7 := { stood := { row := locateNodesUptoRow, standIns := [], harness := (true, "731b201f806b2e2bc1be6a5aa777020f0d20fe4e564818e04132ce31ba9349c1"), looks := true }, kinds := [], alts := [], laidByText := true, laidKinds := [.data, .data, .data, .sentinel, .sentinel, .data], laidTests := true, laidLooks := .later }
def LocateNodesUptoCardSaid : Prop := Claim7.holds Tryz.pinned (.plain (OpenSpec.upto locateNodesSpec)) locateNodesUptoCard

/-- THE SECOND FORM's CARD OF 'verdigrislaw22.LocateKnown'. -/
def locateKnownUptoCard : Claim7 := { stood := { row := locateKnownUptoRow, standIns := [], harness := (true, "731b201f806b2e2bc1be6a5aa777020f0d20fe4e564818e04132ce31ba9349c1"), looks := true }, kinds := [], alts := [], laidByText := true, laidKinds := [.data, .data, .data, .sentinel, .sentinel, .data], laidTests := true, laidLooks := .later }
def LocateKnownUptoCardSaid : Prop := Claim7.holds Tryz.pinned (.plain (OpenSpec.upto locateKnownSpec)) locateKnownUptoCard

/-- THE SECOND FORM's CARD OF 'verdigrislaw22.LocateBack'. -/
def locateBackUptoCard : Claim7 := { stood := { row := locateBackUptoRow, standIns := [], harness := (true, "731b201f806b2e2bc1be6a5aa777020f0d20fe4e564818e04132ce31ba9349c1"), looks := true }, kinds := [], alts := [], laidByText := true, laidKinds := [.data, .data, .data, .sentinel, .sentinel, .data], laidTests := true, laidLooks := .later }
def LocateBackUptoCardSaid : Prop := Claim7.holds Tryz.pinned (.plain (OpenSpec.upto locateBackSpec)) locateBackUptoCard
end Rows
end Go.Proofs.YtbphnigdbffpmaaGreatDoor
