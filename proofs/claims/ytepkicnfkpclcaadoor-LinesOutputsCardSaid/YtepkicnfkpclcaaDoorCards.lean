/-
  DERIVED. GIVEN WITH THE SEED: THE CARDS: each row of YtepkicnfkpclcaaDoorRows.lean that lists a variable, with what it lists TIED to the program's text (the seventh form; the later family's looks); each row that meets fmt, with fmt's text TOLD by the authors' own Lean function (tested against real Go, not proved from fmt's source: count such statements apart). THE CARD IS WHAT COUNTS. Prove the row's statement (the work); the ties are given (YtepkicnfkpclcaaDoorTie.lean); close each card by the builder's one call (the guide's Derived/Test/ToyasCard.lean, 'card_holds'). Laid BY PROGRAM, IN A SANDBOX (cutbox-door.mjs). By AI agents, Wed Nov 11 2026. No macro, syntax, notation, axiom, sorry.
-/
import Derived.Test.YtepkicnfkpclcaaDoorRows
import GoSem.ClaimSeven
namespace Go.Proofs.YtepkicnfkpclcaaDoor
namespace Rows

/-- THE TIED CARD OF 'tailwaterlaw45.LinesOutputs'. -/
def linesOutputsCard : Claim7 := { stood := { row := linesOutputsRow, standIns := [], harness := (true, "ccc7d6b389969b214ca4da95f0ccb5a437f0b4bc64fd87ab7156c342e5350795"), looks := true }, kinds := [], alts := [], laidByText := true, laidKinds := [.data, .data, .data, .data, .sentinel, .sentinel, .pinned], laidTests := true, laidLooks := .later }
def LinesOutputsCardSaid : Prop := Claim7.holds Tryd.pinned (.plain (OpenSpec.ofChange linesOutputsSpec)) linesOutputsCard

/-- THE TIED CARD OF 'tailwaterlaw45.LinesBack'. -/
def linesBackCard : Claim7 := { stood := { row := linesBackRow, standIns := [], harness := (true, "ccc7d6b389969b214ca4da95f0ccb5a437f0b4bc64fd87ab7156c342e5350795"), looks := true }, kinds := [], alts := [], laidByText := true, laidKinds := [.data, .data, .data, .data, .sentinel, .sentinel, .pinned], laidTests := true, laidLooks := .later }
def LinesBackCardSaid : Prop := Claim7.holds Tryd.pinned (.plain (OpenSpec.ofChange linesBackSpec)) linesBackCard

/-- THE TIED CARD OF 'tailwaterlaw45.LinesJoined'. -/
def linesJoinedCard : Claim7 := { stood := { row := linesJoinedRow, standIns := [], harness := (true, "ccc7d6b389969b214ca4da95f0ccb5a437f0b4bc64fd87ab7156c342e5350795"), looks := true }, kinds := [], alts := [], laidByText := true, laidKinds := [.data, .data, .data, .data, .sentinel, .sentinel, .pinned], laidTests := true, laidLooks := .later }
def LinesJoinedCardSaid : Prop := Claim7.holds Tryd.pinned (.plain (OpenSpec.ofChange linesJoinedSpec)) linesJoinedCard

/-- THE SECOND FORM's CARD OF 'tailwaterlaw45.LinesOutputs'. -/
def linesOutputsUptoCard : Claim7 := { stood := { row := linesOutputsUptoRow, standIns := [], harness := (true, "ccc7d6b389969b214ca4da95f0ccb5a437f0b4bc64fd87ab7156c342e5350795"), looks := true }, kinds := [], alts := [], laidByText := true, laidKinds := [.data, .data, .data, .data, .sentinel, .sentinel, .pinned], laidTests := true, laidLooks := .later }
def LinesOutputsUptoCardSaid : Prop := Claim7.holds Tryd.pinned (.plain (OpenSpec.upto linesOutputsSpec)) linesOutputsUptoCard

/-- THE SECOND FORM's CARD OF 'tailwaterlaw45.LinesBack'. -/
def linesBackUptoCard : Claim7 := { stood := { row := linesBackUptoRow, standIns := [], harness := (true, "ccc7d6b389969b214ca4da95f0ccb5a437f0b4bc64fd87ab7156c342e5350795"), looks := true }, kinds := [], alts := [], laidByText := true, laidKinds := [.data, .data, .data, .data, .sentinel, .sentinel, .pinned], laidTests := true, laidLooks := .later }
def LinesBackUptoCardSaid : Prop := Claim7.holds Tryd.pinned (.plain (OpenSpec.upto linesBackSpec)) linesBackUptoCard

/-- THE SECOND FORM's CARD OF 'tailwaterlaw45.LinesJoined'. -/
def linesJoinedUptoCard : Claim7 := { stood := { row := linesJoinedUptoRow, standIns := [], harness := (true, "ccc7d6b389969b214ca4da95f0ccb5a437f0b4bc64fd87ab7156c342e5350795"), looks := true }, kinds := [], alts := [], laidByText := true, laidKinds := [.data, .data, .data, .data, .sentinel, .sentinel, .pinned], laidTests := true, laidLooks := .later }
def LinesJoinedUptoCardSaid : Prop := Claim7.holds Tryd.pinned (.plain (OpenSpec.upto linesJoinedSpec)) linesJoinedUptoCard
end Rows
end Go.Proofs.YtepkicnfkpclcaaDoor
