/-
  DERIVED. GIVEN WITH THE SEED: THE CARDS: each row of YtdcgemfchohffaaGreatDoorRows.lean that lists a variable, with what it lists TIED to the program's text (the seventh form; the later family's looks); each row that meets fmt, with fmt's text TOLD by the authors' own Lean function (tested against real Go, not proved from fmt's source: count such statements apart). THE CARD IS WHAT COUNTS. Prove the row's statement (the work); the ties are given (YtdcgemfchohffaaGreatDoorTie.lean); close each card by the builder's one call (the guide's Derived/Test/ToyasCard.lean, 'card_holds'). Laid BY PROGRAM, IN A SANDBOX (cutbox-door.mjs). By AI agents, Wed Nov 11 2026. No macro, syntax, notation, axiom, sorry.
-/
import Derived.Test.YtdcgemfchohffaaGreatDoorRows
import GoSem.ClaimSeven
namespace Go.Proofs.YtdcgemfchohffaaGreatDoor
namespace Rows

/-- THE TIED CARD OF 'tailwaterlaw39.BoundMarks'. -/
def boundMarksCard : Claim7 := { stood := { row := boundMarksRow, standIns := [], harness := (true, "9e31077956799f9e17a38c2258576882ca9cb19cd333464e004da1121a78b557"), looks := true }, kinds := [], alts := [], laidByText := true, laidKinds := [.data, .data, .data, .data, .sentinel, .sentinel, .listed, .data, .pinned], laidTests := true, laidLooks := .later }
def BoundMarksCardSaid : Prop := Claim7.holds Tryz.pinned (.plain (OpenSpec.ofChange boundMarksSpec)) boundMarksCard

/-- THE TIED CARD OF 'tailwaterlaw39.BoundLeft'. -/
def boundLeftCard : Claim7 := { stood := { row := boundLeftRow, standIns := [], harness := (true, "9e31077956799f9e17a38c2258576882ca9cb19cd333464e004da1121a78b557"), looks := true }, kinds := [], alts := [], laidByText := true, laidKinds := [.data, .data, .data, .data, .sentinel, .sentinel, .listed, .data, .pinned], laidTests := true, laidLooks := .later }
def BoundLeftCardSaid : Prop := Claim7.holds Tryz.pinned (.plain (OpenSpec.ofChange boundLeftSpec)) boundLeftCard

/-- THE SECOND FORM's CARD OF 'tailwaterlaw39.BoundMarks'. -/
def boundMarksUptoCard : Claim7 := { stood := { row := boundMarksUptoRow, standIns := [], harness := (true, "9e31077956799f9e17a38c2258576882ca9cb19cd333464e004da1121a78b557"), looks := true }, kinds := [], alts := [], laidByText := true, laidKinds := [.data, .data, .data, .data, .sentinel, .sentinel, .listed, .data, .pinned], laidTests := true, laidLooks := .later }
def BoundMarksUptoCardSaid : Prop := Claim7.holds Tryz.pinned (.plain (OpenSpec.upto boundMarksSpec)) boundMarksUptoCard

/-- THE SECOND FORM's CARD OF 'tailwaterlaw39.BoundLeft'. -/
def boundLeftUptoCard : Claim7 := { stood := { row := boundLeftUptoRow, standIns := [], harness := (true, "9e31077956799f9e17a38c2258576882ca9cb19cd333464e004da1121a78b557"), looks := true }, kinds := [], alts := [], laidByText := true, laidKinds := [.data, .data, .data, .data, .sentinel, .sentinel, .listed, .data, .pinned], laidTests := true, laidLooks := .later }
def BoundLeftUptoCardSaid : Prop := Claim7.holds Tryz.pinned (.plain (OpenSpec.upto boundLeftSpec)) boundLeftUptoCard
end Rows
end Go.Proofs.YtdcgemfchohffaaGreatDoor
