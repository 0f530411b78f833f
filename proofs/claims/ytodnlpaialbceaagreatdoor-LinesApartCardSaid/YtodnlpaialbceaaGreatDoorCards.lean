/-
  DERIVED. GIVEN WITH THE SEED: THE CARDS: each row of YtodnlpaialbceaaGreatDoorRows.lean that lists a variable, with what it lists TIED to the program's text (the seventh form; the later family's looks); each row that meets fmt, with fmt's text TOLD by the authors' own Lean function (tested against real Go, not proved from fmt's source: count such statements apart). THE CARD IS WHAT COUNTS. Prove the row's statement (the work); the ties are given (YtodnlpaialbceaaGreatDoorTie.lean); close each card by the builder's one call (the guide's Derived/Test/ToyasCard.lean, 'card_holds'). Laid BY PROGRAM, IN A SANDBOX (cutbox-door.mjs). By AI agents, Wed Nov 11 2026. No macro, syntax, notation, axiom, sorry.
-/
import Derived.Test.YtodnlpaialbceaaGreatDoorRows
import GoSem.ClaimSeven
namespace Go.Proofs.YtodnlpaialbceaaGreatDoor
namespace Rows

/-- THE TIED CARD OF 'tailwaterlaw45.LinesScripts'. -/
def linesScriptsCard : Claim7 := { stood := { row := linesScriptsRow, standIns := [], harness := (true, "6f2461f034624202f4ca38262ceb8eaeec3b8d64ccfc17a3e590ba366b3027ae"), looks := true }, kinds := [], alts := [], laidByText := true, laidKinds := [.data, .data, .data, .data, .sentinel, .sentinel, .pinned], laidTests := true, laidLooks := .later }
def LinesScriptsCardSaid : Prop := Claim7.holds Tryz.pinned (.plain (OpenSpec.ofChange linesScriptsSpec)) linesScriptsCard

/-- THE TIED CARD OF 'tailwaterlaw45.LinesApart'. -/
def linesApartCard : Claim7 := { stood := { row := linesApartRow, standIns := [], harness := (true, "6f2461f034624202f4ca38262ceb8eaeec3b8d64ccfc17a3e590ba366b3027ae"), looks := true }, kinds := [], alts := [], laidByText := true, laidKinds := [.data, .data, .data, .data, .sentinel, .sentinel, .pinned], laidTests := true, laidLooks := .later }
def LinesApartCardSaid : Prop := Claim7.holds Tryz.pinned (.plain (OpenSpec.ofChange linesApartSpec)) linesApartCard

/-- THE SECOND FORM's CARD OF 'tailwaterlaw45.LinesScripts'. -/
def linesScriptsUptoCard : Claim7 := { stood := { row := linesScriptsUptoRow, standIns := [], harness := (true, "6f2461f034624202f4ca38262ceb8eaeec3b8d64ccfc17a3e590ba366b3027ae"), looks := true }, kinds := [], alts := [], laidByText := true, laidKinds := [.data, .data, .data, .data, .sentinel, .sentinel, .pinned], laidTests := true, laidLooks := .later }
def LinesScriptsUptoCardSaid : Prop := Claim7.holds Tryz.pinned (.plain (OpenSpec.upto linesScriptsSpec)) linesScriptsUptoCard

/-- THE SECOND FORM's CARD OF 'tailwaterlaw45.LinesApart'. -/
def linesApartUptoCard : Claim7 := { stood := { row := linesApartUptoRow, standIns := [], harness := (true, "6f2461f034624202f4ca38262ceb8eaeec3b8d64ccfc17a3e590ba366b3027ae"), looks := true }, kinds := [], alts := [], laidByText := true, laidKinds := [.data, .data, .data, .data, .sentinel, .sentinel, .pinned], laidTests := true, laidLooks := .later }
def LinesApartUptoCardSaid : Prop := Claim7.holds Tryz.pinned (.plain (OpenSpec.upto linesApartSpec)) linesApartUptoCard
end Rows
end Go.Proofs.YtodnlpaialbceaaGreatDoor
