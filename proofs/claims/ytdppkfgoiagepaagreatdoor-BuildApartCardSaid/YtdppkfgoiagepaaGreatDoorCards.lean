/-
  DERIVED. GIVEN WITH THE SEED: THE CARDS: each row of YtdppkfgoiagepaaGreatDoorRows.lean that lists a variable, with what it lists TIED to the program's text (the seventh form; the later family's looks); each row that meets fmt, with fmt's text TOLD by the authors' own Lean function (tested against real Go, not proved from fmt's source: count such statements apart). THE CARD IS WHAT COUNTS. Prove the row's statement (the work); the ties are given (YtdppkfgoiagepaaGreatDoorTie.lean); close each card by the builder's one call (the guide's Derived/Test/ToyasCard.lean, 'card_holds'). Laid BY PROGRAM, IN A SANDBOX (cutbox-door.mjs). By AI agents, Wed Nov 11 2026. No macro, syntax, notation, axiom, sorry.
-/
import Derived.Test.YtdppkfgoiagepaaGreatDoorRows
import GoSem.ClaimSeven
namespace Go.Proofs.YtdppkfgoiagepaaGreatDoor
namespace Rows

/-- THE TIED CARD OF 'tailwaterlaw36.BuildApart'. -/
def buildApartCard : Claim7 := { stood := { row := buildApartRow, standIns := [], harness := (true, "b441c1b06d013a362308f62d53f0efa8d37b8006f0dc7d73411d93e84fa7bf7d"), looks := true }, kinds := [], alts := [], laidByText := true, laidKinds := [.data, .data, .data, .data, .sentinel, .sentinel, .listed, .data, .pinned], laidTests := true, laidLooks := .later }
def BuildApartCardSaid : Prop := Claim7.holds Tryz.pinned (.plain (OpenSpec.ofChange buildApartSpec)) buildApartCard

/-- THE SECOND FORM's CARD OF 'tailwaterlaw36.BuildApart'. -/
def buildApartUptoCard : Claim7 := { stood := { row := buildApartUptoRow, standIns := [], harness := (true, "b441c1b06d013a362308f62d53f0efa8d37b8006f0dc7d73411d93e84fa7bf7d"), looks := true }, kinds := [], alts := [], laidByText := true, laidKinds := [.data, .data, .data, .data, .sentinel, .sentinel, .listed, .data, .pinned], laidTests := true, laidLooks := .later }
def BuildApartUptoCardSaid : Prop := Claim7.holds Tryz.pinned (.plain (OpenSpec.upto buildApartSpec)) buildApartUptoCard
end Rows
end Go.Proofs.YtdppkfgoiagepaaGreatDoor
