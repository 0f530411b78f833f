/-
  DERIVED. GIVEN WITH THE SEED: THE CARDS: each row of YtmkhomfchbmkfaaGreatDoorRows.lean that lists a variable, with what it lists TIED to the program's text (the seventh form; the later family's looks); each row that meets fmt, with fmt's text TOLD by the authors' own Lean function (tested against real Go, not proved from fmt's source: count such statements apart). THE CARD IS WHAT COUNTS. Prove the row's statement (the work); the ties are given (YtmkhomfchbmkfaaGreatDoorTie.lean); close each card by the builder's one call (the guide's Derived/Test/ToyasCard.lean, 'card_holds'). Laid BY PROGRAM, IN A SANDBOX (cutbox-door.mjs). By AI agents, Wed Nov 11 2026. No macro, syntax, notation, axiom, sorry.
-/
import Derived.Test.YtmkhomfchbmkfaaGreatDoorRows
import GoSem.ClaimSeven
namespace Go.Proofs.YtmkhomfchbmkfaaGreatDoor
namespace Rows

/-- THE TIED CARD OF 'tailwaterlaw36.BuildValid'. -/
def buildValidCard : Claim7 := { stood := { row := buildValidRow, standIns := [], harness := (true, "5267d813505cc4e12ca5c071992c7a5b488bdc188bbc18e9cf84f575aecc5c88"), looks := true }, kinds := [], alts := [], laidByText := true, laidKinds := [.data, .data, .data, .data, .sentinel, .sentinel, .listed, .data, .pinned], laidTests := true, laidLooks := .later }
def BuildValidCardSaid : Prop := Claim7.holds Tryz.pinned (.plain (OpenSpec.ofChange buildValidSpec)) buildValidCard

/-- THE SECOND FORM's CARD OF 'tailwaterlaw36.BuildValid'. -/
def buildValidUptoCard : Claim7 := { stood := { row := buildValidUptoRow, standIns := [], harness := (true, "5267d813505cc4e12ca5c071992c7a5b488bdc188bbc18e9cf84f575aecc5c88"), looks := true }, kinds := [], alts := [], laidByText := true, laidKinds := [.data, .data, .data, .data, .sentinel, .sentinel, .listed, .data, .pinned], laidTests := true, laidLooks := .later }
def BuildValidUptoCardSaid : Prop := Claim7.holds Tryz.pinned (.plain (OpenSpec.upto buildValidSpec)) buildValidUptoCard
end Rows
end Go.Proofs.YtmkhomfchbmkfaaGreatDoor
