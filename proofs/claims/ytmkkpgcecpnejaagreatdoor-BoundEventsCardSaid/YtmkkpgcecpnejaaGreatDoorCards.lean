/-
  DERIVED. GIVEN WITH THE SEED: THE CARDS: each row of YtmkkpgcecpnejaaGreatDoorRows.lean that lists a variable, with what it lists TIED to the program's text (the seventh form; the later family's looks); each row that meets fmt, with fmt's text TOLD by the authors' own Lean function (tested against real Go, not proved from fmt's source: count such statements apart). THE CARD IS WHAT COUNTS. Prove the row's statement (the work); the ties are given (YtmkkpgcecpnejaaGreatDoorTie.lean); close each card by the builder's one call (the guide's Derived/Test/ToyasCard.lean, 'card_holds'). Laid BY PROGRAM, IN A SANDBOX (cutbox-door.mjs). By AI agents, Wed Nov 11 2026. No macro, syntax, notation, axiom, sorry.
-/
import Derived.Test.YtmkkpgcecpnejaaGreatDoorRows
import GoSem.ClaimSeven
namespace Go.Proofs.YtmkkpgcecpnejaaGreatDoor
namespace Rows

/-- THE TIED CARD OF 'tailwaterlaw39.BoundEvents'. -/
def boundEventsCard : Claim7 := { stood := { row := boundEventsRow, standIns := [], harness := (true, "7daa0b8cad089e8188904a77cbcd1b0084ae778187460032c4e64e34a53f2033"), looks := true }, kinds := [], alts := [], laidByText := true, laidKinds := [.data, .data, .data, .data, .sentinel, .sentinel, .listed, .data, .pinned], laidTests := true, laidLooks := .later }
def BoundEventsCardSaid : Prop := Claim7.holds Tryz.pinned (.plain (OpenSpec.ofChange boundEventsSpec)) boundEventsCard

/-- THE SECOND FORM's CARD OF 'tailwaterlaw39.BoundEvents'. -/
def boundEventsUptoCard : Claim7 := { stood := { row := boundEventsUptoRow, standIns := [], harness := (true, "7daa0b8cad089e8188904a77cbcd1b0084ae778187460032c4e64e34a53f2033"), looks := true }, kinds := [], alts := [], laidByText := true, laidKinds := [.data, .data, .data, .data, .sentinel, .sentinel, .listed, .data, .pinned], laidTests := true, laidLooks := .later }
def BoundEventsUptoCardSaid : Prop := Claim7.holds Tryz.pinned (.plain (OpenSpec.upto boundEventsSpec)) boundEventsUptoCard
end Rows
end Go.Proofs.YtmkkpgcecpnejaaGreatDoor
