/-
  DERIVED. GIVEN WITH THE SEED: THE CARDS: each row of YtenldcjkpgmpnaaGreatDoorRows.lean that lists a variable, with what it lists TIED to the program's text (the seventh form; the later family's looks); each row that meets fmt, with fmt's text TOLD by the authors' own Lean function (tested against real Go, not proved from fmt's source: count such statements apart). THE CARD IS WHAT COUNTS. Prove the row's statement (the work); the ties are given (YtenldcjkpgmpnaaGreatDoorTie.lean); close each card by the builder's one call (the guide's Derived/Test/ToyasCard.lean, 'card_holds'). Laid BY PROGRAM, IN A SANDBOX (cutbox-door.mjs). By AI agents, Wed Nov 11 2026. No macro, syntax, notation, axiom, sorry.
-/
import Derived.Test.YtenldcjkpgmpnaaGreatDoorRows
import GoSem.ClaimSeven
namespace Go.Proofs.YtenldcjkpgmpnaaGreatDoor
namespace Rows

/-- THE TIED CARD OF 'tailwaterlaw36.BuildTwice'. -/
def buildTwiceCard : Claim7 := { stood := { row := buildTwiceRow, standIns := [], harness := (true, "e3f5836b4bfee733ae9b53450b9f901b45cd5aa1e73eb87823750533578d7a53"), looks := true }, kinds := [], alts := [], laidByText := true, laidKinds := [.data, .data, .data, .data, .sentinel, .sentinel, .listed, .data, .pinned], laidTests := true, laidLooks := .later }
def BuildTwiceCardSaid : Prop := Claim7.holds Tryz.pinned (.plain (OpenSpec.ofChange buildTwiceSpec)) buildTwiceCard

/-- THE SECOND FORM's CARD OF 'tailwaterlaw36.BuildTwice'. -/
def buildTwiceUptoCard : Claim7 := { stood := { row := buildTwiceUptoRow, standIns := [], harness := (true, "e3f5836b4bfee733ae9b53450b9f901b45cd5aa1e73eb87823750533578d7a53"), looks := true }, kinds := [], alts := [], laidByText := true, laidKinds := [.data, .data, .data, .data, .sentinel, .sentinel, .listed, .data, .pinned], laidTests := true, laidLooks := .later }
def BuildTwiceUptoCardSaid : Prop := Claim7.holds Tryz.pinned (.plain (OpenSpec.upto buildTwiceSpec)) buildTwiceUptoCard
end Rows
end Go.Proofs.YtenldcjkpgmpnaaGreatDoor
