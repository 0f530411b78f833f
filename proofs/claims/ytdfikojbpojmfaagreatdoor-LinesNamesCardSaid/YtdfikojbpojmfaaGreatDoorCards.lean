/-
  DERIVED. GIVEN WITH THE SEED: THE CARDS: each row of YtdfikojbpojmfaaGreatDoorRows.lean that lists a variable, with what it lists TIED to the program's text (the seventh form; the later family's looks); each row that meets fmt, with fmt's text TOLD by the authors' own Lean function (tested against real Go, not proved from fmt's source: count such statements apart). THE CARD IS WHAT COUNTS. Prove the row's statement (the work); the ties are given (YtdfikojbpojmfaaGreatDoorTie.lean); close each card by the builder's one call (the guide's Derived/Test/ToyasCard.lean, 'card_holds'). Laid BY PROGRAM, IN A SANDBOX (cutbox-door.mjs). By AI agents, Wed Nov 11 2026. No macro, syntax, notation, axiom, sorry.
-/
import Derived.Test.YtdfikojbpojmfaaGreatDoorRows
import GoSem.ClaimSeven
namespace Go.Proofs.YtdfikojbpojmfaaGreatDoor
namespace Rows

/-- THE TIED CARD OF 'tailwaterlaw45.LinesNames'. -/
def linesNamesCard : Claim7 := { stood := { row := linesNamesRow, standIns := [], harness := (true, "689379462a21858a6f466d75d236bebb33b51e92de2915221d9ce4d82a993398"), looks := true }, kinds := [], alts := [], laidByText := true, laidKinds := [.data, .data, .data, .data, .sentinel, .sentinel, .listed, .data, .pinned], laidTests := true, laidLooks := .later }
def LinesNamesCardSaid : Prop := Claim7.holds Tryz.pinned (.plain (OpenSpec.ofChange linesNamesSpec)) linesNamesCard

/-- THE SECOND FORM's CARD OF 'tailwaterlaw45.LinesNames'. -/
def linesNamesUptoCard : Claim7 := { stood := { row := linesNamesUptoRow, standIns := [], harness := (true, "689379462a21858a6f466d75d236bebb33b51e92de2915221d9ce4d82a993398"), looks := true }, kinds := [], alts := [], laidByText := true, laidKinds := [.data, .data, .data, .data, .sentinel, .sentinel, .listed, .data, .pinned], laidTests := true, laidLooks := .later }
def LinesNamesUptoCardSaid : Prop := Claim7.holds Tryz.pinned (.plain (OpenSpec.upto linesNamesSpec)) linesNamesUptoCard
end Rows
end Go.Proofs.YtdfikojbpojmfaaGreatDoor
