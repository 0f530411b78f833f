/-
  DERIVED. GIVEN WITH THE SEED: THE CARDS: each row of YtijadjbnapojfaaGreatDoorRows.lean that lists a variable, with what it lists TIED to the program's text (the seventh form; the later family's looks); each row that meets fmt, with fmt's text TOLD by the authors' own Lean function (tested against real Go, not proved from fmt's source: count such statements apart). THE CARD IS WHAT COUNTS. Prove the row's statement (the work); the ties are given (YtijadjbnapojfaaGreatDoorTie.lean); close each card by the builder's one call (the guide's Derived/Test/ToyasCard.lean, 'card_holds'). Laid BY PROGRAM, IN A SANDBOX (cutbox-door.mjs). By AI agents, Wed Nov 11 2026. No macro, syntax, notation, axiom, sorry.
-/
import Derived.Test.YtijadjbnapojfaaGreatDoorRows
import GoSem.ClaimSeven
namespace Go.Proofs.YtijadjbnapojfaaGreatDoor
namespace Rows

/-- THE TIED CARD OF 'tailwaterlaw38.EnabledNone'. -/
def enabledNoneCard : Claim7 := { stood := { row := enabledNoneRow, standIns := [], harness := (true, "d816e7197e2aa0d45ee29847a854d8b932d7d8ac657ef11d0a3b04aa094e55d8"), looks := true }, kinds := [], alts := [], laidByText := true, laidKinds := [.data, .data, .data, .data, .sentinel, .sentinel, .listed, .data, .pinned], laidTests := true, laidLooks := .later }
def EnabledNoneCardSaid : Prop := Claim7.holds Tryz.pinned (.plain (OpenSpec.ofChange enabledNoneSpec)) enabledNoneCard

/-- THE TIED CARD OF 'tailwaterlaw38.EnabledAll'. -/
def enabledAllCard : Claim7 := { stood := { row := enabledAllRow, standIns := [], harness := (true, "d816e7197e2aa0d45ee29847a854d8b932d7d8ac657ef11d0a3b04aa094e55d8"), looks := true }, kinds := [], alts := [], laidByText := true, laidKinds := [.data, .data, .data, .data, .sentinel, .sentinel, .listed, .data, .pinned], laidTests := true, laidLooks := .later }
def EnabledAllCardSaid : Prop := Claim7.holds Tryz.pinned (.plain (OpenSpec.ofChange enabledAllSpec)) enabledAllCard

/-- THE SECOND FORM's CARD OF 'tailwaterlaw38.EnabledNone'. -/
def enabledNoneUptoCard : Claim7 := { stood := { row := enabledNoneUptoRow, standIns := [], harness := (true, "d816e7197e2aa0d45ee29847a854d8b932d7d8ac657ef11d0a3b04aa094e55d8"), looks := true }, kinds := [], alts := [], laidByText := true, laidKinds := [.data, .data, .data, .data, .sentinel, .sentinel, .listed, .data, .pinned], laidTests := true, laidLooks := .later }
def EnabledNoneUptoCardSaid : Prop := Claim7.holds Tryz.pinned (.plain (OpenSpec.upto enabledNoneSpec)) enabledNoneUptoCard

/-- THE SECOND FORM's CARD OF 'tailwaterlaw38.EnabledAll'. -/
def enabledAllUptoCard : Claim7 := { stood := { row := enabledAllUptoRow, standIns := [], harness := (true, "d816e7197e2aa0d45ee29847a854d8b932d7d8ac657ef11d0a3b04aa094e55d8"), looks := true }, kinds := [], alts := [], laidByText := true, laidKinds := [.data, .data, .data, .data, .sentinel, .sentinel, .listed, .data, .pinned], laidTests := true, laidLooks := .later }
def EnabledAllUptoCardSaid : Prop := Claim7.holds Tryz.pinned (.plain (OpenSpec.upto enabledAllSpec)) enabledAllUptoCard
end Rows
end Go.Proofs.YtijadjbnapojfaaGreatDoor
