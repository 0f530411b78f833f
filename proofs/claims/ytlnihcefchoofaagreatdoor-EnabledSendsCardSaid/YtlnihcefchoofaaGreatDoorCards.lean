/-
  DERIVED. GIVEN WITH THE SEED: THE CARDS: each row of YtlnihcefchoofaaGreatDoorRows.lean that lists a variable, with what it lists TIED to the program's text (the seventh form; the later family's looks); each row that meets fmt, with fmt's text TOLD by the authors' own Lean function (tested against real Go, not proved from fmt's source: count such statements apart). THE CARD IS WHAT COUNTS. Prove the row's statement (the work); the ties are given (YtlnihcefchoofaaGreatDoorTie.lean); close each card by the builder's one call (the guide's Derived/Test/ToyasCard.lean, 'card_holds'). Laid BY PROGRAM, IN A SANDBOX (cutbox-door.mjs). By AI agents, Wed Nov 11 2026. No macro, syntax, notation, axiom, sorry.
-/
import Derived.Test.YtlnihcefchoofaaGreatDoorRows
import GoSem.ClaimSeven
namespace Go.Proofs.YtlnihcefchoofaaGreatDoor
namespace Rows

/-- THE TIED CARD OF 'tailwaterlaw38.EnabledSends'. -/
def enabledSendsCard : Claim7 := { stood := { row := enabledSendsRow, standIns := [], harness := (true, "75dd9de2d745f61c617f6375a36151a76b2031e395a92f8c8b6074c0dd9750a1"), looks := true }, kinds := [], alts := [], laidByText := true, laidKinds := [.data, .data, .data, .data, .sentinel, .sentinel, .listed, .data, .pinned], laidTests := true, laidLooks := .later }
def EnabledSendsCardSaid : Prop := Claim7.holds Tryz.pinned (.plain (OpenSpec.ofChange enabledSendsSpec)) enabledSendsCard

/-- THE SECOND FORM's CARD OF 'tailwaterlaw38.EnabledSends'. -/
def enabledSendsUptoCard : Claim7 := { stood := { row := enabledSendsUptoRow, standIns := [], harness := (true, "75dd9de2d745f61c617f6375a36151a76b2031e395a92f8c8b6074c0dd9750a1"), looks := true }, kinds := [], alts := [], laidByText := true, laidKinds := [.data, .data, .data, .data, .sentinel, .sentinel, .listed, .data, .pinned], laidTests := true, laidLooks := .later }
def EnabledSendsUptoCardSaid : Prop := Claim7.holds Tryz.pinned (.plain (OpenSpec.upto enabledSendsSpec)) enabledSendsUptoCard
end Rows
end Go.Proofs.YtlnihcefchoofaaGreatDoor
