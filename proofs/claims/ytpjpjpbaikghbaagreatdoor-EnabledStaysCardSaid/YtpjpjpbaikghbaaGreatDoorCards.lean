/-
  DERIVED. GIVEN WITH THE SEED: THE CARDS: each row of YtpjpjpbaikghbaaGreatDoorRows.lean that lists a variable, with what it lists TIED to the program's text (the seventh form; the later family's looks); each row that meets fmt, with fmt's text TOLD by the authors' own Lean function (tested against real Go, not proved from fmt's source: count such statements apart). THE CARD IS WHAT COUNTS. Prove the row's statement (the work); the ties are given (YtpjpjpbaikghbaaGreatDoorTie.lean); close each card by the builder's one call (the guide's Derived/Test/ToyasCard.lean, 'card_holds'). Laid BY PROGRAM, IN A SANDBOX (cutbox-door.mjs). By AI agents, Wed Nov 11 2026. No macro, syntax, notation, axiom, sorry.
-/
import Derived.Test.YtpjpjpbaikghbaaGreatDoorRows
import GoSem.ClaimSeven
namespace Go.Proofs.YtpjpjpbaikghbaaGreatDoor
namespace Rows

/-- THE TIED CARD OF 'tailwaterlaw38.EnabledStays'. -/
def enabledStaysCard : Claim7 := { stood := { row := enabledStaysRow, standIns := [], harness := (true, "95c35c6603fb35eca0180e82d6f9fa8bdca6ebef85d058ff697e5b3d4002ae62"), looks := true }, kinds := [], alts := [], laidByText := true, laidKinds := [.data, .data, .data, .data, .sentinel, .sentinel, .listed, .data, .pinned], laidTests := true, laidLooks := .later }
def EnabledStaysCardSaid : Prop := Claim7.holds Tryz.pinned (.plain (OpenSpec.ofChange enabledStaysSpec)) enabledStaysCard

/-- THE TIED CARD OF 'tailwaterlaw38.EnabledSends'. -/
def enabledSendsCard : Claim7 := { stood := { row := enabledSendsRow, standIns := [], harness := (true, "95c35c6603fb35eca0180e82d6f9fa8bdca6ebef85d058ff697e5b3d4002ae62"), looks := true }, kinds := [], alts := [], laidByText := true, laidKinds := [.data, .data, .data, .data, .sentinel, .sentinel, .listed, .data, .pinned], laidTests := true, laidLooks := .later }
def EnabledSendsCardSaid : Prop := Claim7.holds Tryz.pinned (.plain (OpenSpec.ofChange enabledSendsSpec)) enabledSendsCard

/-- THE SECOND FORM's CARD OF 'tailwaterlaw38.EnabledStays'. -/
def enabledStaysUptoCard : Claim7 := { stood := { row := enabledStaysUptoRow, standIns := [], harness := (true, "95c35c6603fb35eca0180e82d6f9fa8bdca6ebef85d058ff697e5b3d4002ae62"), looks := true }, kinds := [], alts := [], laidByText := true, laidKinds := [.data, .data, .data, .data, .sentinel, .sentinel, .listed, .data, .pinned], laidTests := true, laidLooks := .later }
def EnabledStaysUptoCardSaid : Prop := Claim7.holds Tryz.pinned (.plain (OpenSpec.upto enabledStaysSpec)) enabledStaysUptoCard

/-- THE SECOND FORM's CARD OF 'tailwaterlaw38.EnabledSends'. -/
def enabledSendsUptoCard : Claim7 := { stood := { row := enabledSendsUptoRow, standIns := [], harness := (true, "95c35c6603fb35eca0180e82d6f9fa8bdca6ebef85d058ff697e5b3d4002ae62"), looks := true }, kinds := [], alts := [], laidByText := true, laidKinds := [.data, .data, .data, .data, .sentinel, .sentinel, .listed, .data, .pinned], laidTests := true, laidLooks := .later }
def EnabledSendsUptoCardSaid : Prop := Claim7.holds Tryz.pinned (.plain (OpenSpec.upto enabledSendsSpec)) enabledSendsUptoCard
end Rows
end Go.Proofs.YtpjpjpbaikghbaaGreatDoor
