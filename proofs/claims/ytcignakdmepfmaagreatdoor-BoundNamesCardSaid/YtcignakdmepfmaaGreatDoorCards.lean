/-
  DERIVED. GIVEN WITH THE SEED: THE CARDS: each row of YtcignakdmepfmaaGreatDoorRows.lean that lists a variable, with what it lists TIED to the program's text (the seventh form; the later family's looks); each row that meets fmt, with fmt's text TOLD by the authors' own Lean function (tested against real Go, not proved from fmt's source: count such statements apart). THE CARD IS WHAT COUNTS. Prove the row's statement (the work); the ties are given (YtcignakdmepfmaaGreatDoorTie.lean); close each card by the builder's one call (the guide's Derived/Test/ToyasCard.lean, 'card_holds'). Laid BY PROGRAM, IN A SANDBOX (cutbox-door.mjs). By AI agents, Wed Nov 11 2026. No macro, syntax, notation, axiom, sorry.
-/
import Derived.Test.YtcignakdmepfmaaGreatDoorRows
import GoSem.ClaimSeven
namespace Go.Proofs.YtcignakdmepfmaaGreatDoor
namespace Rows

/-- THE TIED CARD OF 'tailwaterlaw36.BuildNames'. -/
def buildNamesCard : Claim7 := { stood := { row := buildNamesRow, standIns := [], harness := (true, "a626d5dfee934cf2d6fc92e1ef1e0a6358b4147dea123564d9cf70ac17e2b0bb"), looks := true }, kinds := [], alts := [], laidByText := true, laidKinds := [.data, .data, .data, .data, .sentinel, .sentinel, .listed, .data, .pinned], laidTests := true, laidLooks := .later }
def BuildNamesCardSaid : Prop := Claim7.holds Tryz.pinned (.plain (OpenSpec.ofChange buildNamesSpec)) buildNamesCard

/-- THE TIED CARD OF 'tailwaterlaw38.EnabledNames'. -/
def enabledNamesCard : Claim7 := { stood := { row := enabledNamesRow, standIns := [], harness := (true, "a626d5dfee934cf2d6fc92e1ef1e0a6358b4147dea123564d9cf70ac17e2b0bb"), looks := true }, kinds := [], alts := [], laidByText := true, laidKinds := [.data, .data, .data, .data, .sentinel, .sentinel, .listed, .data, .pinned], laidTests := true, laidLooks := .later }
def EnabledNamesCardSaid : Prop := Claim7.holds Tryz.pinned (.plain (OpenSpec.ofChange enabledNamesSpec)) enabledNamesCard

/-- THE TIED CARD OF 'tailwaterlaw37.RunNames'. -/
def runNamesCard : Claim7 := { stood := { row := runNamesRow, standIns := [], harness := (true, "a626d5dfee934cf2d6fc92e1ef1e0a6358b4147dea123564d9cf70ac17e2b0bb"), looks := true }, kinds := [], alts := [], laidByText := true, laidKinds := [.data, .data, .data, .data, .sentinel, .sentinel, .listed, .data, .pinned], laidTests := true, laidLooks := .later }
def RunNamesCardSaid : Prop := Claim7.holds Tryz.pinned (.plain (OpenSpec.ofChange runNamesSpec)) runNamesCard

/-- THE TIED CARD OF 'tailwaterlaw43.FairNames'. -/
def fairNamesCard : Claim7 := { stood := { row := fairNamesRow, standIns := [], harness := (true, "a626d5dfee934cf2d6fc92e1ef1e0a6358b4147dea123564d9cf70ac17e2b0bb"), looks := true }, kinds := [], alts := [], laidByText := true, laidKinds := [.data, .data, .data, .data, .sentinel, .sentinel, .listed, .data, .pinned], laidTests := true, laidLooks := .later }
def FairNamesCardSaid : Prop := Claim7.holds Tryz.pinned (.plain (OpenSpec.ofChange fairNamesSpec)) fairNamesCard

/-- THE TIED CARD OF 'tailwaterlaw39.BoundNames'. -/
def boundNamesCard : Claim7 := { stood := { row := boundNamesRow, standIns := [], harness := (true, "a626d5dfee934cf2d6fc92e1ef1e0a6358b4147dea123564d9cf70ac17e2b0bb"), looks := true }, kinds := [], alts := [], laidByText := true, laidKinds := [.data, .data, .data, .data, .sentinel, .sentinel, .listed, .data, .pinned], laidTests := true, laidLooks := .later }
def BoundNamesCardSaid : Prop := Claim7.holds Tryz.pinned (.plain (OpenSpec.ofChange boundNamesSpec)) boundNamesCard

/-- THE SECOND FORM's CARD OF 'tailwaterlaw36.BuildNames'. -/
def buildNamesUptoCard : Claim7 := { stood := { row := buildNamesUptoRow, standIns := [], harness := (true, "a626d5dfee934cf2d6fc92e1ef1e0a6358b4147dea123564d9cf70ac17e2b0bb"), looks := true }, kinds := [], alts := [], laidByText := true, laidKinds := [.data, .data, .data, .data, .sentinel, .sentinel, .listed, .data, .pinned], laidTests := true, laidLooks := .later }
def BuildNamesUptoCardSaid : Prop := Claim7.holds Tryz.pinned (.plain (OpenSpec.upto buildNamesSpec)) buildNamesUptoCard

/-- THE SECOND FORM's CARD OF 'tailwaterlaw38.EnabledNames'. -/
def enabledNamesUptoCard : Claim7 := { stood := { row := enabledNamesUptoRow, standIns := [], harness := (true, "a626d5dfee934cf2d6fc92e1ef1e0a6358b4147dea123564d9cf70ac17e2b0bb"), looks := true }, kinds := [], alts := [], laidByText := true, laidKinds := [.data, .data, .data, .data, .sentinel, .sentinel, .listed, .data, .pinned], laidTests := true, laidLooks := .later }
def EnabledNamesUptoCardSaid : Prop := Claim7.holds Tryz.pinned (.plain (OpenSpec.upto enabledNamesSpec)) enabledNamesUptoCard

/-- THE SECOND FORM's CARD OF 'tailwaterlaw37.RunNames'. -/
def runNamesUptoCard : Claim7 := { stood := { row := runNamesUptoRow, standIns := [], harness := (true, "a626d5dfee934cf2d6fc92e1ef1e0a6358b4147dea123564d9cf70ac17e2b0bb"), looks := true }, kinds := [], alts := [], laidByText := true, laidKinds := [.data, .data, .data, .data, .sentinel, .sentinel, .listed, .data, .pinned], laidTests := true, laidLooks := .later }
def RunNamesUptoCardSaid : Prop := Claim7.holds Tryz.pinned (.plain (OpenSpec.upto runNamesSpec)) runNamesUptoCard

/-- THE SECOND FORM's CARD OF 'tailwaterlaw43.FairNames'. -/
def fairNamesUptoCard : Claim7 := { stood := { row := fairNamesUptoRow, standIns := [], harness := (true, "a626d5dfee934cf2d6fc92e1ef1e0a6358b4147dea123564d9cf70ac17e2b0bb"), looks := true }, kinds := [], alts := [], laidByText := true, laidKinds := [.data, .data, .data, .data, .sentinel, .sentinel, .listed, .data, .pinned], laidTests := true, laidLooks := .later }
def FairNamesUptoCardSaid : Prop := Claim7.holds Tryz.pinned (.plain (OpenSpec.upto fairNamesSpec)) fairNamesUptoCard

/-- THE SECOND FORM's CARD OF 'tailwaterlaw39.BoundNames'. -/
def boundNamesUptoCard : Claim7 := { stood := { row := boundNamesUptoRow, standIns := [], harness := (true, "a626d5dfee934cf2d6fc92e1ef1e0a6358b4147dea123564d9cf70ac17e2b0bb"), looks := true }, kinds := [], alts := [], laidByText := true, laidKinds := [.data, .data, .data, .data, .sentinel, .sentinel, .listed, .data, .pinned], laidTests := true, laidLooks := .later }
def BoundNamesUptoCardSaid : Prop := Claim7.holds Tryz.pinned (.plain (OpenSpec.upto boundNamesSpec)) boundNamesUptoCard
end Rows
end Go.Proofs.YtcignakdmepfmaaGreatDoor
