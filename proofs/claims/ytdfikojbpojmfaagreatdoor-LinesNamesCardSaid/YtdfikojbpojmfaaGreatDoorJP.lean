import Derived.Test.YtdfikojbpojmfaaGreatDoorNG
import Derived.ProofKit
import Derived.SevenTiedAt
import Derived.Lay
/- Closed facts of the program that each row's join asks for; the laid world is of the program's shape. -/
set_option linter.unusedVariables false
namespace Go.Proofs.YtdfikojbpojmfaaGreatDoor
open Go Go.ChangeShapes Go.WideShapes Go.ChangeAt Go.RowKit Go.Abs Tn
theorem jLaid : laidOutB Tryz.pinned.checked.prog = true := by kernel_rfl
theorem jMaps : mapsRowed Tryz.pinned.checked.prog = true := by kernel_rfl
theorem jHeard : Tryz.pinned.checked.prog.stopsHeard = true := by kernel_rfl
theorem jEnter : Tryz.pinned.checked.prog.mayEnter = true := by kernel_rfl
theorem jLifts : Tryz.pinned.checked.prog.liftsFinal = Rows.linesNamesRow.lifted := by kernel_rfl
theorem jKeys : Tryz.pinned.checked.prog.plainKeys = Rows.linesNamesRow.plainKeys := by kernel_rfl
theorem laidShaped (os : Os) : ((laidWorld os).forCall (fun _ _ => 0) ⟨#[], #[], []⟩).Shaped Tryz.prog := World.shaped_of_ZipB (by kernel_rfl) (by kernel_rfl)
end Go.Proofs.YtdfikojbpojmfaaGreatDoor
