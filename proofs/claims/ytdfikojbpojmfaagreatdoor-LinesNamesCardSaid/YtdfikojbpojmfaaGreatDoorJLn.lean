import Derived.Test.YtdfikojbpojmfaaGreatDoorJP
/- The closed facts of the row of LinesNames. -/
set_option linter.unusedVariables false
namespace Go.Proofs.YtdfikojbpojmfaaGreatDoor
open Go Go.ChangeShapes Go.WideShapes Go.ChangeAt Go.RowKit Go.Abs Tn
theorem j1Ln : Rows.linesNamesRow.wf (OpenSpec.ofChange Rows.linesNamesSpec) = true := by kernel_rfl
theorem j2Ln : (Rows.linesNamesRow.inPlace == Tryz.pinned.checked.prog.inPlace 3) = true := by kernel_rfl
theorem j3Ln : (Rows.linesNamesRow.unfollowed == Tryz.pinned.checked.prog.unfollowed 3) = true := by kernel_rfl
theorem j4Ln : (Rows.linesNamesRow.recurses == Tryz.pinned.checked.prog.recurses 3) = true := by kernel_rfl
theorem j5Ln : (Rows.linesNamesRow.named == Tryz.pinned.checked.prog.varsNamed 3) = true := by kernel_rfl
theorem joinedLn : joinedFacts Tryz.pinned.checked.prog 3 Tryz.f3 Rows.linesNamesSpec Rows.linesNamesRow = true := by
  unfold joinedFacts
  rw [j1Ln, jLaid, jMaps, j2Ln, j3Ln, j4Ln, j5Ln, jHeard, jEnter, jLifts, jKeys]
  kernel_rfl
end Go.Proofs.YtdfikojbpojmfaaGreatDoor
