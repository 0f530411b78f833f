import Derived.Test.YtepkicnfkpclcaaDoorJPt
/- The closed facts of the row of LinesBack. -/
set_option linter.unusedVariables false
set_option linter.unusedSimpArgs false
namespace Go.Proofs.YtepkicnfkpclcaaDoor
open Go Go.ChangeShapes Go.WideShapes Go.ChangeAt Go.RowKit Go.Abs Tg
theorem j1Lb : Rows.linesBackRow.wf (OpenSpec.ofChange Rows.linesBackSpec) = true := by kernel_rfl
theorem j2Lb : (Rows.linesBackRow.inPlace == Tryd.pinned.checked.prog.inPlace 4) = true := by kernel_rfl
theorem j3Lb : (Rows.linesBackRow.unfollowed == Tryd.pinned.checked.prog.unfollowed 4) = true := by kernel_rfl
theorem j4Lb : (Rows.linesBackRow.recurses == Tryd.pinned.checked.prog.recurses 4) = true := by kernel_rfl
theorem j5Lb : (Rows.linesBackRow.named == Tryd.pinned.checked.prog.varsNamed 4) = true := by kernel_rfl
theorem joinedLb : joinedFacts Tryd.pinned.checked.prog 4 Tryd.f4 Rows.linesBackSpec Rows.linesBackRow = true := by
  unfold joinedFacts
  rw [j1Lb, jLaid, jMaps, j2Lb, j3Lb, j4Lb, j5Lb, jHeard, jEnter, jLifts, jKeys]
  kernel_rfl
end Go.Proofs.YtepkicnfkpclcaaDoor
