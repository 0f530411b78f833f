import Derived.Test.YtepkicnfkpclcaaDoorJPt
/- The closed facts of the row of LinesOutputs. -/
set_option linter.unusedVariables false
set_option linter.unusedSimpArgs false
namespace Go.Proofs.YtepkicnfkpclcaaDoor
open Go Go.ChangeShapes Go.WideShapes Go.ChangeAt Go.RowKit Go.Abs Tg
theorem j1Lo : Rows.linesOutputsRow.wf (OpenSpec.ofChange Rows.linesOutputsSpec) = true := by kernel_rfl
theorem j2Lo : (Rows.linesOutputsRow.inPlace == Tryd.pinned.checked.prog.inPlace 3) = true := by kernel_rfl
theorem j3Lo : (Rows.linesOutputsRow.unfollowed == Tryd.pinned.checked.prog.unfollowed 3) = true := by kernel_rfl
theorem j4Lo : (Rows.linesOutputsRow.recurses == Tryd.pinned.checked.prog.recurses 3) = true := by kernel_rfl
theorem j5Lo : (Rows.linesOutputsRow.named == Tryd.pinned.checked.prog.varsNamed 3) = true := by kernel_rfl
theorem joinedLo : joinedFacts Tryd.pinned.checked.prog 3 Tryd.f3 Rows.linesOutputsSpec Rows.linesOutputsRow = true := by
  unfold joinedFacts
  rw [j1Lo, jLaid, jMaps, j2Lo, j3Lo, j4Lo, j5Lo, jHeard, jEnter, jLifts, jKeys]
  kernel_rfl
end Go.Proofs.YtepkicnfkpclcaaDoor
