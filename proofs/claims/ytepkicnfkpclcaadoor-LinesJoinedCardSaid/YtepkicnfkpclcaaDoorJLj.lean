import Derived.Test.YtepkicnfkpclcaaDoorJPt
/- The closed facts of the row of LinesJoined. -/
set_option linter.unusedVariables false
set_option linter.unusedSimpArgs false
namespace Go.Proofs.YtepkicnfkpclcaaDoor
open Go Go.ChangeShapes Go.WideShapes Go.ChangeAt Go.RowKit Go.Abs Tg
theorem j1Lj : Rows.linesJoinedRow.wf (OpenSpec.ofChange Rows.linesJoinedSpec) = true := by kernel_rfl
theorem j2Lj : (Rows.linesJoinedRow.inPlace == Tryd.pinned.checked.prog.inPlace 5) = true := by kernel_rfl
theorem j3Lj : (Rows.linesJoinedRow.unfollowed == Tryd.pinned.checked.prog.unfollowed 5) = true := by kernel_rfl
theorem j4Lj : (Rows.linesJoinedRow.recurses == Tryd.pinned.checked.prog.recurses 5) = true := by kernel_rfl
theorem j5Lj : (Rows.linesJoinedRow.named == Tryd.pinned.checked.prog.varsNamed 5) = true := by kernel_rfl
theorem joinedLj : joinedFacts Tryd.pinned.checked.prog 5 Tryd.f5 Rows.linesJoinedSpec Rows.linesJoinedRow = true := by
  unfold joinedFacts
  rw [j1Lj, jLaid, jMaps, j2Lj, j3Lj, j4Lj, j5Lj, jHeard, jEnter, jLifts, jKeys]
  kernel_rfl
end Go.Proofs.YtepkicnfkpclcaaDoor
