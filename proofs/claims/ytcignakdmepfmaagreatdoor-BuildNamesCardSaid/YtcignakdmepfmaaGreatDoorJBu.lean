import Derived.Test.YtcignakdmepfmaaGreatDoorJP
/- The closed facts of the row of BuildNames. -/
set_option linter.unusedVariables false
namespace Go.Proofs.YtcignakdmepfmaaGreatDoor
open Go Go.ChangeShapes Go.WideShapes Go.ChangeAt Go.RowKit Go.Abs Tn
theorem j1Bu : Rows.buildNamesRow.wf (OpenSpec.ofChange Rows.buildNamesSpec) = true := by kernel_rfl
theorem j2Bu : (Rows.buildNamesRow.inPlace == Tryz.pinned.checked.prog.inPlace 3) = true := by kernel_rfl
theorem j3Bu : (Rows.buildNamesRow.unfollowed == Tryz.pinned.checked.prog.unfollowed 3) = true := by kernel_rfl
theorem j4Bu : (Rows.buildNamesRow.recurses == Tryz.pinned.checked.prog.recurses 3) = true := by kernel_rfl
theorem j5Bu : (Rows.buildNamesRow.named == Tryz.pinned.checked.prog.varsNamed 3) = true := by kernel_rfl
theorem joinedBu : joinedFacts Tryz.pinned.checked.prog 3 Tryz.f3 Rows.buildNamesSpec Rows.buildNamesRow = true := by
  unfold joinedFacts
  rw [j1Bu, jLaid, jMaps, j2Bu, j3Bu, j4Bu, j5Bu, jHeard, jEnter, jLifts, jKeys]
  kernel_rfl
end Go.Proofs.YtcignakdmepfmaaGreatDoor
