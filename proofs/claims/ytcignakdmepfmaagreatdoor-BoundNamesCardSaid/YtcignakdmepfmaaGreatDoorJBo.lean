import Derived.Test.YtcignakdmepfmaaGreatDoorJP
/- The closed facts of the row of BoundNames. -/
set_option linter.unusedVariables false
namespace Go.Proofs.YtcignakdmepfmaaGreatDoor
open Go Go.ChangeShapes Go.WideShapes Go.ChangeAt Go.RowKit Go.Abs Tn
theorem j1Bo : Rows.boundNamesRow.wf (OpenSpec.ofChange Rows.boundNamesSpec) = true := by kernel_rfl
theorem j2Bo : (Rows.boundNamesRow.inPlace == Tryz.pinned.checked.prog.inPlace 7) = true := by kernel_rfl
theorem j3Bo : (Rows.boundNamesRow.unfollowed == Tryz.pinned.checked.prog.unfollowed 7) = true := by kernel_rfl
theorem j4Bo : (Rows.boundNamesRow.recurses == Tryz.pinned.checked.prog.recurses 7) = true := by kernel_rfl
theorem j5Bo : (Rows.boundNamesRow.named == Tryz.pinned.checked.prog.varsNamed 7) = true := by kernel_rfl
theorem joinedBo : joinedFacts Tryz.pinned.checked.prog 7 Tryz.f7 Rows.boundNamesSpec Rows.boundNamesRow = true := by
  unfold joinedFacts
  rw [j1Bo, jLaid, jMaps, j2Bo, j3Bo, j4Bo, j5Bo, jHeard, jEnter, jLifts, jKeys]
  kernel_rfl
end Go.Proofs.YtcignakdmepfmaaGreatDoor
