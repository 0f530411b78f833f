import Derived.Test.YtcignakdmepfmaaGreatDoorRJP
/- The closed facts of the row of RunNames. -/
set_option linter.unusedVariables false
namespace Go.Proofs.YtcignakdmepfmaaGreatDoor
open Go Go.ChangeShapes Go.WideShapes Go.ChangeAt Go.RowKit Go.Abs Tn
theorem j1Ru : Rows.runNamesRow.wf (OpenSpec.ofChange Rows.runNamesSpec) = true := by kernel_rfl
theorem j2Ru : (Rows.runNamesRow.inPlace == Tryz.pinned.checked.prog.inPlace 5) = true := by kernel_rfl
theorem j3Ru : (Rows.runNamesRow.unfollowed == Tryz.pinned.checked.prog.unfollowed 5) = true := by kernel_rfl
theorem j4Ru : (Rows.runNamesRow.recurses == Tryz.pinned.checked.prog.recurses 5) = true := by kernel_rfl
theorem j5Ru : (Rows.runNamesRow.named == Tryz.pinned.checked.prog.varsNamed 5) = true := by kernel_rfl
theorem joinedRu : joinedFacts Tryz.pinned.checked.prog 5 Tryz.f5 Rows.runNamesSpec Rows.runNamesRow = true := by
  unfold joinedFacts
  rw [j1Ru, jLaid, jMaps, j2Ru, j3Ru, j4Ru, j5Ru, jHeard, jEnter, jLifts, jKeys]
  kernel_rfl
end Go.Proofs.YtcignakdmepfmaaGreatDoor
