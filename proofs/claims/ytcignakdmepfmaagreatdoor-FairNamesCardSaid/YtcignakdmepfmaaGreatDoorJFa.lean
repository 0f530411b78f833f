import Derived.Test.YtcignakdmepfmaaGreatDoorJP
/- The closed facts of the row of FairNames. -/
set_option linter.unusedVariables false
namespace Go.Proofs.YtcignakdmepfmaaGreatDoor
open Go Go.ChangeShapes Go.WideShapes Go.ChangeAt Go.RowKit Go.Abs Tn
theorem j1Fa : Rows.fairNamesRow.wf (OpenSpec.ofChange Rows.fairNamesSpec) = true := by kernel_rfl
theorem j2Fa : (Rows.fairNamesRow.inPlace == Tryz.pinned.checked.prog.inPlace 6) = true := by kernel_rfl
theorem j3Fa : (Rows.fairNamesRow.unfollowed == Tryz.pinned.checked.prog.unfollowed 6) = true := by kernel_rfl
theorem j4Fa : (Rows.fairNamesRow.recurses == Tryz.pinned.checked.prog.recurses 6) = true := by kernel_rfl
theorem j5Fa : (Rows.fairNamesRow.named == Tryz.pinned.checked.prog.varsNamed 6) = true := by kernel_rfl
theorem joinedFa : joinedFacts Tryz.pinned.checked.prog 6 Tryz.f6 Rows.fairNamesSpec Rows.fairNamesRow = true := by
  unfold joinedFacts
  rw [j1Fa, jLaid, jMaps, j2Fa, j3Fa, j4Fa, j5Fa, jHeard, jEnter, jLifts, jKeys]
  kernel_rfl
end Go.Proofs.YtcignakdmepfmaaGreatDoor
