import Derived.Test.YtcignakdmepfmaaGreatDoorJP
/- The closed facts of the row of EnabledNames. -/
set_option linter.unusedVariables false
namespace Go.Proofs.YtcignakdmepfmaaGreatDoor
open Go Go.ChangeShapes Go.WideShapes Go.ChangeAt Go.RowKit Go.Abs Tn
theorem j1En : Rows.enabledNamesRow.wf (OpenSpec.ofChange Rows.enabledNamesSpec) = true := by kernel_rfl
theorem j2En : (Rows.enabledNamesRow.inPlace == Tryz.pinned.checked.prog.inPlace 4) = true := by kernel_rfl
theorem j3En : (Rows.enabledNamesRow.unfollowed == Tryz.pinned.checked.prog.unfollowed 4) = true := by kernel_rfl
theorem j4En : (Rows.enabledNamesRow.recurses == Tryz.pinned.checked.prog.recurses 4) = true := by kernel_rfl
theorem j5En : (Rows.enabledNamesRow.named == Tryz.pinned.checked.prog.varsNamed 4) = true := by kernel_rfl
theorem joinedEn : joinedFacts Tryz.pinned.checked.prog 4 Tryz.f4 Rows.enabledNamesSpec Rows.enabledNamesRow = true := by
  unfold joinedFacts
  rw [j1En, jLaid, jMaps, j2En, j3En, j4En, j5En, jHeard, jEnter, jLifts, jKeys]
  kernel_rfl
end Go.Proofs.YtcignakdmepfmaaGreatDoor
