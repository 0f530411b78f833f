import Derived.Test.YtodnlpaialbceaaGreatDoorJPt
/- The closed facts of the row of LinesScripts. -/
set_option linter.unusedVariables false
set_option linter.unusedSimpArgs false
namespace Go.Proofs.YtodnlpaialbceaaGreatDoor
open Go Go.ChangeShapes Go.WideShapes Go.ChangeAt Go.RowKit Go.Abs Tg
theorem j1Ls : Rows.linesScriptsRow.wf (OpenSpec.ofChange Rows.linesScriptsSpec) = true := by kernel_rfl
theorem j2Ls : (Rows.linesScriptsRow.inPlace == Tryz.pinned.checked.prog.inPlace 3) = true := by kernel_rfl
theorem j3Ls : (Rows.linesScriptsRow.unfollowed == Tryz.pinned.checked.prog.unfollowed 3) = true := by kernel_rfl
theorem j4Ls : (Rows.linesScriptsRow.recurses == Tryz.pinned.checked.prog.recurses 3) = true := by kernel_rfl
theorem j5Ls : (Rows.linesScriptsRow.named == Tryz.pinned.checked.prog.varsNamed 3) = true := by kernel_rfl
theorem joinedLs : joinedFacts Tryz.pinned.checked.prog 3 Tryz.f3 Rows.linesScriptsSpec Rows.linesScriptsRow = true := by
  unfold joinedFacts
  rw [j1Ls, jLaid, jMaps, j2Ls, j3Ls, j4Ls, j5Ls, jHeard, jEnter, jLifts, jKeys]
  kernel_rfl
end Go.Proofs.YtodnlpaialbceaaGreatDoor
