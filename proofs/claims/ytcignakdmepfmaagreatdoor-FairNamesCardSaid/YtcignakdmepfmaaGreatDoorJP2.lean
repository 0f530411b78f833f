import Derived.Test.YtcignakdmepfmaaGreatDoorNG
import Derived.ProofKit
import Derived.SevenTiedAt
/- Closed facts of the program that each card asks for. -/
set_option linter.unusedVariables false
namespace Go.Proofs.YtcignakdmepfmaaGreatDoor
open Go Go.ChangeShapes Go.WideShapes Go.ChangeAt Go.RowKit Go.Abs Tn
theorem jMain : Tryz.pinned.checked.prog.mainIs = some (true, "a626d5dfee934cf2d6fc92e1ef1e0a6358b4147dea123564d9cf70ac17e2b0bb".toList) := by kernel_rfl
theorem jLooks : true = Tryz.pinned.checked.prog.looks [] := by kernel_rfl
end Go.Proofs.YtcignakdmepfmaaGreatDoor
