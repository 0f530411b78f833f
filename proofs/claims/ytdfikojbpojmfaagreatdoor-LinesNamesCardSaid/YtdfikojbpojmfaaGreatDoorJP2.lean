import Derived.Test.YtdfikojbpojmfaaGreatDoorNG
import Derived.ProofKit
import Derived.SevenTiedAt
/- Closed facts of the program that each card asks for. -/
set_option linter.unusedVariables false
namespace Go.Proofs.YtdfikojbpojmfaaGreatDoor
open Go Go.ChangeShapes Go.WideShapes Go.ChangeAt Go.RowKit Go.Abs Tn
theorem jMain : Tryz.pinned.checked.prog.mainIs = some (true, "689379462a21858a6f466d75d236bebb33b51e92de2915221d9ce4d82a993398".toList) := by kernel_rfl
theorem jLooks : true = Tryz.pinned.checked.prog.looks [] := by kernel_rfl
end Go.Proofs.YtdfikojbpojmfaaGreatDoor
