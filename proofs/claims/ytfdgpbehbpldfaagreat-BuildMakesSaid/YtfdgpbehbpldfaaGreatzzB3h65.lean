import Derived.Test.YtfdgpbehbpldfaaGreatAbsB6
import Derived.Test.YtfdgpbehbpldfaaGreatzzA
import Derived.Test.YtfdgpbehbpldfaaGreatzzT
import Derived.Test.YtfdgpbehbpldfaaGreatGl
import Derived.Test.YtfdgpbehbpldfaaGreatH0
import Derived.Test.YtfdgpbehbpldfaaGreatProg
import Derived.Test.YtfdgpbehbpldfaaGreatzzB0
import Derived.Test.YtfdgpbehbpldfaaGreatzzB2
/- Contracts of functions, checked by the kernel. -/
set_option linter.unusedVariables false
set_option maxRecDepth 100000
namespace Tg
open Go.Abs
open Go.Proofs.Tryz (prog)
def con65 : TCon := ⟨[.a qY8], [.c (.p (.int .i64))], fun a => ref08_Check a.1⟩
def tab65 : List (Nat × TCon) := [(86, con86), (87, con87), (88, con88)]
def F65 : TFun := ⟨[], [], con65.args, con65.res, qc [qn 2, qi, qn 77], [], [], 0⟩
theorem comp65 : compFun prog 65 = some (afOf prog 65) := by kernel_rfl
theorem s65 : ∀ J a0, seg0 (tabL tab65) prog F65 (afOf prog 65) J (a0, ()) = ref08_Check a0 := fun _ _ => by kernel_rfl
theorem cb65 : callable prog 65 = true := by kernel_rfl
theorem tok65 : TabOK prog tab65 := ⟨ok86, cb86, ok87, cb87, ok88, cb88, trivial⟩
theorem ok65 : con65.ok prog 65 := fun a r h => fun_spec (f := F65) (tabL_ok tok65) (tabL_cb tok65) (by kernel_rfl) comp65 0 (a := a) ((s65 _ a.1).trans h)
end Tg
