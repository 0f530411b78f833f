import Derived.Test.YtfdgpbehbpldfaaGreatAbsB6
import Derived.Test.YtfdgpbehbpldfaaGreatzbA
import Derived.Test.YtfdgpbehbpldfaaGreatzbT
import Derived.Test.YtfdgpbehbpldfaaGreatGl
import Derived.Test.YtfdgpbehbpldfaaGreatzzB5
import Derived.Test.YtfdgpbehbpldfaaGreatProg
import Derived.Test.YtfdgpbehbpldfaaGreatzbB1h5
import Derived.Test.YtfdgpbehbpldfaaGreatzbB0
/- Contracts of functions, checked by the kernel. -/
set_option linter.unusedVariables false
set_option maxRecDepth 100000
namespace Tg
open Go.Abs
open Go.Proofs.Tryz (prog)
def con3 : TCon := ⟨[.a qX8, .c (.sl [.sl qX6]), .c (.int .i64), .c (.int .i64)], [.c (.p (.bool))], fun a => law36_BuildMakes a.1 a.2.1 a.2.2.1 a.2.2.2.1⟩
def tab3 : List (Nat × TCon) := [(4, con4), (5, con5p), (6, con6), (7, con7)]
def F3 : TFun := ⟨[], [], con3.args, con3.res, qc [qn 8, qb, qn 31], [], [], 0⟩
theorem comp3 : compFun prog 3 = some (afOf prog 3) := by kernel_rfl
theorem s3 : ∀ J a0 a1 a2 a3, seg0 (tabL tab3) prog F3 (afOf prog 3) J (a0, a1, a2, a3, ()) = law36_BuildMakes a0 a1 a2 a3 := fun _ _ _ _ _ => by kernel_rfl
theorem cb3 : callable prog 3 = true := by kernel_rfl
theorem tok3 : TabOK prog tab3 := ⟨ok4, cb4, ok5p, cb5, ok6, cb6, ok7, cb7, trivial⟩
theorem ok3 : con3.ok prog 3 := fun a r h => fun_spec (f := F3) (tabL_ok tok3) (tabL_cb tok3) (by kernel_rfl) comp3 0 (a := a) ((s3 _ a.1 a.2.1 a.2.2.1 a.2.2.2.1).trans h)
end Tg

/- The contracts of the functions, checked by the kernel. -/
namespace Tg
end Tg
