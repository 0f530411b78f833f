import Derived.Test.YtiilfgphdpcioaaAbsB6
import Derived.Test.Ytiilfgphdpcioaaw3A
import Derived.Test.YtiilfgphdpcioaaHandB
import Derived.Test.YtiilfgphdpcioaaProg
import Derived.Test.Ytiilfgphdpcioaaw3B0
import Derived.Test.Ytiilfgphdpcioaaw3B2
/- Contracts of functions, checked by the kernel. -/
set_option linter.unusedVariables false
namespace Tg
open Go.Abs
/- tailwater/tailwaterref08.Check -/
def con20 : TCon := ⟨[.a [.int .u8, .sl [.int .u8, .int .i64, .int .i64, .int .i64, .int .i64], .sl [.int .i64], .bool, .sl [.int .u8, .int .i64, .int .i64, .int .i64, .int .i64], .int .u8, .int .i64, .int .i64, .bool, .int .u8]], [.c (.p (.int .i64))], fun a => ref08_Check a.1⟩
def tab20 : List (Nat × TCon) := [(27, con27), (28, con28), (29, con29)]
def F20 : TFun := ⟨[], [], con20.args, con20.res, List.replicate 2 (.c .any) ++ [.c (.p (.int .i64))] ++ List.replicate 77 (.c .any), [], [], 0⟩
theorem comp20 : compFun Go.Proofs.Try.prog 20 = some (afOf Go.Proofs.Try.prog 20) := by kernel_rfl
theorem s20 : ∀ J a0, seg0 (tabL tab20) Go.Proofs.Try.prog F20 (afOf Go.Proofs.Try.prog 20) J (a0, ()) = ref08_Check a0 := fun _ _ => by kernel_rfl
theorem cb20 : callable Go.Proofs.Try.prog 20 = true := by kernel_rfl
theorem tok20 : TabOK Go.Proofs.Try.prog tab20 := ⟨ok27, cb27, ok28, cb28, ok29, cb29, trivial⟩
theorem ok20 : con20.ok Go.Proofs.Try.prog 20 := fun a r h => fun_spec (f := F20) (tabL_ok tok20) (tabL_cb tok20) (by kernel_rfl) comp20 0 (a := a) ((s20 _ a.1).trans h)
end Tg
