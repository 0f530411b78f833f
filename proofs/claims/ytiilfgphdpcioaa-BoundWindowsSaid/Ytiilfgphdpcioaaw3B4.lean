import Derived.Test.YtiilfgphdpcioaaAbsB6
import Derived.Test.Ytiilfgphdpcioaaw3A
import Derived.Test.YtiilfgphdpcioaaHandB
import Derived.Test.YtiilfgphdpcioaaProg
import Derived.Test.Ytiilfgphdpcioaaw3B0
import Derived.Test.Ytiilfgphdpcioaaw3B2
import Derived.Test.Ytiilfgphdpcioaaw3B3h20
/- Contracts of functions, checked by the kernel. -/
set_option linter.unusedVariables false
namespace Tg
open Go.Abs
/- tailwater/tailwaterref10.Check -/
def con11 : TCon := ⟨[.a [.int .u8, .sl [.int .u8, .int .i64, .int .i64, .int .i64, .int .i64], .sl [.int .i64], .bool, .sl [.int .u8, .int .i64, .int .i64, .int .i64, .int .i64], .int .u8, .int .i64, .int .i64, .bool, .int .u8]], [.c (.p (.int .i64)), .c (.p (.int .i64))], fun a => ref10_Check a.1⟩
def tab11 : List (Nat × TCon) := [(20, con20), (21, con21)]
def F11 : TFun := ⟨[], [], con11.args, con11.res, List.replicate 2 (.c .any) ++ [.c (.p (.int .i64))] ++ [.c (.p (.int .i64))] ++ List.replicate 9 (.c .any), [], [], 0⟩
theorem comp11 : compFun Go.Proofs.Try.prog 11 = some (afOf Go.Proofs.Try.prog 11) := by kernel_rfl
theorem s11 : ∀ J a0, seg0 (tabL tab11) Go.Proofs.Try.prog F11 (afOf Go.Proofs.Try.prog 11) J (a0, ()) = ref10_Check a0 := fun _ _ => by kernel_rfl
theorem cb11 : callable Go.Proofs.Try.prog 11 = true := by kernel_rfl
theorem tok11 : TabOK Go.Proofs.Try.prog tab11 := ⟨ok20, cb20, ok21, cb21, trivial⟩
theorem ok11 : con11.ok Go.Proofs.Try.prog 11 := fun a r h => fun_spec (f := F11) (tabL_ok tok11) (tabL_cb tok11) (by kernel_rfl) comp11 0 (a := a) ((s11 _ a.1).trans h)
/- tailwater/tailwaterref39.Many -/
def con6 : TCon := ⟨[.a [.int .u8, .sl [.int .u8, .int .i64, .int .i64, .int .i64, .int .i64], .sl [.int .i64], .bool, .sl [.int .u8, .int .i64, .int .i64, .int .i64, .int .i64], .int .u8, .int .i64, .int .i64, .bool, .int .u8]], [.c (.p (.int .i64)), .c (.p (.int .i64))], fun a => ref39_Many a.1⟩
def tab6 : List (Nat × TCon) := [(11, con11), (12, con12)]
def F6 : TFun := ⟨[], [], con6.args, con6.res, List.replicate 2 (.c .any) ++ [.c (.p (.int .i64))] ++ [.c (.p (.int .i64))] ++ List.replicate 12 (.c .any), [], [], 0⟩
theorem comp6 : compFun Go.Proofs.Try.prog 6 = some (afOf Go.Proofs.Try.prog 6) := by kernel_rfl
theorem s6 : ∀ J a0, seg0 (tabL tab6) Go.Proofs.Try.prog F6 (afOf Go.Proofs.Try.prog 6) J (a0, ()) = ref39_Many a0 := fun _ _ => by kernel_rfl
theorem cb6 : callable Go.Proofs.Try.prog 6 = true := by kernel_rfl
theorem tok6 : TabOK Go.Proofs.Try.prog tab6 := ⟨ok11, cb11, ok12, cb12, trivial⟩
theorem ok6 : con6.ok Go.Proofs.Try.prog 6 := fun a r h => fun_spec (f := F6) (tabL_ok tok6) (tabL_cb tok6) (by kernel_rfl) comp6 0 (a := a) ((s6 _ a.1).trans h)
/- tailwater/tailwaterlaw39.BoundWindows -/
def con3 : TCon := ⟨[.a [.int .u8, .sl [.int .u8, .int .i64, .int .i64, .int .i64, .int .i64], .sl [.int .i64], .bool, .sl [.int .u8, .int .i64, .int .i64, .int .i64, .int .i64], .int .u8, .int .i64, .int .i64, .bool, .int .u8], .c (.int .i64)], [.c (.p (.bool))], fun a => law39_BoundWindows a.1 a.2.1⟩
def tab3 : List (Nat × TCon) := [(4, con4), (5, con5), (6, con6), (7, con7)]
def F3 : TFun := ⟨[], [], con3.args, con3.res, List.replicate 4 (.c .any) ++ [.c (.p (.bool))] ++ List.replicate 56 (.c .any), [], [], 0⟩
theorem comp3 : compFun Go.Proofs.Try.prog 3 = some (afOf Go.Proofs.Try.prog 3) := by kernel_rfl
theorem s3 : ∀ J a0 a1, seg0 (tabL tab3) Go.Proofs.Try.prog F3 (afOf Go.Proofs.Try.prog 3) J (a0, a1, ()) = law39_BoundWindows a0 a1 := fun _ _ _ => by kernel_rfl
theorem cb3 : callable Go.Proofs.Try.prog 3 = true := by kernel_rfl
theorem tok3 : TabOK Go.Proofs.Try.prog tab3 := ⟨ok4, cb4, ok5, cb5, ok6, cb6, ok7, cb7, trivial⟩
theorem ok3 : con3.ok Go.Proofs.Try.prog 3 := fun a r h => fun_spec (f := F3) (tabL_ok tok3) (tabL_cb tok3) (by kernel_rfl) comp3 0 (a := a) ((s3 _ a.1 a.2.1).trans h)
end Tg
