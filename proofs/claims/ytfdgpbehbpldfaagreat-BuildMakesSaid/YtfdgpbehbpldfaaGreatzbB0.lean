import Derived.Test.YtfdgpbehbpldfaaGreatAbsB6
import Derived.Test.YtfdgpbehbpldfaaGreatzbA
import Derived.Test.YtfdgpbehbpldfaaGreatzbT
import Derived.Test.YtfdgpbehbpldfaaGreatGl
import Derived.Test.YtfdgpbehbpldfaaGreatzzB5
import Derived.Test.YtfdgpbehbpldfaaGreatProg
/- Contracts of functions, checked by the kernel. -/
set_option linter.unusedVariables false
set_option maxRecDepth 100000
namespace Tg
open Go.Abs
open Go.Proofs.Tryz (prog)
def con15 : TCon := ⟨[.c (.int .i64), .q [.sl [.sl qX6]]], [.a [.p (.int .u8), .p (.int .i64), .p (.int .i64), .p (.sl qX4), .p (.sl [.int .i64]), .p (.sl qX3), .s 96 5 qX6, .p (.sl qX5), .p (.sl qX9)], .c (.p (.int .i64))], fun a => build_Build1 a.1 a.2.1⟩
def tab15 : List (Nat × TCon) := [(16, con16)]
def F15 : TFun := ⟨[], [], con15.args, con15.res, qc [qn 3, [.boxN 69 9 [.p (.int .u8), .p (.int .i64), .p (.int .i64), .p (.sl qX4), .p (.sl [.int .i64]), .p (.sl qX3), .rowN 96 5 qX6, .p (.sl qX5), .p (.sl qX9)]], qi, qn 8], [], [], 0⟩
theorem comp15 : compFun prog 15 = some (afOf prog 15) := by kernel_rfl
theorem s15 : ∀ J a0 a1, seg0 (tabL tab15) prog F15 (afOf prog 15) J (a0, a1, ()) = build_Build1 a0 a1 := fun _ _ _ => by kernel_rfl
theorem cb15 : callable prog 15 = true := by kernel_rfl
theorem tok15 : TabOK prog tab15 := ⟨ok16, cb16, trivial⟩
theorem ok15 : con15.ok prog 15 := fun a r h => fun_spec (f := F15) (tabL_ok tok15) (tabL_cb tok15) (by kernel_rfl) comp15 0 (a := a) ((s15 _ a.1 a.2.1).trans h)
def con15p : TCon := ⟨[.c (.int .i64), .q [.sl [.sl qX6]]], [.a [.p (.int .u8), .p (.int .i64), .p (.int .i64), .p (.sl qX4), .p (.sl [.int .i64]), .p (.sl qX3), .p (.sl qX6), .p (.sl qX5), .p (.sl qX9)], .c (.p (.int .i64))], fun a => build_Build1 a.1 a.2.1⟩
theorem ok15p : con15p.ok prog 15 := fun a r h => TCon.frz (c := con15) ok15 rfl a r h
def con19 : TCon := ⟨[.c (.int .i64), .q qX8], [.a [.p (.int .u8), .p (.int .i64), .p (.int .i64), .p (.sl qX4), .s 2 1 [.int .i64], .p (.sl qX3), .p (.sl qX6), .p (.sl qX5), .p (.sl qX9)], .c (.p (.int .i64))], fun a => build_Build2 a.1 a.2.1⟩
def tab19 : List (Nat × TCon) := [(20, con20)]
def F19 : TFun := ⟨[], [], con19.args, con19.res, qc [qn 3, [.boxN 69 9 [.p (.int .u8), .p (.int .i64), .p (.int .i64), .p (.sl qX4), .rowN 2 1 [.int .i64], .p (.sl qX3), .p (.sl qX6), .p (.sl qX5), .p (.sl qX9)]], qi, qn 7], [], [], 0⟩
theorem comp19 : compFun prog 19 = some (afOf prog 19) := by kernel_rfl
theorem s19 : ∀ J a0 a1, seg0 (tabL tab19) prog F19 (afOf prog 19) J (a0, a1, ()) = build_Build2 a0 a1 := fun _ _ _ => by kernel_rfl
theorem cb19 : callable prog 19 = true := by kernel_rfl
theorem tok19 : TabOK prog tab19 := ⟨ok20, cb20, trivial⟩
theorem ok19 : con19.ok prog 19 := fun a r h => fun_spec (f := F19) (tabL_ok tok19) (tabL_cb tok19) (by kernel_rfl) comp19 0 (a := a) ((s19 _ a.1 a.2.1).trans h)
def con19p : TCon := ⟨[.c (.int .i64), .q qX8], [.a [.p (.int .u8), .p (.int .i64), .p (.int .i64), .p (.sl qX4), .p (.sl [.int .i64]), .p (.sl qX3), .p (.sl qX6), .p (.sl qX5), .p (.sl qX9)], .c (.p (.int .i64))], fun a => build_Build2 a.1 a.2.1⟩
theorem ok19p : con19p.ok prog 19 := fun a r h => TCon.frz (c := con19) ok19 rfl a r h
def con22 : TCon := ⟨[.c (.int .i64)], [.a [.p (.int .u8), .p (.int .i64), .p (.int .i64), .p (.sl qX4), .p (.sl [.int .i64]), .p (.sl qX3), .p (.sl qX6), .p (.sl qX5), .p (.sl qX9)], .c (.p (.int .i64))], fun a => build_Build3 a.1⟩
def tab22 : List (Nat × TCon) := [(23, con23)]
def F22 : TFun := ⟨[], [], con22.args, con22.res, qc [qn 2, [.boxN 69 9 [.p (.int .u8), .p (.int .i64), .p (.int .i64), .p (.sl qX4), .p (.sl [.int .i64]), .p (.sl qX3), .p (.sl qX6), .p (.sl qX5), .p (.sl qX9)]], qi, qn 1], [], [], 0⟩
theorem comp22 : compFun prog 22 = some (afOf prog 22) := by kernel_rfl
theorem s22 : ∀ J a0, seg0 (tabL tab22) prog F22 (afOf prog 22) J (a0, ()) = build_Build3 a0 := fun _ _ => by kernel_rfl
theorem cb22 : callable prog 22 = true := by kernel_rfl
theorem tok22 : TabOK prog tab22 := ⟨ok23, cb23, trivial⟩
theorem ok22 : con22.ok prog 22 := fun a r h => fun_spec (f := F22) (tabL_ok tok22) (tabL_cb tok22) (by kernel_rfl) comp22 0 (a := a) ((s22 _ a.1).trans h)
def con24 : TCon := ⟨[.c (.int .i64)], [.a [.p (.int .u8), .p (.int .i64), .p (.int .i64), .p (.sl qX4), .p (.sl [.int .i64]), .p (.sl qX3), .p (.sl qX6), .p (.sl qX5), .p (.sl qX9)], .c (.p (.int .i64))], fun a => build_Build4 a.1⟩
def tab24 : List (Nat × TCon) := [(23, con23)]
def F24 : TFun := ⟨[], [], con24.args, con24.res, qc [qn 2, [.boxN 69 9 [.p (.int .u8), .p (.int .i64), .p (.int .i64), .p (.sl qX4), .p (.sl [.int .i64]), .p (.sl qX3), .p (.sl qX6), .p (.sl qX5), .p (.sl qX9)]], qi, qn 1], [], [], 0⟩
theorem comp24 : compFun prog 24 = some (afOf prog 24) := by kernel_rfl
theorem s24 : ∀ J a0, seg0 (tabL tab24) prog F24 (afOf prog 24) J (a0, ()) = build_Build4 a0 := fun _ _ => by kernel_rfl
theorem cb24 : callable prog 24 = true := by kernel_rfl
theorem tok24 : TabOK prog tab24 := ⟨ok23, cb23, trivial⟩
theorem ok24 : con24.ok prog 24 := fun a r h => fun_spec (f := F24) (tabL_ok tok24) (tabL_cb tok24) (by kernel_rfl) comp24 0 (a := a) ((s24 _ a.1).trans h)
end Tg
