import Derived.Test.YtfdgpbehbpldfaaGreatAbsB6
import Derived.Test.YtfdgpbehbpldfaaGreatzzA
import Derived.Test.YtfdgpbehbpldfaaGreatzzT
import Derived.Test.YtfdgpbehbpldfaaGreatGl
import Derived.Test.YtfdgpbehbpldfaaGreatH0
import Derived.Test.YtfdgpbehbpldfaaGreatProg
import Derived.Test.YtfdgpbehbpldfaaGreatzzB0
import Derived.Test.YtfdgpbehbpldfaaGreatzzB2
import Derived.Test.YtfdgpbehbpldfaaGreatzzB3h65
/- Contracts of functions, checked by the kernel. -/
set_option linter.unusedVariables false
set_option maxRecDepth 100000
namespace Tg
open Go.Abs
open Go.Proofs.Tryz (prog)
def con46 : TCon := ⟨[.a qY8], [.c (.p (.int .i64)), .c (.p (.int .i64))], fun a => ref10_Check a.1⟩
def tab46 : List (Nat × TCon) := [(65, con65), (66, con66)]
def F46 : TFun := ⟨[], [], con46.args, con46.res, qc [qn 2, qi, qi, qn 9], [], [], 0⟩
theorem comp46 : compFun prog 46 = some (afOf prog 46) := by kernel_rfl
theorem s46 : ∀ J a0, seg0 (tabL tab46) prog F46 (afOf prog 46) J (a0, ()) = ref10_Check a0 := fun _ _ => by kernel_rfl
theorem cb46 : callable prog 46 = true := by kernel_rfl
theorem tok46 : TabOK prog tab46 := ⟨ok65, cb65, ok66, cb66, trivial⟩
theorem ok46 : con46.ok prog 46 := fun a r h => fun_spec (f := F46) (tabL_ok tok46) (tabL_cb tok46) (by kernel_rfl) comp46 0 (a := a) ((s46 _ a.1).trans h)
def con26 : TCon := ⟨[.a qY8, .c (.sl [.sl qY6]), .c (.int .i64), .c (.int .i64)], [.c (.p (.int .i64))], fun a => ref36_Asked a.1 a.2.1 a.2.2.1 a.2.2.2.1⟩
def tab26 : List (Nat × TCon) := [(46, con46), (47, con47)]
def F26 : TFun := ⟨[9], [(9, qc [qn 2, qi, qi, qn 51]), (11, qc [qn 1, [.c (.p (.sl [.sl qY6]))], qi, qi, qn 7, qi, qn 43])], con26.args, con26.res, qc [qn 8, qi, qn 46], [], [], 0⟩
abbrev g26_9 (J : JT F26) := fun y0 y1 => J 9 (y0, y1, ())
abbrev g26_11 (J : JT F26) := fun y0 y1 y2 y3 => J 11 (y0, y1, y2, y3, ())
theorem comp26 : compFun prog 26 = some (afOf prog 26) := by kernel_rfl
theorem s26 : ∀ J a0 a1 a2 a3, seg0 (tabL tab26) prog F26 (afOf prog 26) J (a0, a1, a2, a3, ()) = ref36_Asked_c (g26_9 J) (g26_11 J) a0 a1 a2 a3 := fun _ _ _ _ _ => by kernel_rfl
theorem s26_9 : ∀ J x0 x1, seg (tabL tab26) prog F26 (afOf prog 26) J 9 (x0, x1, ()) = ref36_Asked_c9 (g26_9 J) (g26_11 J) x0 x1 := fun _ _ _ => by kernel_rfl
theorem s26_11 : ∀ J x0 x1 x2 x3, seg (tabL tab26) prog F26 (afOf prog 26) J 11 (x0, x1, x2, x3, ()) = ref36_Asked_c11 (g26_9 J) (g26_11 J) x0 x1 x2 x3 := fun _ _ _ _ _ => by kernel_rfl
theorem i26 : ∀ n, ref36_Asked_i9 n = g26_9 (iter (tabL tab26) prog F26 (afOf prog 26) n) ∧ ref36_Asked_i11 n = g26_11 (iter (tabL tab26) prog F26 (afOf prog 26) n)
  | 0 => ⟨rfl, rfl⟩
  | n + 1 => by
    obtain ⟨h9, h11⟩ := i26 n
    exact ⟨by funext x0 x1; exact ((s26_9 _ x0 x1).trans (by show _ = ref36_Asked_c9 (ref36_Asked_i9 n) (ref36_Asked_i11 n) x0 x1; rw [h9, h11]; try rfl)).symm, by funext x0 x1 x2 x3; exact ((s26_11 _ x0 x1 x2 x3).trans (by show _ = ref36_Asked_c11 (ref36_Asked_i9 n) (ref36_Asked_i11 n) x0 x1 x2 x3; rw [h9, h11]; try rfl)).symm⟩
theorem cb26 : callable prog 26 = true := by kernel_rfl
theorem tok26 : TabOK prog tab26 := ⟨ok46, cb46, ok47, cb47, trivial⟩
theorem ok26 : con26.ok prog 26 := fun a r h => by
  obtain ⟨h9, h11⟩ := i26 fuel
  refine fun_spec (f := F26) (tabL_ok tok26) (tabL_cb tok26) (by kernel_rfl) comp26 fuel (a := a) ((s26 _ a.1 a.2.1 a.2.2.1 a.2.2.2.1).trans ?_)
  have h : ref36_Asked_c (ref36_Asked_i9 fuel) (ref36_Asked_i11 fuel) a.1 a.2.1 a.2.2.1 a.2.2.2.1 = some r := h
  rw [h9, h11] at h
  exact h
def con48 : TCon := ⟨[.a qY8], [.a [.p (.sl [.int .u8]), .p (.int .u8), .p (.sl qY2), .p (.sl qY11), .p (.bool), .p (.sl qY2), .p (.int .u8), .p (.int .i64), .p (.int .i64), .p (.bool), .p (.int .u8)], .c (.p (.int .i64))], fun a => ref22_Of a.1⟩
def tab48 : List (Nat × TCon) := [(46, con46), (68, con68p), (49, con49p)]
def F48 : TFun := ⟨[], [], con48.args, con48.res, qc [qn 2, [.boxN 52 11 [.p (.sl [.int .u8]), .p (.int .u8), .p (.sl qY2), .p (.sl qY11), .p (.bool), .p (.sl qY2), .p (.int .u8), .p (.int .i64), .p (.int .i64), .p (.bool), .p (.int .u8)]], qi, qn 16], [], [], 0⟩
theorem comp48 : compFun prog 48 = some (afOf prog 48) := by kernel_rfl
theorem s48 : ∀ J a0, seg0 (tabL tab48) prog F48 (afOf prog 48) J (a0, ()) = ref22_Of a0 := fun _ _ => by kernel_rfl
theorem cb48 : callable prog 48 = true := by kernel_rfl
theorem tok48 : TabOK prog tab48 := ⟨ok46, cb46, ok68p, cb68, ok49p, cb49, trivial⟩
theorem ok48 : con48.ok prog 48 := fun a r h => fun_spec (f := F48) (tabL_ok tok48) (tabL_cb tok48) (by kernel_rfl) comp48 0 (a := a) ((s48 _ a.1).trans h)
end Tg
