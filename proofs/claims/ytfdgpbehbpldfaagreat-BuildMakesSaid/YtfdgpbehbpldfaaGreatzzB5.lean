import Derived.Test.YtfdgpbehbpldfaaGreatAbsB6
import Derived.Test.YtfdgpbehbpldfaaGreatzzA
import Derived.Test.YtfdgpbehbpldfaaGreatzzT
import Derived.Test.YtfdgpbehbpldfaaGreatGl
import Derived.Test.YtfdgpbehbpldfaaGreatH0
import Derived.Test.YtfdgpbehbpldfaaGreatProg
import Derived.Test.YtfdgpbehbpldfaaGreatzzB0
import Derived.Test.YtfdgpbehbpldfaaGreatzzB1
import Derived.Test.YtfdgpbehbpldfaaGreatzzB4
import Derived.Test.YtfdgpbehbpldfaaGreatzzB2
import Derived.Test.YtfdgpbehbpldfaaGreatzzC1
import Derived.Test.YtfdgpbehbpldfaaGreatzzB3h12
import Derived.Test.YtfdgpbehbpldfaaGreatzzB3h65
/- Contracts of functions, checked by the kernel. -/
set_option linter.unusedVariables false
set_option maxRecDepth 100000
namespace Tg
open Go.Abs
open Go.Proofs.Tryz (prog)
def con27 : TCon := ⟨[.a qY8, .c (.sl [.sl qY6]), .c (.int .i64), .c (.int .i64)], [.a [.p (.int .u8), .p (.sl qY2), .p (.sl qY11), .p (.bool), .p (.sl qY2), .p (.int .u8), .p (.int .i64), .p (.int .i64), .p (.bool), .p (.int .u8), .p (.sl qY10), .p (.sl qY3), .s 69 9 qY1, .s 80 2 [.int .i64, .sl qY7]]], fun a => ref36_Made a.1 a.2.1 a.2.2.1 a.2.2.2.1⟩
def tab27 : List (Nat × TCon) := [(48, con48), (49, con49p), (50, con50p), (51, con51), (52, con52)]
def F27 : TFun := ⟨[4], [(4, qc [qn 8, [.boxN 37 14 [.any, .nil, .nil, .any, .nil, .any, .any, .any, .any, .any, .nil, .nil, .nil, .nil]], qn 2, [.boxN 37 14 [.p (.int .u8), .p (.sl qY2), .p (.sl qY11), .p (.bool), .p (.sl qY2), .p (.int .u8), .p (.int .i64), .p (.int .i64), .p (.bool), .p (.int .u8), .p (.sl qY10), .p (.sl qY3), .rowN 69 9 qY1, .nil]], qn 64]), (6, qc [qn 1, [.c (.p (.sl [.sl qY6]))], qn 2, [.boxN 27 10 [.p (.int .u8), .p (.sl qY2), .p (.sl qY11), .p (.bool), .p (.sl qY2), .p (.int .u8), .p (.int .i64), .p (.int .i64), .p (.bool), .p (.int .u8)]], qn 3, [.boxN 37 14 [.any, .nil, .nil, .any, .nil, .any, .any, .any, .any, .any, .nil, .nil, .nil, .nil]], qn 2, [.boxN 37 14 [.p (.int .u8), .p (.sl qY2), .p (.sl qY11), .p (.bool), .p (.sl qY2), .p (.int .u8), .p (.int .i64), .p (.int .i64), .p (.bool), .p (.int .u8), .p (.sl qY10), .p (.sl qY3), .rowN 69 9 qY1, .nil]], qi, qn 63]), (12, qc [qn 8, [.boxN 37 14 [.any, .nil, .nil, .any, .nil, .any, .any, .any, .any, .any, .nil, .nil, .nil, .nil]], qn 2, [.boxN 37 14 [.p (.int .u8), .p (.sl qY2), .p (.sl qY11), .p (.bool), .p (.sl qY2), .p (.int .u8), .p (.int .i64), .p (.int .i64), .p (.bool), .p (.int .u8), .p (.sl qY10), .p (.sl qY3), .rowN 69 9 qY1, .rowN 80 2 [.int .i64, .sl qY7]]], qn 1, qi, qn 62])], con27.args, con27.res, qc [qn 8, [.boxN 37 14 [.p (.int .u8), .p (.sl qY2), .p (.sl qY11), .p (.bool), .p (.sl qY2), .p (.int .u8), .p (.int .i64), .p (.int .i64), .p (.bool), .p (.int .u8), .p (.sl qY10), .p (.sl qY3), .rowN 69 9 qY1, .rowN 80 2 [.int .i64, .sl qY7]]], qn 67], [], [], 0⟩
abbrev g27_4 (J : JT F27) := fun y0 y1 y2 y3 y4 y5 y6 y7 y8 y9 y10 y11 y12 => J 4 (y0, y1, y2, y3, y4, y5, y6, y7, y8, y9, y10, y11, y12, ())
abbrev g27_6 (J : JT F27) := fun y0 y1 y2 y3 y4 y5 y6 y7 y8 y9 y10 y11 y12 y13 y14 y15 y16 y17 y18 y19 y20 y21 y22 y23 y24 => J 6 (y0, y1, y2, y3, y4, y5, y6, y7, y8, y9, y10, y11, y12, y13, y14, y15, y16, y17, y18, y19, y20, y21, y22, y23, y24, ())
abbrev g27_12 (J : JT F27) := fun y0 y1 y2 y3 y4 y5 y6 y7 y8 y9 y10 y11 y12 y13 y14 => J 12 (y0, y1, y2, y3, y4, y5, y6, y7, y8, y9, y10, y11, y12, y13, y14, ())
theorem comp27 : compFun prog 27 = some (afOf prog 27) := by kernel_rfl
theorem s27 : ∀ J a0 a1 a2 a3, seg0 (tabL tab27) prog F27 (afOf prog 27) J (a0, a1, a2, a3, ()) = ref36_Made_c (g27_4 J) (g27_6 J) (g27_12 J) a0 a1 a2 a3 := fun _ _ _ _ _ => by kernel_rfl
theorem s27_4 : ∀ J x0 x1 x2 x3 x4 x5 x6 x7 x8 x9 x10 x11 x12, seg (tabL tab27) prog F27 (afOf prog 27) J 4 (x0, x1, x2, x3, x4, x5, x6, x7, x8, x9, x10, x11, x12, ()) = ref36_Made_c4 (g27_4 J) (g27_6 J) (g27_12 J) x0 x1 x2 x3 x4 x5 x6 x7 x8 x9 x10 x11 x12 := fun _ _ _ _ _ _ _ _ _ _ _ _ _ _ => by kernel_rfl
theorem s27_6 : ∀ J x0 x1 x2 x3 x4 x5 x6 x7 x8 x9 x10 x11 x12 x13 x14 x15 x16 x17 x18 x19 x20 x21 x22 x23 x24, seg (tabL tab27) prog F27 (afOf prog 27) J 6 (x0, x1, x2, x3, x4, x5, x6, x7, x8, x9, x10, x11, x12, x13, x14, x15, x16, x17, x18, x19, x20, x21, x22, x23, x24, ()) = ref36_Made_c6 (g27_4 J) (g27_6 J) (g27_12 J) x0 x1 x2 x3 x4 x5 x6 x7 x8 x9 x10 x11 x12 x13 x14 x15 x16 x17 x18 x19 x20 x21 x22 x23 x24 := fun _ _ _ _ _ _ _ _ _ _ _ _ _ _ _ _ _ _ _ _ _ _ _ _ _ _ => by kernel_rfl
theorem s27_12 : ∀ J x0 x1 x2 x3 x4 x5 x6 x7 x8 x9 x10 x11 x12 x13 x14, seg (tabL tab27) prog F27 (afOf prog 27) J 12 (x0, x1, x2, x3, x4, x5, x6, x7, x8, x9, x10, x11, x12, x13, x14, ()) = ref36_Made_c12 (g27_4 J) (g27_6 J) (g27_12 J) x0 x1 x2 x3 x4 x5 x6 x7 x8 x9 x10 x11 x12 x13 x14 := fun _ _ _ _ _ _ _ _ _ _ _ _ _ _ _ _ => by kernel_rfl
theorem i27 : ∀ n, ref36_Made_i4 n = g27_4 (iter (tabL tab27) prog F27 (afOf prog 27) n) ∧ ref36_Made_i6 n = g27_6 (iter (tabL tab27) prog F27 (afOf prog 27) n) ∧ ref36_Made_i12 n = g27_12 (iter (tabL tab27) prog F27 (afOf prog 27) n)
  | 0 => ⟨rfl, rfl, rfl⟩
  | n + 1 => by
    obtain ⟨h4, h6, h12⟩ := i27 n
    exact ⟨by funext x0 x1 x2 x3 x4 x5 x6 x7 x8 x9 x10 x11 x12; exact ((s27_4 _ x0 x1 x2 x3 x4 x5 x6 x7 x8 x9 x10 x11 x12).trans (by show _ = ref36_Made_c4 (ref36_Made_i4 n) (ref36_Made_i6 n) (ref36_Made_i12 n) x0 x1 x2 x3 x4 x5 x6 x7 x8 x9 x10 x11 x12; rw [h4, h6, h12]; try rfl)).symm, by funext x0 x1 x2 x3 x4 x5 x6 x7 x8 x9 x10 x11 x12 x13 x14 x15 x16 x17 x18 x19 x20 x21 x22 x23 x24; exact ((s27_6 _ x0 x1 x2 x3 x4 x5 x6 x7 x8 x9 x10 x11 x12 x13 x14 x15 x16 x17 x18 x19 x20 x21 x22 x23 x24).trans (by show _ = ref36_Made_c6 (ref36_Made_i4 n) (ref36_Made_i6 n) (ref36_Made_i12 n) x0 x1 x2 x3 x4 x5 x6 x7 x8 x9 x10 x11 x12 x13 x14 x15 x16 x17 x18 x19 x20 x21 x22 x23 x24; rw [h4, h6, h12]; try rfl)).symm, by funext x0 x1 x2 x3 x4 x5 x6 x7 x8 x9 x10 x11 x12 x13 x14; exact ((s27_12 _ x0 x1 x2 x3 x4 x5 x6 x7 x8 x9 x10 x11 x12 x13 x14).trans (by show _ = ref36_Made_c12 (ref36_Made_i4 n) (ref36_Made_i6 n) (ref36_Made_i12 n) x0 x1 x2 x3 x4 x5 x6 x7 x8 x9 x10 x11 x12 x13 x14; rw [h4, h6, h12]; try rfl)).symm⟩
theorem cb27 : callable prog 27 = true := by kernel_rfl
theorem tok27 : TabOK prog tab27 := ⟨ok48, cb48, ok49p, cb49, ok50p, cb50, ok51, cb51, ok52, cb52, trivial⟩
theorem ok27 : con27.ok prog 27 := fun a r h => by
  obtain ⟨h4, h6, h12⟩ := i27 fuel
  refine fun_spec (f := F27) (tabL_ok tok27) (tabL_cb tok27) (by kernel_rfl) comp27 fuel (a := a) ((s27 _ a.1 a.2.1 a.2.2.1 a.2.2.2.1).trans ?_)
  have h : ref36_Made_c (ref36_Made_i4 fuel) (ref36_Made_i6 fuel) (ref36_Made_i12 fuel) a.1 a.2.1 a.2.2.1 a.2.2.2.1 = some r := h
  rw [h4, h6, h12] at h
  exact h
def con27p : TCon := ⟨[.a qY8, .c (.sl [.sl qY6]), .c (.int .i64), .c (.int .i64)], [.a [.p (.int .u8), .p (.sl qY2), .p (.sl qY11), .p (.bool), .p (.sl qY2), .p (.int .u8), .p (.int .i64), .p (.int .i64), .p (.bool), .p (.int .u8), .p (.sl qY10), .p (.sl qY3), .p (.sl qY1), .p (.sl [.int .i64, .sl qY7])]], fun a => ref36_Made a.1 a.2.1 a.2.2.1 a.2.2.2.1⟩
theorem ok27p : con27p.ok prog 27 := fun a r h => TCon.frz (c := con27) ok27 rfl a r h
end Tg

/- Contracts of functions, checked by the kernel. -/
set_option linter.unusedVariables false
set_option maxRecDepth 100000
namespace Tg
open Go.Abs
open Go.Proofs.Tryz (prog)
def con6 : TCon := ⟨[.a qY8, .c (.sl [.sl qY6]), .c (.int .i64), .c (.int .i64)], [.a [.p (.int .u8), .p (.sl qY2), .p (.sl qY11), .p (.bool), .p (.sl qY2), .p (.int .u8), .p (.int .i64), .p (.int .i64), .p (.bool), .p (.int .u8), .p (.sl qY10), .p (.sl qY3), .p (.sl qY1), .p (.sl [.int .i64, .sl qY7])], .c (.p (.int .i64))], fun a => ref36_Build a.1 a.2.1 a.2.2.1 a.2.2.2.1⟩
def tab6 : List (Nat × TCon) := [(26, con26), (27, con27p)]
def F6 : TFun := ⟨[], [], con6.args, con6.res, qc [qn 8, [.boxN 37 14 [.p (.int .u8), .p (.sl qY2), .p (.sl qY11), .p (.bool), .p (.sl qY2), .p (.int .u8), .p (.int .i64), .p (.int .i64), .p (.bool), .p (.int .u8), .p (.sl qY10), .p (.sl qY3), .p (.sl qY1), .p (.sl [.int .i64, .sl qY7])]], qi, qn 15], [], [], 0⟩
theorem comp6 : compFun prog 6 = some (afOf prog 6) := by kernel_rfl
theorem s6 : ∀ J a0 a1 a2 a3, seg0 (tabL tab6) prog F6 (afOf prog 6) J (a0, a1, a2, a3, ()) = ref36_Build a0 a1 a2 a3 := fun _ _ _ _ _ => by kernel_rfl
theorem cb6 : callable prog 6 = true := by kernel_rfl
theorem tok6 : TabOK prog tab6 := ⟨ok26, cb26, ok27p, cb27, trivial⟩
theorem ok6 : con6.ok prog 6 := fun a r h => fun_spec (f := F6) (tabL_ok tok6) (tabL_cb tok6) (by kernel_rfl) comp6 0 (a := a) ((s6 _ a.1 a.2.1 a.2.2.1 a.2.2.2.1).trans h)
end Tg

/- The contracts of the functions, checked by the kernel. -/
namespace Tg
end Tg
