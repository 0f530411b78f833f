import Derived.Test.YtepkicnfkpclcaaDoorAbsB6
import Derived.Test.YtepkicnfkpclcaaDoorllA
import Derived.Test.YtepkicnfkpclcaaDoorllT
import Derived.Test.YtepkicnfkpclcaaDoorGlT
import Derived.Test.YtepkicnfkpclcaaDoorLB
import Derived.Test.YtepkicnfkpclcaaDoorProg
import Derived.Test.YtepkicnfkpclcaaDoorllB0
import Derived.Test.YtepkicnfkpclcaaDoorllB1
/- Contracts of functions, checked by the kernel. -/
set_option linter.unusedVariables false
set_option linter.unusedSimpArgs false
set_option maxRecDepth 100000
namespace Tg
open Go.Abs
open Go.Proofs.Tryd (prog)
def con26 : TCon := ⟨[.c (.str)], [.a [.p (.int .u8), .p (.int .i64), .p (.int .i64), .p (.int .i64), .p (.int .i64), .p (.int .i64), .p (.int .i64), .p (.int .i64), .p (.int .i64), .p (.int .i64)], .c (.p (.int .i64))], fun a => message_Read a.1⟩
def tab26 : List (Nat × TCon) := [(49, con49p), (50, con50p), (42, con42)]
def F26 : TFun := ⟨[5, 16], [(5, qc [qn 2, [.boxN 56 10 [.any, .any, .any, .any, .any, .any, .any, .any, .any, .any]], qn 1, [.c (.p (.sl [.str]))], [.boxN 56 10 [.p (.int .u8), .p (.int .i64), .p (.int .i64), .p (.int .i64), .p (.int .i64), .p (.int .i64), .p (.int .i64), .p (.int .i64), .p (.int .i64), .p (.int .i64)]], qi, qn 74]), (16, qc [qn 2, [.boxN 56 10 [.any, .any, .any, .any, .any, .any, .any, .any, .any, .any]], qn 2, [.boxN 56 10 [.p (.int .u8), .p (.int .i64), .p (.int .i64), .p (.int .i64), .p (.int .i64), .p (.int .i64), .p (.int .i64), .p (.int .i64), .p (.int .i64), .p (.int .i64)]], qn 75])], con26.args, con26.res, qc [qn 2, [.boxN 56 10 [.p (.int .u8), .p (.int .i64), .p (.int .i64), .p (.int .i64), .p (.int .i64), .p (.int .i64), .p (.int .i64), .p (.int .i64), .p (.int .i64), .p (.int .i64)]], qi, qn 77], [], [], 0⟩
abbrev g26_5 (J : JT F26) := fun y0 y1 y2 y3 y4 y5 y6 y7 y8 y9 y10 y11 => J 5 (y0, y1, y2, y3, y4, y5, y6, y7, y8, y9, y10, y11, ())
abbrev g26_16 (J : JT F26) := fun y0 y1 y2 y3 y4 y5 y6 y7 y8 y9 => J 16 (y0, y1, y2, y3, y4, y5, y6, y7, y8, y9, ())
theorem comp26 : compFun prog 26 = some (afOf prog 26) := by kernel_rfl
theorem s26 : ∀ J a0, seg0 (tabL tab26) prog F26 (afOf prog 26) J (a0, ()) = message_Read_c (g26_5 J) (g26_16 J) a0 := fun _ _ => by kernel_rfl
theorem s26_5 : ∀ J x0 x1 x2 x3 x4 x5 x6 x7 x8 x9 x10 x11, seg (tabL tab26) prog F26 (afOf prog 26) J 5 (x0, x1, x2, x3, x4, x5, x6, x7, x8, x9, x10, x11, ()) = message_Read_c5 (g26_5 J) (g26_16 J) x0 x1 x2 x3 x4 x5 x6 x7 x8 x9 x10 x11 := fun _ _ _ _ _ _ _ _ _ _ _ _ _ => by kernel_rfl
theorem s26_16 : ∀ J x0 x1 x2 x3 x4 x5 x6 x7 x8 x9, seg (tabL tab26) prog F26 (afOf prog 26) J 16 (x0, x1, x2, x3, x4, x5, x6, x7, x8, x9, ()) = message_Read_c16 (g26_5 J) (g26_16 J) x0 x1 x2 x3 x4 x5 x6 x7 x8 x9 := fun _ _ _ _ _ _ _ _ _ _ _ => by kernel_rfl
theorem i26 : ∀ n, message_Read_i5 n = g26_5 (iter (tabL tab26) prog F26 (afOf prog 26) n) ∧ message_Read_i16 n = g26_16 (iter (tabL tab26) prog F26 (afOf prog 26) n)
  | 0 => ⟨rfl, rfl⟩
  | n + 1 => by
    obtain ⟨h5, h16⟩ := i26 n
    exact ⟨by funext x0 x1 x2 x3 x4 x5 x6 x7 x8 x9 x10 x11; exact ((s26_5 _ x0 x1 x2 x3 x4 x5 x6 x7 x8 x9 x10 x11).trans (by show _ = message_Read_c5 (message_Read_i5 n) (message_Read_i16 n) x0 x1 x2 x3 x4 x5 x6 x7 x8 x9 x10 x11; rw [h5, h16]; try rfl)).symm, by funext x0 x1 x2 x3 x4 x5 x6 x7 x8 x9; exact ((s26_16 _ x0 x1 x2 x3 x4 x5 x6 x7 x8 x9).trans (by show _ = message_Read_c16 (message_Read_i5 n) (message_Read_i16 n) x0 x1 x2 x3 x4 x5 x6 x7 x8 x9; rw [h5, h16]; try rfl)).symm⟩
theorem cb26 : callable prog 26 = true := by kernel_rfl
theorem tok26 : TabOK prog tab26 := ⟨ok49p, cb49, ok50p, cb50, ok42, cb42, trivial⟩
theorem ok26 : con26.ok prog 26 := fun a r h => by
  obtain ⟨h5, h16⟩ := i26 fuel
  refine fun_spec (f := F26) (tabL_ok tok26) (tabL_cb tok26) (by kernel_rfl) comp26 fuel (a := a) ((s26 _ a.1).trans ?_)
  have h : message_Read_c (message_Read_i5 fuel) (message_Read_i16 fuel) a.1 = some r := h
  rw [h5, h16] at h
  exact h
end Tg

/- Contracts of functions, checked by the kernel. -/
set_option linter.unusedVariables false
set_option linter.unusedSimpArgs false
set_option maxRecDepth 100000
namespace Tg
open Go.Abs
open Go.Proofs.Tryd (prog)
def con29 : TCon := ⟨[.c (.str)], [.a [.p (.int .u8), .p (.int .i64), .p (.int .i64), .p (.int .i64), .p (.int .i64), .p (.int .i64), .p (.int .i64), .p (.int .i64), .p (.int .i64), .p (.int .i64)], .c (.p (.int .i64))], fun a => ref25_Read a.1⟩
def tab29 : List (Nat × TCon) := [(52, con52), (53, con53), (46, con46)]
def F29 : TFun := ⟨[3, 12, 20], [(3, qc [[.c (.p (.str))], qn 1, [.boxN 56 10 [.any, .any, .any, .any, .any, .any, .any, .any, .any, .any]], qn 1, [.c (.rowN 9 1 [.str])], qn 116]), (5, qc [[.c (.p (.str))], qn 1, [.boxN 56 10 [.any, .any, .any, .any, .any, .any, .any, .any, .any, .any]], qn 1, [.c (.rowN 9 1 [.str])], qi, qi, qn 114]), (12, qc [[.c (.p (.str))], qn 1, [.boxN 56 10 [.any, .any, .any, .any, .any, .any, .any, .any, .any, .any]], qn 1, [.c (.rowN 9 1 [.str])], qn 2, [.c (.rowN 2 1 [.int .i64])], qn 113]), (14, qc [[.c (.p (.str))], qn 1, [.boxN 56 10 [.any, .any, .any, .any, .any, .any, .any, .any, .any, .any]], qn 1, [.c (.rowN 9 1 [.str])], qn 2, [.c (.rowN 2 1 [.int .i64])], qi, qn 112]), (20, qc [[.c (.p (.str))], qn 1, [.boxN 56 10 [.any, .any, .any, .any, .any, .any, .any, .any, .any, .any]], qn 6, [.boxN 56 10 [.p (.int .u8), .p (.int .i64), .p (.int .i64), .p (.int .i64), .p (.int .i64), .p (.int .i64), .p (.int .i64), .p (.int .i64), .p (.int .i64), .p (.int .i64)]], qn 111])], con29.args, con29.res, qc [qn 2, [.boxN 56 10 [.p (.int .u8), .p (.int .i64), .p (.int .i64), .p (.int .i64), .p (.int .i64), .p (.int .i64), .p (.int .i64), .p (.int .i64), .p (.int .i64), .p (.int .i64)]], qi, qn 117], [], [], 0⟩
abbrev g29_3 (J : JT F29) := fun y0 y1 => J 3 (y0, y1, ())
abbrev g29_5 (J : JT F29) := fun y0 y1 y2 y3 => J 5 (y0, y1, y2, y3, ())
abbrev g29_12 (J : JT F29) := fun y0 y1 y2 => J 12 (y0, y1, y2, ())
abbrev g29_14 (J : JT F29) := fun y0 y1 y2 y3 => J 14 (y0, y1, y2, y3, ())
abbrev g29_20 (J : JT F29) := fun y0 y1 y2 y3 y4 y5 y6 y7 y8 y9 y10 => J 20 (y0, y1, y2, y3, y4, y5, y6, y7, y8, y9, y10, ())
theorem comp29 : compFun prog 29 = some (afOf prog 29) := by kernel_rfl
theorem s29 : ∀ J a0, seg0 (tabL tab29) prog F29 (afOf prog 29) J (a0, ()) = ref25_Read_c (g29_3 J) (g29_5 J) (g29_12 J) (g29_14 J) (g29_20 J) a0 := fun _ _ => by kernel_rfl
theorem s29_3 : ∀ J x0 x1, seg (tabL tab29) prog F29 (afOf prog 29) J 3 (x0, x1, ()) = ref25_Read_c3 (g29_3 J) (g29_5 J) (g29_12 J) (g29_14 J) (g29_20 J) x0 x1 := fun _ _ _ => by kernel_rfl
theorem s29_5 : ∀ J x0 x1 x2 x3, seg (tabL tab29) prog F29 (afOf prog 29) J 5 (x0, x1, x2, x3, ()) = ref25_Read_c5 (g29_3 J) (g29_5 J) (g29_12 J) (g29_14 J) (g29_20 J) x0 x1 x2 x3 := fun _ _ _ _ _ => by kernel_rfl
theorem s29_12 : ∀ J x0 x1 x2, seg (tabL tab29) prog F29 (afOf prog 29) J 12 (x0, x1, x2, ()) = ref25_Read_c12 (g29_3 J) (g29_5 J) (g29_12 J) (g29_14 J) (g29_20 J) x0 x1 x2 := fun _ _ _ _ => by kernel_rfl
theorem s29_14 : ∀ J x0 x1 x2 x3, seg (tabL tab29) prog F29 (afOf prog 29) J 14 (x0, x1, x2, x3, ()) = ref25_Read_c14 (g29_3 J) (g29_5 J) (g29_12 J) (g29_14 J) (g29_20 J) x0 x1 x2 x3 := fun _ _ _ _ _ => by kernel_rfl
theorem s29_20 : ∀ J x0 x1 x2 x3 x4 x5 x6 x7 x8 x9 x10, seg (tabL tab29) prog F29 (afOf prog 29) J 20 (x0, x1, x2, x3, x4, x5, x6, x7, x8, x9, x10, ()) = ref25_Read_c20 (g29_3 J) (g29_5 J) (g29_12 J) (g29_14 J) (g29_20 J) x0 x1 x2 x3 x4 x5 x6 x7 x8 x9 x10 := fun _ _ _ _ _ _ _ _ _ _ _ _ => by kernel_rfl
theorem i29 : ∀ n, ref25_Read_i3 n = g29_3 (iter (tabL tab29) prog F29 (afOf prog 29) n) ∧ ref25_Read_i5 n = g29_5 (iter (tabL tab29) prog F29 (afOf prog 29) n) ∧ ref25_Read_i12 n = g29_12 (iter (tabL tab29) prog F29 (afOf prog 29) n) ∧ ref25_Read_i14 n = g29_14 (iter (tabL tab29) prog F29 (afOf prog 29) n) ∧ ref25_Read_i20 n = g29_20 (iter (tabL tab29) prog F29 (afOf prog 29) n)
  | 0 => ⟨rfl, rfl, rfl, rfl, rfl⟩
  | n + 1 => by
    obtain ⟨h3, h5, h12, h14, h20⟩ := i29 n
    exact ⟨by funext x0 x1; exact ((s29_3 _ x0 x1).trans (by show _ = ref25_Read_c3 (ref25_Read_i3 n) (ref25_Read_i5 n) (ref25_Read_i12 n) (ref25_Read_i14 n) (ref25_Read_i20 n) x0 x1; rw [h3, h5, h12, h14, h20]; try rfl)).symm, by funext x0 x1 x2 x3; exact ((s29_5 _ x0 x1 x2 x3).trans (by show _ = ref25_Read_c5 (ref25_Read_i3 n) (ref25_Read_i5 n) (ref25_Read_i12 n) (ref25_Read_i14 n) (ref25_Read_i20 n) x0 x1 x2 x3; rw [h3, h5, h12, h14, h20]; try rfl)).symm, by funext x0 x1 x2; exact ((s29_12 _ x0 x1 x2).trans (by show _ = ref25_Read_c12 (ref25_Read_i3 n) (ref25_Read_i5 n) (ref25_Read_i12 n) (ref25_Read_i14 n) (ref25_Read_i20 n) x0 x1 x2; rw [h3, h5, h12, h14, h20]; try rfl)).symm, by funext x0 x1 x2 x3; exact ((s29_14 _ x0 x1 x2 x3).trans (by show _ = ref25_Read_c14 (ref25_Read_i3 n) (ref25_Read_i5 n) (ref25_Read_i12 n) (ref25_Read_i14 n) (ref25_Read_i20 n) x0 x1 x2 x3; rw [h3, h5, h12, h14, h20]; try rfl)).symm, by funext x0 x1 x2 x3 x4 x5 x6 x7 x8 x9 x10; exact ((s29_20 _ x0 x1 x2 x3 x4 x5 x6 x7 x8 x9 x10).trans (by show _ = ref25_Read_c20 (ref25_Read_i3 n) (ref25_Read_i5 n) (ref25_Read_i12 n) (ref25_Read_i14 n) (ref25_Read_i20 n) x0 x1 x2 x3 x4 x5 x6 x7 x8 x9 x10; rw [h3, h5, h12, h14, h20]; try rfl)).symm⟩
theorem cb29 : callable prog 29 = true := by kernel_rfl
theorem tok29 : TabOK prog tab29 := ⟨ok52, cb52, ok53, cb53, ok46, cb46, trivial⟩
theorem ok29 : con29.ok prog 29 := fun a r h => by
  obtain ⟨h3, h5, h12, h14, h20⟩ := i29 fuel
  refine fun_spec (f := F29) (tabL_ok tok29) (tabL_cb tok29) (by kernel_rfl) comp29 fuel (a := a) ((s29 _ a.1).trans ?_)
  have h : ref25_Read_c (ref25_Read_i3 fuel) (ref25_Read_i5 fuel) (ref25_Read_i12 fuel) (ref25_Read_i14 fuel) (ref25_Read_i20 fuel) a.1 = some r := h
  rw [h3, h5, h12, h14, h20] at h
  exact h
end Tg
