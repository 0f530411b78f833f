import Derived.Test.YtfdgpbehbpldfaaGreatAbsB6
import Derived.Test.YtfdgpbehbpldfaaGreatzzA
import Derived.Test.YtfdgpbehbpldfaaGreatzzT
import Derived.Test.YtfdgpbehbpldfaaGreatGl
import Derived.Test.YtfdgpbehbpldfaaGreatH0
import Derived.Test.YtfdgpbehbpldfaaGreatProg
import Derived.Test.YtfdgpbehbpldfaaGreatzzB0
/- Contracts of functions, checked by the kernel. -/
set_option linter.unusedVariables false
set_option maxRecDepth 100000
namespace Tg
open Go.Abs
open Go.Proofs.Tryz (prog)
def con56 : TCon := ⟨[.a qY1, .a qY1], [.c (.p (.bool))], fun a => ref27_Same a.1 a.2.1⟩
def tab56 : List (Nat × TCon) := [(77, con77)]
def F56 : TFun := ⟨[5, 13, 21, 29], [(5, qc [qn 2, [.boxN 69 9 [.any, .any, .any, .any, .any, .p (.sl qY4), .p (.sl qY6), .p (.sl qY3), .p (.sl qY9)]], [.boxN 69 9 [.any, .any, .any, .any, .any, .p (.sl qY4), .p (.sl qY6), .p (.sl qY3), .p (.sl qY9)]], qn 161]), (7, qc [qn 2, [.boxN 69 9 [.any, .any, .any, .any, .p (.sl qY11), .p (.sl qY4), .p (.sl qY6), .p (.sl qY3), .p (.sl qY9)]], [.boxN 69 9 [.any, .any, .any, .any, .p (.sl qY11), .p (.sl qY4), .p (.sl qY6), .p (.sl qY3), .p (.sl qY9)]], qn 1, qi, qn 159]), (13, qc [qn 2, [.boxN 69 9 [.any, .any, .any, .any, .any, .any, .p (.sl qY6), .p (.sl qY3), .p (.sl qY9)]], [.boxN 69 9 [.any, .any, .any, .any, .any, .any, .p (.sl qY6), .p (.sl qY3), .p (.sl qY9)]], qn 161]), (15, qc [qn 2, [.boxN 69 9 [.any, .any, .any, .any, .any, .p (.sl qY4), .p (.sl qY6), .p (.sl qY3), .p (.sl qY9)]], [.boxN 69 9 [.any, .any, .any, .any, .any, .p (.sl qY4), .p (.sl qY6), .p (.sl qY3), .p (.sl qY9)]], qn 2, qi, qn 158]), (21, qc [qn 2, [.boxN 69 9 [.any, .any, .any, .any, .any, .any, .any, .p (.sl qY3), .p (.sl qY9)]], [.boxN 69 9 [.any, .any, .any, .any, .any, .any, .any, .p (.sl qY3), .p (.sl qY9)]], qn 161]), (23, qc [qn 2, [.boxN 69 9 [.any, .any, .any, .any, .any, .any, .p (.sl qY6), .p (.sl qY3), .p (.sl qY9)]], [.boxN 69 9 [.any, .any, .any, .any, .any, .any, .p (.sl qY6), .p (.sl qY3), .p (.sl qY9)]], qn 3, qi, qn 157]), (29, qc [qn 2, [.boxN 69 9 [.any, .any, .any, .any, .any, .any, .any, .any, .p (.sl qY9)]], [.boxN 69 9 [.any, .any, .any, .any, .any, .any, .any, .any, .p (.sl qY9)]], qn 161]), (31, qc [qn 2, [.boxN 69 9 [.any, .any, .any, .any, .any, .any, .any, .p (.sl qY3), .p (.sl qY9)]], [.boxN 69 9 [.any, .any, .any, .any, .any, .any, .any, .p (.sl qY3), .p (.sl qY9)]], qn 4, qi, qn 156]), (39, qc [qn 2, [.boxN 69 9 [.any, .any, .any, .any, .any, .any, .any, .any, .p (.sl qY9)]], [.boxN 69 9 [.any, .any, .any, .any, .any, .any, .any, .any, .p (.sl qY9)]], qn 5, qi, qn 155])], con56.args, con56.res, qc [qn 4, qb, qn 160], [], [], 0⟩
abbrev g56_5 (J : JT F56) := fun y0 y1 y2 y3 y4 y5 y6 y7 => J 5 (y0, y1, y2, y3, y4, y5, y6, y7, ())
abbrev g56_7 (J : JT F56) := fun y0 y1 y2 y3 y4 y5 y6 y7 y8 y9 y10 => J 7 (y0, y1, y2, y3, y4, y5, y6, y7, y8, y9, y10, ())
abbrev g56_13 (J : JT F56) := fun y0 y1 y2 y3 y4 y5 => J 13 (y0, y1, y2, y3, y4, y5, ())
abbrev g56_15 (J : JT F56) := fun y0 y1 y2 y3 y4 y5 y6 y7 y8 => J 15 (y0, y1, y2, y3, y4, y5, y6, y7, y8, ())
abbrev g56_21 (J : JT F56) := fun y0 y1 y2 y3 => J 21 (y0, y1, y2, y3, ())
abbrev g56_23 (J : JT F56) := fun y0 y1 y2 y3 y4 y5 y6 => J 23 (y0, y1, y2, y3, y4, y5, y6, ())
abbrev g56_29 (J : JT F56) := fun y0 y1 => J 29 (y0, y1, ())
abbrev g56_31 (J : JT F56) := fun y0 y1 y2 y3 y4 => J 31 (y0, y1, y2, y3, y4, ())
abbrev g56_39 (J : JT F56) := fun y0 y1 y2 => J 39 (y0, y1, y2, ())
theorem comp56 : compFun prog 56 = some (afOf prog 56) := by kernel_rfl
theorem s56 : ∀ J a0 a1, seg0 (tabL tab56) prog F56 (afOf prog 56) J (a0, a1, ()) = ref27_Same_c (g56_5 J) (g56_7 J) (g56_13 J) (g56_15 J) (g56_21 J) (g56_23 J) (g56_29 J) (g56_31 J) (g56_39 J) a0 a1 := fun _ _ _ => by kernel_rfl
theorem s56_5 : ∀ J x0 x1 x2 x3 x4 x5 x6 x7, seg (tabL tab56) prog F56 (afOf prog 56) J 5 (x0, x1, x2, x3, x4, x5, x6, x7, ()) = ref27_Same_c5 (g56_5 J) (g56_7 J) (g56_13 J) (g56_15 J) (g56_21 J) (g56_23 J) (g56_29 J) (g56_31 J) (g56_39 J) x0 x1 x2 x3 x4 x5 x6 x7 := fun _ _ _ _ _ _ _ _ _ => by kernel_rfl
theorem s56_7 : ∀ J x0 x1 x2 x3 x4 x5 x6 x7 x8 x9 x10, seg (tabL tab56) prog F56 (afOf prog 56) J 7 (x0, x1, x2, x3, x4, x5, x6, x7, x8, x9, x10, ()) = ref27_Same_c7 (g56_5 J) (g56_7 J) (g56_13 J) (g56_15 J) (g56_21 J) (g56_23 J) (g56_29 J) (g56_31 J) (g56_39 J) x0 x1 x2 x3 x4 x5 x6 x7 x8 x9 x10 := fun _ _ _ _ _ _ _ _ _ _ _ _ => by kernel_rfl
theorem s56_13 : ∀ J x0 x1 x2 x3 x4 x5, seg (tabL tab56) prog F56 (afOf prog 56) J 13 (x0, x1, x2, x3, x4, x5, ()) = ref27_Same_c13 (g56_5 J) (g56_7 J) (g56_13 J) (g56_15 J) (g56_21 J) (g56_23 J) (g56_29 J) (g56_31 J) (g56_39 J) x0 x1 x2 x3 x4 x5 := fun _ _ _ _ _ _ _ => by kernel_rfl
theorem s56_15 : ∀ J x0 x1 x2 x3 x4 x5 x6 x7 x8, seg (tabL tab56) prog F56 (afOf prog 56) J 15 (x0, x1, x2, x3, x4, x5, x6, x7, x8, ()) = ref27_Same_c15 (g56_5 J) (g56_7 J) (g56_13 J) (g56_15 J) (g56_21 J) (g56_23 J) (g56_29 J) (g56_31 J) (g56_39 J) x0 x1 x2 x3 x4 x5 x6 x7 x8 := fun _ _ _ _ _ _ _ _ _ _ => by kernel_rfl
theorem s56_21 : ∀ J x0 x1 x2 x3, seg (tabL tab56) prog F56 (afOf prog 56) J 21 (x0, x1, x2, x3, ()) = ref27_Same_c21 (g56_5 J) (g56_7 J) (g56_13 J) (g56_15 J) (g56_21 J) (g56_23 J) (g56_29 J) (g56_31 J) (g56_39 J) x0 x1 x2 x3 := fun _ _ _ _ _ => by kernel_rfl
theorem s56_23 : ∀ J x0 x1 x2 x3 x4 x5 x6, seg (tabL tab56) prog F56 (afOf prog 56) J 23 (x0, x1, x2, x3, x4, x5, x6, ()) = ref27_Same_c23 (g56_5 J) (g56_7 J) (g56_13 J) (g56_15 J) (g56_21 J) (g56_23 J) (g56_29 J) (g56_31 J) (g56_39 J) x0 x1 x2 x3 x4 x5 x6 := fun _ _ _ _ _ _ _ _ => by kernel_rfl
theorem s56_29 : ∀ J x0 x1, seg (tabL tab56) prog F56 (afOf prog 56) J 29 (x0, x1, ()) = ref27_Same_c29 (g56_5 J) (g56_7 J) (g56_13 J) (g56_15 J) (g56_21 J) (g56_23 J) (g56_29 J) (g56_31 J) (g56_39 J) x0 x1 := fun _ _ _ => by kernel_rfl
theorem s56_31 : ∀ J x0 x1 x2 x3 x4, seg (tabL tab56) prog F56 (afOf prog 56) J 31 (x0, x1, x2, x3, x4, ()) = ref27_Same_c31 (g56_5 J) (g56_7 J) (g56_13 J) (g56_15 J) (g56_21 J) (g56_23 J) (g56_29 J) (g56_31 J) (g56_39 J) x0 x1 x2 x3 x4 := fun _ _ _ _ _ _ => by kernel_rfl
theorem s56_39 : ∀ J x0 x1 x2, seg (tabL tab56) prog F56 (afOf prog 56) J 39 (x0, x1, x2, ()) = ref27_Same_c39 (g56_5 J) (g56_7 J) (g56_13 J) (g56_15 J) (g56_21 J) (g56_23 J) (g56_29 J) (g56_31 J) (g56_39 J) x0 x1 x2 := fun _ _ _ _ => by kernel_rfl
theorem i56 : ∀ n, ref27_Same_i5 n = g56_5 (iter (tabL tab56) prog F56 (afOf prog 56) n) ∧ ref27_Same_i7 n = g56_7 (iter (tabL tab56) prog F56 (afOf prog 56) n) ∧ ref27_Same_i13 n = g56_13 (iter (tabL tab56) prog F56 (afOf prog 56) n) ∧ ref27_Same_i15 n = g56_15 (iter (tabL tab56) prog F56 (afOf prog 56) n) ∧ ref27_Same_i21 n = g56_21 (iter (tabL tab56) prog F56 (afOf prog 56) n) ∧ ref27_Same_i23 n = g56_23 (iter (tabL tab56) prog F56 (afOf prog 56) n) ∧ ref27_Same_i29 n = g56_29 (iter (tabL tab56) prog F56 (afOf prog 56) n) ∧ ref27_Same_i31 n = g56_31 (iter (tabL tab56) prog F56 (afOf prog 56) n) ∧ ref27_Same_i39 n = g56_39 (iter (tabL tab56) prog F56 (afOf prog 56) n)
  | 0 => ⟨rfl, rfl, rfl, rfl, rfl, rfl, rfl, rfl, rfl⟩
  | n + 1 => by
    obtain ⟨h5, h7, h13, h15, h21, h23, h29, h31, h39⟩ := i56 n
    exact ⟨by funext x0 x1 x2 x3 x4 x5 x6 x7; exact ((s56_5 _ x0 x1 x2 x3 x4 x5 x6 x7).trans (by show _ = ref27_Same_c5 (ref27_Same_i5 n) (ref27_Same_i7 n) (ref27_Same_i13 n) (ref27_Same_i15 n) (ref27_Same_i21 n) (ref27_Same_i23 n) (ref27_Same_i29 n) (ref27_Same_i31 n) (ref27_Same_i39 n) x0 x1 x2 x3 x4 x5 x6 x7; rw [h5, h7, h13, h15, h21, h23, h29, h31, h39]; try rfl)).symm, by funext x0 x1 x2 x3 x4 x5 x6 x7 x8 x9 x10; exact ((s56_7 _ x0 x1 x2 x3 x4 x5 x6 x7 x8 x9 x10).trans (by show _ = ref27_Same_c7 (ref27_Same_i5 n) (ref27_Same_i7 n) (ref27_Same_i13 n) (ref27_Same_i15 n) (ref27_Same_i21 n) (ref27_Same_i23 n) (ref27_Same_i29 n) (ref27_Same_i31 n) (ref27_Same_i39 n) x0 x1 x2 x3 x4 x5 x6 x7 x8 x9 x10; rw [h5, h7, h13, h15, h21, h23, h29, h31, h39]; try rfl)).symm, by funext x0 x1 x2 x3 x4 x5; exact ((s56_13 _ x0 x1 x2 x3 x4 x5).trans (by show _ = ref27_Same_c13 (ref27_Same_i5 n) (ref27_Same_i7 n) (ref27_Same_i13 n) (ref27_Same_i15 n) (ref27_Same_i21 n) (ref27_Same_i23 n) (ref27_Same_i29 n) (ref27_Same_i31 n) (ref27_Same_i39 n) x0 x1 x2 x3 x4 x5; rw [h5, h7, h13, h15, h21, h23, h29, h31, h39]; try rfl)).symm, by funext x0 x1 x2 x3 x4 x5 x6 x7 x8; exact ((s56_15 _ x0 x1 x2 x3 x4 x5 x6 x7 x8).trans (by show _ = ref27_Same_c15 (ref27_Same_i5 n) (ref27_Same_i7 n) (ref27_Same_i13 n) (ref27_Same_i15 n) (ref27_Same_i21 n) (ref27_Same_i23 n) (ref27_Same_i29 n) (ref27_Same_i31 n) (ref27_Same_i39 n) x0 x1 x2 x3 x4 x5 x6 x7 x8; rw [h5, h7, h13, h15, h21, h23, h29, h31, h39]; try rfl)).symm, by funext x0 x1 x2 x3; exact ((s56_21 _ x0 x1 x2 x3).trans (by show _ = ref27_Same_c21 (ref27_Same_i5 n) (ref27_Same_i7 n) (ref27_Same_i13 n) (ref27_Same_i15 n) (ref27_Same_i21 n) (ref27_Same_i23 n) (ref27_Same_i29 n) (ref27_Same_i31 n) (ref27_Same_i39 n) x0 x1 x2 x3; rw [h5, h7, h13, h15, h21, h23, h29, h31, h39]; try rfl)).symm, by funext x0 x1 x2 x3 x4 x5 x6; exact ((s56_23 _ x0 x1 x2 x3 x4 x5 x6).trans (by show _ = ref27_Same_c23 (ref27_Same_i5 n) (ref27_Same_i7 n) (ref27_Same_i13 n) (ref27_Same_i15 n) (ref27_Same_i21 n) (ref27_Same_i23 n) (ref27_Same_i29 n) (ref27_Same_i31 n) (ref27_Same_i39 n) x0 x1 x2 x3 x4 x5 x6; rw [h5, h7, h13, h15, h21, h23, h29, h31, h39]; try rfl)).symm, by funext x0 x1; exact ((s56_29 _ x0 x1).trans (by show _ = ref27_Same_c29 (ref27_Same_i5 n) (ref27_Same_i7 n) (ref27_Same_i13 n) (ref27_Same_i15 n) (ref27_Same_i21 n) (ref27_Same_i23 n) (ref27_Same_i29 n) (ref27_Same_i31 n) (ref27_Same_i39 n) x0 x1; rw [h5, h7, h13, h15, h21, h23, h29, h31, h39]; try rfl)).symm, by funext x0 x1 x2 x3 x4; exact ((s56_31 _ x0 x1 x2 x3 x4).trans (by show _ = ref27_Same_c31 (ref27_Same_i5 n) (ref27_Same_i7 n) (ref27_Same_i13 n) (ref27_Same_i15 n) (ref27_Same_i21 n) (ref27_Same_i23 n) (ref27_Same_i29 n) (ref27_Same_i31 n) (ref27_Same_i39 n) x0 x1 x2 x3 x4; rw [h5, h7, h13, h15, h21, h23, h29, h31, h39]; try rfl)).symm, by funext x0 x1 x2; exact ((s56_39 _ x0 x1 x2).trans (by show _ = ref27_Same_c39 (ref27_Same_i5 n) (ref27_Same_i7 n) (ref27_Same_i13 n) (ref27_Same_i15 n) (ref27_Same_i21 n) (ref27_Same_i23 n) (ref27_Same_i29 n) (ref27_Same_i31 n) (ref27_Same_i39 n) x0 x1 x2; rw [h5, h7, h13, h15, h21, h23, h29, h31, h39]; try rfl)).symm⟩
theorem cb56 : callable prog 56 = true := by kernel_rfl
theorem tok56 : TabOK prog tab56 := ⟨ok77, cb77, trivial⟩
theorem ok56 : con56.ok prog 56 := fun a r h => by
  obtain ⟨h5, h7, h13, h15, h21, h23, h29, h31, h39⟩ := i56 fuel
  refine fun_spec (f := F56) (tabL_ok tok56) (tabL_cb tok56) (by kernel_rfl) comp56 fuel (a := a) ((s56 _ a.1 a.2.1).trans ?_)
  have h : ref27_Same_c (ref27_Same_i5 fuel) (ref27_Same_i7 fuel) (ref27_Same_i13 fuel) (ref27_Same_i15 fuel) (ref27_Same_i21 fuel) (ref27_Same_i23 fuel) (ref27_Same_i29 fuel) (ref27_Same_i31 fuel) (ref27_Same_i39 fuel) a.1 a.2.1 = some r := h
  rw [h5, h7, h13, h15, h21, h23, h29, h31, h39] at h
  exact h
end Tg

/- Contracts of functions, checked by the kernel. -/
set_option linter.unusedVariables false
set_option maxRecDepth 100000
namespace Tg
open Go.Abs
open Go.Proofs.Tryz (prog)
def con96 : TCon := ⟨[.c (.sl qY2)], [.c (.s 4 1 [.bool]), .c (.p (.int .i64))], fun a => kinds_told a.1⟩
def tab96 : List (Nat × TCon) := []
def F96 : TFun := ⟨[14], [(6, qc [[.c (.p (.sl qY2))], qn 3, [.boxN 180 1 [.rowN 4 1 [.bool]]], [.fnS 105 [.ptr 0 0]], qn 6, [.c (.p (.sl qY2))], qi, qi, qn 73]), (14, qc [[.c (.p (.sl qY2))], qn 3, [.boxN 180 1 [.rowN 4 1 [.bool]]], [.fnS 105 [.ptr 0 0]], qi, qn 1, [.boxN 198 2 [.p (.bool), .p (.bool)]], qb, [.c (.slN 3 1 qY11)], qn 1, [.c (.p (.sl qY2))], qi, qi, qn 73]), (28, qc [qb, qn 1, [.boxN 180 1 [.rowN 4 1 [.bool]]], qn 5, [.c (.slN 3 1 qY11)], qi, qi, qn 10, [.c (.p (.sl qY2))], qn 3, [.c (.ptr 0 0)], [.fnS 105 [.ptr 0 0]], qi, qn 1, [.boxN 198 2 [.any, .p (.bool)]], qb, [.c (.slR 2)], qn 1, [.c (.p (.sl qY2))], qi, qi, qn 48, qb, qn 24]), (40, qc [qb, qn 1, [.boxN 180 1 [.rowN 4 1 [.bool]]], qn 5, [.c (.p (.sl qY11))], qi, qi, qn 10, [.c (.p (.sl qY2))], qn 3, [.c (.ptr 0 0)], [.fnS 105 [.ptr 0 0]], qi, qn 2, qb, qn 2, [.c (.p (.sl qY2))], qi, qi, qn 54, qb, qn 2, qb, qn 15])], con96.args, con96.res, qc [qn 2, [.c (.rowN 4 1 [.bool])], qi, qn 84], [(36, [105]), (24, [105])], [(28, [88]), (40, [88])], 8⟩
abbrev g96_6 (J : JT F96) := fun y0 y1 y2 y3 y4 => J 6 (y0, y1, y2, y3, y4, ())
abbrev g96_14 (J : JT F96) := fun y0 y1 y2 y3 y4 y5 y6 y7 y8 y9 y10 => J 14 (y0, y1, y2, y3, y4, y5, y6, y7, y8, y9, y10, ())
abbrev g96_28 (J : JT F96) := fun y0 y1 y2 y3 y4 y5 y6 y7 y8 y9 y10 y11 y12 y13 y14 y15 => J 28 (y0, y1, y2, y3, y4, y5, y6, y7, y8, y9, y10, y11, y12, y13, y14, y15, ())
abbrev g96_40 (J : JT F96) := fun y0 y1 y2 y3 y4 y5 y6 y7 y8 y9 y10 y11 y12 => J 40 (y0, y1, y2, y3, y4, y5, y6, y7, y8, y9, y10, y11, y12, ())
theorem comp96 : compFun prog 96 = some (afOf prog 96) := by kernel_rfl
theorem s96 : ∀ J a0, seg0 (tabL tab96) prog F96 (afOf prog 96) J (a0, ()) = kinds_told_c (g96_6 J) (g96_14 J) (g96_28 J) (g96_40 J) a0 := fun _ _ => by kernel_rfl
theorem s96_6 : ∀ J x0 x1 x2 x3 x4, seg (tabL tab96) prog F96 (afOf prog 96) J 6 (x0, x1, x2, x3, x4, ()) = kinds_told_c6 (g96_6 J) (g96_14 J) (g96_28 J) (g96_40 J) x0 x1 x2 x3 x4 := fun _ _ _ _ _ _ => by kernel_rfl
theorem s96_14 : ∀ J x0 x1 x2 x3 x4 x5 x6 x7 x8 x9 x10, seg (tabL tab96) prog F96 (afOf prog 96) J 14 (x0, x1, x2, x3, x4, x5, x6, x7, x8, x9, x10, ()) = kinds_told_c14 (g96_6 J) (g96_14 J) (g96_28 J) (g96_40 J) x0 x1 x2 x3 x4 x5 x6 x7 x8 x9 x10 := fun _ _ _ _ _ _ _ _ _ _ _ _ => by kernel_rfl
theorem s96_28 : ∀ J x0 x1 x2 x3 x4 x5 x6 x7 x8 x9 x10 x11 x12 x13 x14 x15, seg (tabL tab96) prog F96 (afOf prog 96) J 28 (x0, x1, x2, x3, x4, x5, x6, x7, x8, x9, x10, x11, x12, x13, x14, x15, ()) = kinds_told_c28 (g96_6 J) (g96_14 J) (g96_28 J) (g96_40 J) x0 x1 x2 x3 x4 x5 x6 x7 x8 x9 x10 x11 x12 x13 x14 x15 := fun _ _ _ _ _ _ _ _ _ _ _ _ _ _ _ _ _ => by kernel_rfl
theorem s96_40 : ∀ J x0 x1 x2 x3 x4 x5 x6 x7 x8 x9 x10 x11 x12, seg (tabL tab96) prog F96 (afOf prog 96) J 40 (x0, x1, x2, x3, x4, x5, x6, x7, x8, x9, x10, x11, x12, ()) = kinds_told_c40 (g96_6 J) (g96_14 J) (g96_28 J) (g96_40 J) x0 x1 x2 x3 x4 x5 x6 x7 x8 x9 x10 x11 x12 := fun _ _ _ _ _ _ _ _ _ _ _ _ _ _ => by kernel_rfl
theorem i96 : ∀ n, kinds_told_i6 n = g96_6 (iter (tabL tab96) prog F96 (afOf prog 96) n) ∧ kinds_told_i14 n = g96_14 (iter (tabL tab96) prog F96 (afOf prog 96) n) ∧ kinds_told_i28 n = g96_28 (iter (tabL tab96) prog F96 (afOf prog 96) n) ∧ kinds_told_i40 n = g96_40 (iter (tabL tab96) prog F96 (afOf prog 96) n)
  | 0 => ⟨rfl, rfl, rfl, rfl⟩
  | n + 1 => by
    obtain ⟨h6, h14, h28, h40⟩ := i96 n
    exact ⟨by funext x0 x1 x2 x3 x4; exact ((s96_6 _ x0 x1 x2 x3 x4).trans (by show _ = kinds_told_c6 (kinds_told_i6 n) (kinds_told_i14 n) (kinds_told_i28 n) (kinds_told_i40 n) x0 x1 x2 x3 x4; rw [h6, h14, h28, h40]; try rfl)).symm, by funext x0 x1 x2 x3 x4 x5 x6 x7 x8 x9 x10; exact ((s96_14 _ x0 x1 x2 x3 x4 x5 x6 x7 x8 x9 x10).trans (by show _ = kinds_told_c14 (kinds_told_i6 n) (kinds_told_i14 n) (kinds_told_i28 n) (kinds_told_i40 n) x0 x1 x2 x3 x4 x5 x6 x7 x8 x9 x10; rw [h6, h14, h28, h40]; try rfl)).symm, by funext x0 x1 x2 x3 x4 x5 x6 x7 x8 x9 x10 x11 x12 x13 x14 x15; exact ((s96_28 _ x0 x1 x2 x3 x4 x5 x6 x7 x8 x9 x10 x11 x12 x13 x14 x15).trans (by show _ = kinds_told_c28 (kinds_told_i6 n) (kinds_told_i14 n) (kinds_told_i28 n) (kinds_told_i40 n) x0 x1 x2 x3 x4 x5 x6 x7 x8 x9 x10 x11 x12 x13 x14 x15; rw [h6, h14, h28, h40]; try rfl)).symm, by funext x0 x1 x2 x3 x4 x5 x6 x7 x8 x9 x10 x11 x12; exact ((s96_40 _ x0 x1 x2 x3 x4 x5 x6 x7 x8 x9 x10 x11 x12).trans (by show _ = kinds_told_c40 (kinds_told_i6 n) (kinds_told_i14 n) (kinds_told_i28 n) (kinds_told_i40 n) x0 x1 x2 x3 x4 x5 x6 x7 x8 x9 x10 x11 x12; rw [h6, h14, h28, h40]; try rfl)).symm⟩
theorem cb96 : callable prog 96 = true := by kernel_rfl
theorem tok96 : TabOK prog tab96 := trivial
theorem ok96 : con96.ok prog 96 := fun a r h => by
  obtain ⟨h6, h14, h28, h40⟩ := i96 fuel
  refine fun_spec (f := F96) (tabL_ok tok96) (tabL_cb tok96) (by kernel_rfl) comp96 fuel (a := a) ((s96 _ a.1).trans ?_)
  have h : kinds_told_c (kinds_told_i6 fuel) (kinds_told_i14 fuel) (kinds_told_i28 fuel) (kinds_told_i40 fuel) a.1 = some r := h
  rw [h6, h14, h28, h40] at h
  exact h
def con96p : TCon := ⟨[.c (.sl qY2)], [.c (.p (.sl [.bool])), .c (.p (.int .i64))], fun a => kinds_told a.1⟩
theorem ok96p : con96p.ok prog 96 := fun a r h => TCon.frz (c := con96) ok96 rfl a r h
end Tg

/- Contracts of functions, checked by the kernel. -/
set_option linter.unusedVariables false
set_option maxRecDepth 100000
namespace Tg
open Go.Abs
open Go.Proofs.Tryz (prog)
def con99 : TCon := ⟨[.c (.sl qY2)], [.c (.s 3 1 qY11), .c (.s 3 1 qY11), .c (.p (.bool))], fun a => ref04_Sizes a.1⟩
def tab99 : List (Nat × TCon) := [(106, con106), (107, con107)]
def F99 : TFun := ⟨[11, 2], [(2, qc [[.c (.p (.sl qY2))], qn 4, [.c (.rowN 3 1 qY11)], [.c (.rowN 3 1 qY11)], qn 95]), (4, qc [[.c (.p (.sl qY2))], qn 4, [.c (.rowN 3 1 qY11)], [.c (.rowN 3 1 qY11)], qi, qn 94]), (11, qc [[.c (.p (.sl qY2))], qn 4, [.c (.rowN 3 1 qY11)], [.c (.rowN 3 1 qY11)], qi, qi, qi, qi, qi, qn 90])], con99.args, con99.res, qc [qn 2, [.c (.rowN 3 1 qY11)], [.c (.rowN 3 1 qY11)], qb, qn 97], [], [], 0⟩
abbrev g99_2 (J : JT F99) := fun y0 y1 y2 => J 2 (y0, y1, y2, ())
abbrev g99_4 (J : JT F99) := fun y0 y1 y2 y3 => J 4 (y0, y1, y2, y3, ())
abbrev g99_11 (J : JT F99) := fun y0 y1 y2 y3 y4 y5 y6 y7 => J 11 (y0, y1, y2, y3, y4, y5, y6, y7, ())
theorem comp99 : compFun prog 99 = some (afOf prog 99) := by kernel_rfl
theorem s99 : ∀ J a0, seg0 (tabL tab99) prog F99 (afOf prog 99) J (a0, ()) = ref04_Sizes_c (g99_2 J) (g99_4 J) (g99_11 J) a0 := fun _ _ => by kernel_rfl
theorem s99_2 : ∀ J x0 x1 x2, seg (tabL tab99) prog F99 (afOf prog 99) J 2 (x0, x1, x2, ()) = ref04_Sizes_c2 (g99_2 J) (g99_4 J) (g99_11 J) x0 x1 x2 := fun _ _ _ _ => by kernel_rfl
theorem s99_4 : ∀ J x0 x1 x2 x3, seg (tabL tab99) prog F99 (afOf prog 99) J 4 (x0, x1, x2, x3, ()) = ref04_Sizes_c4 (g99_2 J) (g99_4 J) (g99_11 J) x0 x1 x2 x3 := fun _ _ _ _ _ => by kernel_rfl
theorem s99_11 : ∀ J x0 x1 x2 x3 x4 x5 x6 x7, seg (tabL tab99) prog F99 (afOf prog 99) J 11 (x0, x1, x2, x3, x4, x5, x6, x7, ()) = ref04_Sizes_c11 (g99_2 J) (g99_4 J) (g99_11 J) x0 x1 x2 x3 x4 x5 x6 x7 := fun _ _ _ _ _ _ _ _ _ => by kernel_rfl
theorem i99 : ∀ n, ref04_Sizes_i2 n = g99_2 (iter (tabL tab99) prog F99 (afOf prog 99) n) ∧ ref04_Sizes_i4 n = g99_4 (iter (tabL tab99) prog F99 (afOf prog 99) n) ∧ ref04_Sizes_i11 n = g99_11 (iter (tabL tab99) prog F99 (afOf prog 99) n)
  | 0 => ⟨rfl, rfl, rfl⟩
  | n + 1 => by
    obtain ⟨h2, h4, h11⟩ := i99 n
    exact ⟨by funext x0 x1 x2; exact ((s99_2 _ x0 x1 x2).trans (by show _ = ref04_Sizes_c2 (ref04_Sizes_i2 n) (ref04_Sizes_i4 n) (ref04_Sizes_i11 n) x0 x1 x2; rw [h2, h4, h11]; try rfl)).symm, by funext x0 x1 x2 x3; exact ((s99_4 _ x0 x1 x2 x3).trans (by show _ = ref04_Sizes_c4 (ref04_Sizes_i2 n) (ref04_Sizes_i4 n) (ref04_Sizes_i11 n) x0 x1 x2 x3; rw [h2, h4, h11]; try rfl)).symm, by funext x0 x1 x2 x3 x4 x5 x6 x7; exact ((s99_11 _ x0 x1 x2 x3 x4 x5 x6 x7).trans (by show _ = ref04_Sizes_c11 (ref04_Sizes_i2 n) (ref04_Sizes_i4 n) (ref04_Sizes_i11 n) x0 x1 x2 x3 x4 x5 x6 x7; rw [h2, h4, h11]; try rfl)).symm⟩
theorem cb99 : callable prog 99 = true := by kernel_rfl
theorem tok99 : TabOK prog tab99 := ⟨ok106, cb106, ok107, cb107, trivial⟩
theorem ok99 : con99.ok prog 99 := fun a r h => by
  obtain ⟨h2, h4, h11⟩ := i99 fuel
  refine fun_spec (f := F99) (tabL_ok tok99) (tabL_cb tok99) (by kernel_rfl) comp99 fuel (a := a) ((s99 _ a.1).trans ?_)
  have h : ref04_Sizes_c (ref04_Sizes_i2 fuel) (ref04_Sizes_i4 fuel) (ref04_Sizes_i11 fuel) a.1 = some r := h
  rw [h2, h4, h11] at h
  exact h
def con99p : TCon := ⟨[.c (.sl qY2)], [.c (.p (.sl qY11)), .c (.p (.sl qY11)), .c (.p (.bool))], fun a => ref04_Sizes a.1⟩
theorem ok99p : con99p.ok prog 99 := fun a r h => TCon.frz (c := con99) ok99 rfl a r h
end Tg
