import Derived.Test.YtepkicnfkpclcaaDoorAbsB6
import Derived.Test.YtepkicnfkpclcaaDoorlbA
import Derived.Test.YtepkicnfkpclcaaDoorlbT
import Derived.Test.YtepkicnfkpclcaaDoorGlT
import Derived.Test.YtepkicnfkpclcaaDoorLB
import Derived.Test.YtepkicnfkpclcaaDoorLC
import Derived.Test.YtepkicnfkpclcaaDoorllB5
import Derived.Test.YtepkicnfkpclcaaDoorProg
/- Contracts of functions, checked by the kernel. -/
set_option linter.unusedVariables false
set_option linter.unusedSimpArgs false
set_option maxRecDepth 100000
namespace Tg
open Go.Abs
open Go.Proofs.Tryd (prog)
def con4 : TCon := ⟨[.a [.sl qW1, .sl [.int .i64, .int .i64, .int .i64]], .c (.sl [.int .i64, .int .i64]), .c (.str)], [.c (.p (.bool))], fun a => law45_LinesBack a.1 a.2.1 a.2.2.1⟩
def tab4 : List (Nat × TCon) := [(12, con12), (6, con6), (13, con13), (7, con7), (14, con14), (15, con15), (16, con16), (17, con17), (18, con18), (9, con9), (19, con19)]
def F4 : TFun := ⟨[3, 10, 12, 17, 24, 26], [(3, qc [qn 1, [.c (.p (.sl [.int .i64, .int .i64]))], [.c (.p (.str))], [.boxN 25 2 [.p (.sl qW1), .p (.sl [.int .i64, .int .i64, .int .i64])]], qn 3, qb, qn 133]), (10, qc [qn 1, [.c (.p (.sl [.int .i64, .int .i64]))], [.c (.p (.str))], [.boxN 25 2 [.p (.sl qW1), .p (.sl [.int .i64, .int .i64, .int .i64])]], qn 3, qb, [.c (.p (.str))], qi, [.c (.p (.str))], qi, qn 129]), (12, qc [qn 1, [.c (.p (.sl [.int .i64, .int .i64]))], [.c (.p (.str))], [.boxN 25 2 [.p (.sl qW1), .p (.sl [.int .i64, .int .i64, .int .i64])]], qn 3, qb, [.c (.p (.str))], qi, [.c (.p (.str))], qi, qn 129]), (17, qc [qn 2, [.c (.p (.str))], qn 4, qb, qn 133]), (24, qc [qn 2, [.c (.p (.str))], qn 4, qb, qn 4, [.boxN 25 2 [.rowN 52 5 qW1, .rowN 54 3 [.int .i64, .int .i64, .int .i64]]], qi, [.c (.rowN 83 2 [.int .i64, .int .i64])], qi, qn 125]), (26, qc [qn 2, [.c (.p (.str))], qn 4, qb, qn 4, [.boxN 25 2 [.rowN 52 5 qW1, .rowN 54 3 [.int .i64, .int .i64, .int .i64]]], qi, [.c (.rowN 83 2 [.int .i64, .int .i64])], qi, qn 125])], con4.args, con4.res, qc [qn 6, qb, qn 134], [], [], 0⟩
abbrev g4_3 (J : JT F4) := fun y0 y1 y2 y3 y4 => J 3 (y0, y1, y2, y3, y4, ())
abbrev g4_10 (J : JT F4) := fun y0 y1 y2 y3 y4 y5 y6 y7 y8 => J 10 (y0, y1, y2, y3, y4, y5, y6, y7, y8, ())
abbrev g4_12 (J : JT F4) := fun y0 y1 y2 y3 y4 y5 y6 y7 y8 => J 12 (y0, y1, y2, y3, y4, y5, y6, y7, y8, ())
abbrev g4_17 (J : JT F4) := fun y0 y1 => J 17 (y0, y1, ())
abbrev g4_24 (J : JT F4) := fun y0 y1 y2 y3 y4 y5 y6 => J 24 (y0, y1, y2, y3, y4, y5, y6, ())
abbrev g4_26 (J : JT F4) := fun y0 y1 y2 y3 y4 y5 y6 => J 26 (y0, y1, y2, y3, y4, y5, y6, ())
theorem comp4 : compFun prog 4 = some (afOf prog 4) := by kernel_rfl
theorem s4 : ∀ J a0 a1 a2, seg0 (tabL tab4) prog F4 (afOf prog 4) J (a0, a1, a2, ()) = law45_LinesBack_c (g4_3 J) (g4_10 J) (g4_12 J) (g4_17 J) (g4_24 J) (g4_26 J) a0 a1 a2 := fun _ _ _ _ => by kernel_rfl
theorem s4_3 : ∀ J x0 x1 x2 x3 x4, seg (tabL tab4) prog F4 (afOf prog 4) J 3 (x0, x1, x2, x3, x4, ()) = law45_LinesBack_c3 (g4_3 J) (g4_10 J) (g4_12 J) (g4_17 J) (g4_24 J) (g4_26 J) x0 x1 x2 x3 x4 := fun _ _ _ _ _ _ => by kernel_rfl
theorem s4_10 : ∀ J x0 x1 x2 x3 x4 x5 x6 x7 x8, seg (tabL tab4) prog F4 (afOf prog 4) J 10 (x0, x1, x2, x3, x4, x5, x6, x7, x8, ()) = law45_LinesBack_c10 (g4_3 J) (g4_10 J) (g4_12 J) (g4_17 J) (g4_24 J) (g4_26 J) x0 x1 x2 x3 x4 x5 x6 x7 x8 := fun _ _ _ _ _ _ _ _ _ _ => by kernel_rfl
theorem s4_12 : ∀ J x0 x1 x2 x3 x4 x5 x6 x7 x8, seg (tabL tab4) prog F4 (afOf prog 4) J 12 (x0, x1, x2, x3, x4, x5, x6, x7, x8, ()) = law45_LinesBack_c12 (g4_3 J) (g4_10 J) (g4_12 J) (g4_17 J) (g4_24 J) (g4_26 J) x0 x1 x2 x3 x4 x5 x6 x7 x8 := fun _ _ _ _ _ _ _ _ _ _ => by kernel_rfl
theorem s4_17 : ∀ J x0 x1, seg (tabL tab4) prog F4 (afOf prog 4) J 17 (x0, x1, ()) = law45_LinesBack_c17 (g4_3 J) (g4_10 J) (g4_12 J) (g4_17 J) (g4_24 J) (g4_26 J) x0 x1 := fun _ _ _ => by kernel_rfl
theorem s4_24 : ∀ J x0 x1 x2 x3 x4 x5 x6, seg (tabL tab4) prog F4 (afOf prog 4) J 24 (x0, x1, x2, x3, x4, x5, x6, ()) = law45_LinesBack_c24 (g4_3 J) (g4_10 J) (g4_12 J) (g4_17 J) (g4_24 J) (g4_26 J) x0 x1 x2 x3 x4 x5 x6 := fun _ _ _ _ _ _ _ _ => by kernel_rfl
theorem s4_26 : ∀ J x0 x1 x2 x3 x4 x5 x6, seg (tabL tab4) prog F4 (afOf prog 4) J 26 (x0, x1, x2, x3, x4, x5, x6, ()) = law45_LinesBack_c26 (g4_3 J) (g4_10 J) (g4_12 J) (g4_17 J) (g4_24 J) (g4_26 J) x0 x1 x2 x3 x4 x5 x6 := fun _ _ _ _ _ _ _ _ => by kernel_rfl
theorem i4 : ∀ n, law45_LinesBack_i3 n = g4_3 (iter (tabL tab4) prog F4 (afOf prog 4) n) ∧ law45_LinesBack_i10 n = g4_10 (iter (tabL tab4) prog F4 (afOf prog 4) n) ∧ law45_LinesBack_i12 n = g4_12 (iter (tabL tab4) prog F4 (afOf prog 4) n) ∧ law45_LinesBack_i17 n = g4_17 (iter (tabL tab4) prog F4 (afOf prog 4) n) ∧ law45_LinesBack_i24 n = g4_24 (iter (tabL tab4) prog F4 (afOf prog 4) n) ∧ law45_LinesBack_i26 n = g4_26 (iter (tabL tab4) prog F4 (afOf prog 4) n)
  | 0 => ⟨rfl, rfl, rfl, rfl, rfl, rfl⟩
  | n + 1 => by
    obtain ⟨h3, h10, h12, h17, h24, h26⟩ := i4 n
    exact ⟨by funext x0 x1 x2 x3 x4; exact ((s4_3 _ x0 x1 x2 x3 x4).trans (by show _ = law45_LinesBack_c3 (law45_LinesBack_i3 n) (law45_LinesBack_i10 n) (law45_LinesBack_i12 n) (law45_LinesBack_i17 n) (law45_LinesBack_i24 n) (law45_LinesBack_i26 n) x0 x1 x2 x3 x4; rw [h3, h10, h12, h17, h24, h26]; try rfl)).symm, by funext x0 x1 x2 x3 x4 x5 x6 x7 x8; exact ((s4_10 _ x0 x1 x2 x3 x4 x5 x6 x7 x8).trans (by show _ = law45_LinesBack_c10 (law45_LinesBack_i3 n) (law45_LinesBack_i10 n) (law45_LinesBack_i12 n) (law45_LinesBack_i17 n) (law45_LinesBack_i24 n) (law45_LinesBack_i26 n) x0 x1 x2 x3 x4 x5 x6 x7 x8; rw [h3, h10, h12, h17, h24, h26]; try rfl)).symm, by funext x0 x1 x2 x3 x4 x5 x6 x7 x8; exact ((s4_12 _ x0 x1 x2 x3 x4 x5 x6 x7 x8).trans (by show _ = law45_LinesBack_c12 (law45_LinesBack_i3 n) (law45_LinesBack_i10 n) (law45_LinesBack_i12 n) (law45_LinesBack_i17 n) (law45_LinesBack_i24 n) (law45_LinesBack_i26 n) x0 x1 x2 x3 x4 x5 x6 x7 x8; rw [h3, h10, h12, h17, h24, h26]; try rfl)).symm, by funext x0 x1; exact ((s4_17 _ x0 x1).trans (by show _ = law45_LinesBack_c17 (law45_LinesBack_i3 n) (law45_LinesBack_i10 n) (law45_LinesBack_i12 n) (law45_LinesBack_i17 n) (law45_LinesBack_i24 n) (law45_LinesBack_i26 n) x0 x1; rw [h3, h10, h12, h17, h24, h26]; try rfl)).symm, by funext x0 x1 x2 x3 x4 x5 x6; exact ((s4_24 _ x0 x1 x2 x3 x4 x5 x6).trans (by show _ = law45_LinesBack_c24 (law45_LinesBack_i3 n) (law45_LinesBack_i10 n) (law45_LinesBack_i12 n) (law45_LinesBack_i17 n) (law45_LinesBack_i24 n) (law45_LinesBack_i26 n) x0 x1 x2 x3 x4 x5 x6; rw [h3, h10, h12, h17, h24, h26]; try rfl)).symm, by funext x0 x1 x2 x3 x4 x5 x6; exact ((s4_26 _ x0 x1 x2 x3 x4 x5 x6).trans (by show _ = law45_LinesBack_c26 (law45_LinesBack_i3 n) (law45_LinesBack_i10 n) (law45_LinesBack_i12 n) (law45_LinesBack_i17 n) (law45_LinesBack_i24 n) (law45_LinesBack_i26 n) x0 x1 x2 x3 x4 x5 x6; rw [h3, h10, h12, h17, h24, h26]; try rfl)).symm⟩
theorem cb4 : callable prog 4 = true := by kernel_rfl
theorem tok4 : TabOK prog tab4 := ⟨ok12, cb12, ok6, cb6, ok13, cb13, ok7, cb7, ok14, cb14, ok15, cb15, ok16, cb16, ok17, cb17, ok18, cb18, ok9, cb9, ok19, cb19, trivial⟩
theorem ok4 : con4.ok prog 4 := fun a r h => by
  obtain ⟨h3, h10, h12, h17, h24, h26⟩ := i4 fuel
  refine fun_spec (f := F4) (tabL_ok tok4) (tabL_cb tok4) (by kernel_rfl) comp4 fuel (a := a) ((s4 _ a.1 a.2.1 a.2.2.1).trans ?_)
  have h : law45_LinesBack_c (law45_LinesBack_i3 fuel) (law45_LinesBack_i10 fuel) (law45_LinesBack_i12 fuel) (law45_LinesBack_i17 fuel) (law45_LinesBack_i24 fuel) (law45_LinesBack_i26 fuel) a.1 a.2.1 a.2.2.1 = some r := h
  rw [h3, h10, h12, h17, h24, h26] at h
  exact h
end Tg
