import Derived.Test.YtodnlpaialbceaaGreatDoorLC7
import Derived.Test.YtodnlpaialbceaaGreatDoorLG
/- Contracts of functions, checked by the kernel. -/
set_option linter.unusedVariables false
set_option linter.unusedSimpArgs false
set_option maxRecDepth 100000
namespace Tg
open Go.Abs
open Go.Proofs.Tryz (prog)
def con56 : TCon := ⟨[.c (.str)], [.a [.s 91 5 qX1, .s 96 3 qX2], .c (.p (.int .i64))], fun a => lines_ReadOutputs a.1⟩
def tab56 : List (Nat × TCon) := [(101, con101), (82, con82), (81, con81), (16, con16)]
def F56 : TFun := ⟨[12, 2], [(2, qc [[.c (.p (.str))], qn 1, [.boxN 45 2 [.nil, .nil]], [.boxN 29 1 [.any]], [.boxN 45 2 [.rowN 91 5 qX1, .rowN 96 3 qX2]], qn 54]), (8, qc [[.c (.yl)], [.boxN 9 1 [.p (.str)]], qn 23, [.c (.k 0)], [.c (.p (.str))], qn 1, [.boxN 45 2 [.nil, .nil]], [.boxN 29 1 [.any]], [.boxN 45 2 [.rowN 91 5 qX1, .rowN 96 3 qX2]], qn 54]), (12, qc [[.c (.yl)], [.boxN 9 1 [.p (.str)]], qn 1, [.c (.p (.str))], qn 21, [.c (.k 0)], [.c (.p (.str))], qn 1, [.boxN 45 2 [.nil, .nil]], [.boxN 29 1 [.any]], [.boxN 45 2 [.rowN 91 5 qX1, .rowN 96 3 qX2]], qn 54])], con56.args, con56.res, qc [qn 2, [.boxN 45 2 [.rowN 91 5 qX1, .rowN 96 3 qX2]], [.boxN 29 1 [.p (.int .i64)]], qn 55], [(17, [4294967295]), (7, [100]), (4, [80])], [(8, [1, 59]), (12, [1, 59])], 8⟩
abbrev g56_2 (J : JT F56) := fun y0 y1 y2 => J 2 (y0, y1, y2, ())
abbrev g56_8 (J : JT F56) := fun y0 y1 y2 y3 => J 8 (y0, y1, y2, y3, ())
abbrev g56_12 (J : JT F56) := fun y0 y1 y2 y3 y4 => J 12 (y0, y1, y2, y3, y4, ())
theorem comp56 : compFun prog 56 = some (afOf prog 56) := by kernel_rfl
theorem s56 : ∀ J a0, seg0 (tabL tab56) prog F56 (afOf prog 56) J (a0, ()) = lines_ReadOutputs_c (g56_2 J) (g56_8 J) (g56_12 J) a0 := fun _ _ => by kernel_rfl
theorem s56_2 : ∀ J x0 x1 x2, seg (tabL tab56) prog F56 (afOf prog 56) J 2 (x0, x1, x2, ()) = lines_ReadOutputs_c2 (g56_2 J) (g56_8 J) (g56_12 J) x0 x1 x2 := fun _ _ _ _ => by kernel_rfl
theorem s56_8 : ∀ J x0 x1 x2 x3, seg (tabL tab56) prog F56 (afOf prog 56) J 8 (x0, x1, x2, x3, ()) = lines_ReadOutputs_c8 (g56_2 J) (g56_8 J) (g56_12 J) x0 x1 x2 x3 := fun _ _ _ _ _ => by kernel_rfl
theorem s56_12 : ∀ J x0 x1 x2 x3 x4, seg (tabL tab56) prog F56 (afOf prog 56) J 12 (x0, x1, x2, x3, x4, ()) = lines_ReadOutputs_c12 (g56_2 J) (g56_8 J) (g56_12 J) x0 x1 x2 x3 x4 := fun _ _ _ _ _ _ => by kernel_rfl
theorem i56 : ∀ n, lines_ReadOutputs_i2 n = g56_2 (iter (tabL tab56) prog F56 (afOf prog 56) n) ∧ lines_ReadOutputs_i8 n = g56_8 (iter (tabL tab56) prog F56 (afOf prog 56) n) ∧ lines_ReadOutputs_i12 n = g56_12 (iter (tabL tab56) prog F56 (afOf prog 56) n)
 | 0 => ⟨rfl, rfl, rfl⟩
 | n + 1 => by
  obtain ⟨h2, h8, h12⟩ := i56 n
  exact ⟨by funext x0 x1 x2; exact ((s56_2 _ x0 x1 x2).trans (by show _ = lines_ReadOutputs_c2 (lines_ReadOutputs_i2 n) (lines_ReadOutputs_i8 n) (lines_ReadOutputs_i12 n) x0 x1 x2; rw [h2, h8, h12]; try rfl)).symm, by funext x0 x1 x2 x3; exact ((s56_8 _ x0 x1 x2 x3).trans (by show _ = lines_ReadOutputs_c8 (lines_ReadOutputs_i2 n) (lines_ReadOutputs_i8 n) (lines_ReadOutputs_i12 n) x0 x1 x2 x3; rw [h2, h8, h12]; try rfl)).symm, by funext x0 x1 x2 x3 x4; exact ((s56_12 _ x0 x1 x2 x3 x4).trans (by show _ = lines_ReadOutputs_c12 (lines_ReadOutputs_i2 n) (lines_ReadOutputs_i8 n) (lines_ReadOutputs_i12 n) x0 x1 x2 x3 x4; rw [h2, h8, h12]; try rfl)).symm⟩
theorem cb56 : callable prog 56 = true := by kernel_rfl
theorem tok56 : TabOK prog tab56 := ⟨ok101, cb101, ok82, cb82, ok81, cb81, ok16, cb16, trivial⟩
theorem ok56 : con56.ok prog 56 := fun a r h => by
 obtain ⟨h2, h8, h12⟩ := i56 fuel
 refine fun_spec (f := F56) (tabL_ok tok56) (tabL_cb tok56) (by kernel_rfl) comp56 fuel (a := a) ((s56 _ a.1).trans ?_)
 have h : lines_ReadOutputs_c (lines_ReadOutputs_i2 fuel) (lines_ReadOutputs_i8 fuel) (lines_ReadOutputs_i12 fuel) a.1 = some r := h
 rw [h2, h8, h12] at h
 exact h
def con56p : TCon := ⟨[.c (.str)], [.a [.p (.sl qX1), .p (.sl qX2)], .c (.p (.int .i64))], fun a => lines_ReadOutputs a.1⟩
theorem ok56p : con56p.ok prog 56 := fun a r h => TCon.frz (c := con56) ok56 rfl a r h
end Tg

/- Contracts of functions, checked by the kernel. -/
set_option linter.unusedVariables false
set_option linter.unusedSimpArgs false
set_option maxRecDepth 100000
namespace Tg
open Go.Abs
open Go.Proofs.Tryz (prog)
def con37 : TCon := ⟨[.a [.sl qX1, .sl qX2], .c (.str)], [.c (.p (.bool))], fun a => law45_says a.1 a.2.1⟩
def tab37 : List (Nat × TCon) := [(16, con16), (56, con56p), (17, con17)]
def F37 : TFun := ⟨[], [], con37.args, con37.res, qc [qn 4, qb, qn 30], [], [], 0⟩
theorem comp37 : compFun prog 37 = some (afOf prog 37) := by kernel_rfl
theorem s37 : ∀ J a0 a1, seg0 (tabL tab37) prog F37 (afOf prog 37) J (a0, a1, ()) = law45_says a0 a1 := fun _ _ _ => by kernel_rfl
theorem cb37 : callable prog 37 = true := by kernel_rfl
theorem tok37 : TabOK prog tab37 := ⟨ok16, cb16, ok56p, cb56, ok17, cb17, trivial⟩
theorem ok37 : con37.ok prog 37 := fun a r h => fun_spec (f := F37) (tabL_ok tok37) (tabL_cb tok37) (by kernel_rfl) comp37 0 (a := a) ((s37 _ a.1 a.2.1).trans h)
def con14 : TCon := ⟨[], [.c (.p (.bool))], fun _ => law45_alive⟩
def tab14 : List (Nat × TCon) := [(38, con38), (37, con37), (39, con39)]
def F14 : TFun := ⟨[], [], con14.args, con14.res, qc [qb, qn 10], [], [], 0⟩
theorem comp14 : compFun prog 14 = some (afOf prog 14) := by kernel_rfl
theorem s14 : ∀ J, seg0 (tabL tab14) prog F14 (afOf prog 14) J () = law45_alive := fun _ => by kernel_rfl
theorem cb14 : callable prog 14 = true := by kernel_rfl
theorem tok14 : TabOK prog tab14 := ⟨ok38, cb38, ok37, cb37, ok39, cb39, trivial⟩
theorem ok14 : con14.ok prog 14 := fun a r h => fun_spec (f := F14) (tabL_ok tok14) (tabL_cb tok14) (by kernel_rfl) comp14 0 (a := a) ((s14 _).trans h)
end Tg

/- Contracts of functions, checked by the kernel. -/
set_option linter.unusedVariables false
set_option linter.unusedSimpArgs false
set_option maxRecDepth 100000
namespace Tg
open Go.Abs
open Go.Proofs.Tryz (prog)
def con4 : TCon := ⟨[.a [.sl qX1, .sl qX2], .a [.sl qX1, .sl qX2], .c (.sl [.int .i64, .int .i64]), .c (.sl [.int .i64, .int .i64]), .a [.sl qX3, .sl qX1], .a [.sl qX3, .sl qX1]], [.c (.p (.bool))], fun a => law45_LinesApart a.1 a.2.1 a.2.2.1 a.2.2.2.1 a.2.2.2.2.1 a.2.2.2.2.2.1⟩
def tab4 : List (Nat × TCon) := [(14, con14), (15, con15), (5, con5), (6, con6), (16, con16), (17, con17), (18, con18), (7, con7), (13, con13), (11, con11), (19, con19)]
def F4 : TFun := ⟨[3, 12, 16, 19, 23, 27], [(3, qc [qn 2, [.c (.p (.sl [.int .i64, .int .i64]))], [.c (.p (.sl [.int .i64, .int .i64]))], qn 2, [.boxN 45 2 [.p (.sl qX1), .p (.sl qX2)]], [.boxN 45 2 [.p (.sl qX1), .p (.sl qX2)]], qn 2, [.boxN 26 2 [.p (.sl qX3), .p (.sl qX1)]], [.boxN 26 2 [.p (.sl qX3), .p (.sl qX1)]], qn 1, qb, qn 142]), (12, qc [qn 2, [.c (.p (.sl [.int .i64, .int .i64]))], [.c (.p (.sl [.int .i64, .int .i64]))], qn 2, [.boxN 45 2 [.p (.sl qX1), .p (.sl qX2)]], [.boxN 45 2 [.p (.sl qX1), .p (.sl qX2)]], qn 2, [.boxN 26 2 [.p (.sl qX3), .p (.sl qX1)]], [.boxN 26 2 [.p (.sl qX3), .p (.sl qX1)]], qn 1, qb, [.c (.p (.str))], qi, qn 140]), (16, qc [qn 2, [.c (.p (.sl [.int .i64, .int .i64]))], [.c (.p (.sl [.int .i64, .int .i64]))], qn 6, [.boxN 26 2 [.p (.sl qX3), .p (.sl qX1)]], [.boxN 26 2 [.p (.sl qX3), .p (.sl qX1)]], qn 1, qb, qn 142]), (19, qc [qn 2, [.c (.p (.sl [.int .i64, .int .i64]))], [.c (.p (.sl [.int .i64, .int .i64]))], qn 6, [.boxN 26 2 [.p (.sl qX3), .p (.sl qX1)]], [.boxN 26 2 [.p (.sl qX3), .p (.sl qX1)]], qn 1, qb, qn 4, [.c (.p (.str))], qi, qn 136]), (23, qc [qn 10, [.boxN 26 2 [.p (.sl qX3), .p (.sl qX1)]], [.boxN 26 2 [.p (.sl qX3), .p (.sl qX1)]], qn 1, qb, qn 142]), (27, qc [qn 10, [.boxN 26 2 [.p (.sl qX3), .p (.sl qX1)]], [.boxN 26 2 [.p (.sl qX3), .p (.sl qX1)]], qn 1, qb, qn 8, [.c (.p (.str))], qi, qn 132])], con4.args, con4.res, qc [qn 12, qb, qn 143], [], [], 0⟩
abbrev g4_3 (J : JT F4) := fun y0 y1 y2 y3 y4 y5 y6 y7 y8 y9 y10 => J 3 (y0, y1, y2, y3, y4, y5, y6, y7, y8, y9, y10, ())
abbrev g4_12 (J : JT F4) := fun y0 y1 y2 y3 y4 y5 y6 y7 y8 y9 y10 y11 y12 => J 12 (y0, y1, y2, y3, y4, y5, y6, y7, y8, y9, y10, y11, y12, ())
abbrev g4_16 (J : JT F4) := fun y0 y1 y2 y3 y4 y5 y6 => J 16 (y0, y1, y2, y3, y4, y5, y6, ())
abbrev g4_19 (J : JT F4) := fun y0 y1 y2 y3 y4 y5 y6 y7 y8 => J 19 (y0, y1, y2, y3, y4, y5, y6, y7, y8, ())
abbrev g4_23 (J : JT F4) := fun y0 y1 y2 y3 y4 => J 23 (y0, y1, y2, y3, y4, ())
abbrev g4_27 (J : JT F4) := fun y0 y1 y2 y3 y4 y5 y6 => J 27 (y0, y1, y2, y3, y4, y5, y6, ())
theorem comp4 : compFun prog 4 = some (afOf prog 4) := by kernel_rfl
theorem s4 : ∀ J a0 a1 a2 a3 a4 a5, seg0 (tabL tab4) prog F4 (afOf prog 4) J (a0, a1, a2, a3, a4, a5, ()) = law45_LinesApart_c (g4_3 J) (g4_12 J) (g4_16 J) (g4_19 J) (g4_23 J) (g4_27 J) a0 a1 a2 a3 a4 a5 := fun _ _ _ _ _ _ _ => by kernel_rfl
theorem s4_3 : ∀ J x0 x1 x2 x3 x4 x5 x6 x7 x8 x9 x10, seg (tabL tab4) prog F4 (afOf prog 4) J 3 (x0, x1, x2, x3, x4, x5, x6, x7, x8, x9, x10, ()) = law45_LinesApart_c3 (g4_3 J) (g4_12 J) (g4_16 J) (g4_19 J) (g4_23 J) (g4_27 J) x0 x1 x2 x3 x4 x5 x6 x7 x8 x9 x10 := fun _ _ _ _ _ _ _ _ _ _ _ _ => by kernel_rfl
theorem s4_12 : ∀ J x0 x1 x2 x3 x4 x5 x6 x7 x8 x9 x10 x11 x12, seg (tabL tab4) prog F4 (afOf prog 4) J 12 (x0, x1, x2, x3, x4, x5, x6, x7, x8, x9, x10, x11, x12, ()) = law45_LinesApart_c12 (g4_3 J) (g4_12 J) (g4_16 J) (g4_19 J) (g4_23 J) (g4_27 J) x0 x1 x2 x3 x4 x5 x6 x7 x8 x9 x10 x11 x12 := fun _ _ _ _ _ _ _ _ _ _ _ _ _ _ => by kernel_rfl
theorem s4_16 : ∀ J x0 x1 x2 x3 x4 x5 x6, seg (tabL tab4) prog F4 (afOf prog 4) J 16 (x0, x1, x2, x3, x4, x5, x6, ()) = law45_LinesApart_c16 (g4_3 J) (g4_12 J) (g4_16 J) (g4_19 J) (g4_23 J) (g4_27 J) x0 x1 x2 x3 x4 x5 x6 := fun _ _ _ _ _ _ _ _ => by kernel_rfl
theorem s4_19 : ∀ J x0 x1 x2 x3 x4 x5 x6 x7 x8, seg (tabL tab4) prog F4 (afOf prog 4) J 19 (x0, x1, x2, x3, x4, x5, x6, x7, x8, ()) = law45_LinesApart_c19 (g4_3 J) (g4_12 J) (g4_16 J) (g4_19 J) (g4_23 J) (g4_27 J) x0 x1 x2 x3 x4 x5 x6 x7 x8 := fun _ _ _ _ _ _ _ _ _ _ => by kernel_rfl
theorem s4_23 : ∀ J x0 x1 x2 x3 x4, seg (tabL tab4) prog F4 (afOf prog 4) J 23 (x0, x1, x2, x3, x4, ()) = law45_LinesApart_c23 (g4_3 J) (g4_12 J) (g4_16 J) (g4_19 J) (g4_23 J) (g4_27 J) x0 x1 x2 x3 x4 := fun _ _ _ _ _ _ => by kernel_rfl
theorem s4_27 : ∀ J x0 x1 x2 x3 x4 x5 x6, seg (tabL tab4) prog F4 (afOf prog 4) J 27 (x0, x1, x2, x3, x4, x5, x6, ()) = law45_LinesApart_c27 (g4_3 J) (g4_12 J) (g4_16 J) (g4_19 J) (g4_23 J) (g4_27 J) x0 x1 x2 x3 x4 x5 x6 := fun _ _ _ _ _ _ _ _ => by kernel_rfl
theorem i4 : ∀ n, law45_LinesApart_i3 n = g4_3 (iter (tabL tab4) prog F4 (afOf prog 4) n) ∧ law45_LinesApart_i12 n = g4_12 (iter (tabL tab4) prog F4 (afOf prog 4) n) ∧ law45_LinesApart_i16 n = g4_16 (iter (tabL tab4) prog F4 (afOf prog 4) n) ∧ law45_LinesApart_i19 n = g4_19 (iter (tabL tab4) prog F4 (afOf prog 4) n) ∧ law45_LinesApart_i23 n = g4_23 (iter (tabL tab4) prog F4 (afOf prog 4) n) ∧ law45_LinesApart_i27 n = g4_27 (iter (tabL tab4) prog F4 (afOf prog 4) n)
 | 0 => ⟨rfl, rfl, rfl, rfl, rfl, rfl⟩
 | n + 1 => by
  obtain ⟨h3, h12, h16, h19, h23, h27⟩ := i4 n
  exact ⟨by funext x0 x1 x2 x3 x4 x5 x6 x7 x8 x9 x10; exact ((s4_3 _ x0 x1 x2 x3 x4 x5 x6 x7 x8 x9 x10).trans (by show _ = law45_LinesApart_c3 (law45_LinesApart_i3 n) (law45_LinesApart_i12 n) (law45_LinesApart_i16 n) (law45_LinesApart_i19 n) (law45_LinesApart_i23 n) (law45_LinesApart_i27 n) x0 x1 x2 x3 x4 x5 x6 x7 x8 x9 x10; rw [h3, h12, h16, h19, h23, h27]; try rfl)).symm, by funext x0 x1 x2 x3 x4 x5 x6 x7 x8 x9 x10 x11 x12; exact ((s4_12 _ x0 x1 x2 x3 x4 x5 x6 x7 x8 x9 x10 x11 x12).trans (by show _ = law45_LinesApart_c12 (law45_LinesApart_i3 n) (law45_LinesApart_i12 n) (law45_LinesApart_i16 n) (law45_LinesApart_i19 n) (law45_LinesApart_i23 n) (law45_LinesApart_i27 n) x0 x1 x2 x3 x4 x5 x6 x7 x8 x9 x10 x11 x12; rw [h3, h12, h16, h19, h23, h27]; try rfl)).symm, by funext x0 x1 x2 x3 x4 x5 x6; exact ((s4_16 _ x0 x1 x2 x3 x4 x5 x6).trans (by show _ = law45_LinesApart_c16 (law45_LinesApart_i3 n) (law45_LinesApart_i12 n) (law45_LinesApart_i16 n) (law45_LinesApart_i19 n) (law45_LinesApart_i23 n) (law45_LinesApart_i27 n) x0 x1 x2 x3 x4 x5 x6; rw [h3, h12, h16, h19, h23, h27]; try rfl)).symm, by funext x0 x1 x2 x3 x4 x5 x6 x7 x8; exact ((s4_19 _ x0 x1 x2 x3 x4 x5 x6 x7 x8).trans (by show _ = law45_LinesApart_c19 (law45_LinesApart_i3 n) (law45_LinesApart_i12 n) (law45_LinesApart_i16 n) (law45_LinesApart_i19 n) (law45_LinesApart_i23 n) (law45_LinesApart_i27 n) x0 x1 x2 x3 x4 x5 x6 x7 x8; rw [h3, h12, h16, h19, h23, h27]; try rfl)).symm, by funext x0 x1 x2 x3 x4; exact ((s4_23 _ x0 x1 x2 x3 x4).trans (by show _ = law45_LinesApart_c23 (law45_LinesApart_i3 n) (law45_LinesApart_i12 n) (law45_LinesApart_i16 n) (law45_LinesApart_i19 n) (law45_LinesApart_i23 n) (law45_LinesApart_i27 n) x0 x1 x2 x3 x4; rw [h3, h12, h16, h19, h23, h27]; try rfl)).symm, by funext x0 x1 x2 x3 x4 x5 x6; exact ((s4_27 _ x0 x1 x2 x3 x4 x5 x6).trans (by show _ = law45_LinesApart_c27 (law45_LinesApart_i3 n) (law45_LinesApart_i12 n) (law45_LinesApart_i16 n) (law45_LinesApart_i19 n) (law45_LinesApart_i23 n) (law45_LinesApart_i27 n) x0 x1 x2 x3 x4 x5 x6; rw [h3, h12, h16, h19, h23, h27]; try rfl)).symm⟩
theorem tok4 : TabOK prog tab4 := ⟨ok14, cb14, ok15, cb15, ok5, cb5, ok6, cb6, ok16, cb16, ok17, cb17, ok18, cb18, ok7, cb7, ok13, cb13, ok11, cb11, ok19, cb19, trivial⟩
theorem ok4 : con4.ok prog 4 := fun a r h => by
 obtain ⟨h3, h12, h16, h19, h23, h27⟩ := i4 fuel
 refine fun_spec (f := F4) (tabL_ok tok4) (tabL_cb tok4) (by kernel_rfl) comp4 fuel (a := a) ((s4 _ a.1 a.2.1 a.2.2.1 a.2.2.2.1 a.2.2.2.2.1 a.2.2.2.2.2.1).trans ?_)
 have h : law45_LinesApart_c (law45_LinesApart_i3 fuel) (law45_LinesApart_i12 fuel) (law45_LinesApart_i16 fuel) (law45_LinesApart_i19 fuel) (law45_LinesApart_i23 fuel) (law45_LinesApart_i27 fuel) a.1 a.2.1 a.2.2.1 a.2.2.2.1 a.2.2.2.2.1 a.2.2.2.2.2.1 = some r := h
 rw [h3, h12, h16, h19, h23, h27] at h
 exact h
end Tg
