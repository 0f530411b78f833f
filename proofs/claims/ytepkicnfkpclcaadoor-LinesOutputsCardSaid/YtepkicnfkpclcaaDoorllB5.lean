import Derived.Test.YtepkicnfkpclcaaDoorAbsB6
import Derived.Test.YtepkicnfkpclcaaDoorllA
import Derived.Test.YtepkicnfkpclcaaDoorllT
import Derived.Test.YtepkicnfkpclcaaDoorGlT
import Derived.Test.YtepkicnfkpclcaaDoorLB
import Derived.Test.YtepkicnfkpclcaaDoorLC
import Derived.Test.YtepkicnfkpclcaaDoorProg
import Derived.Test.YtepkicnfkpclcaaDoorllB0
import Derived.Test.YtepkicnfkpclcaaDoorllB3
import Derived.Test.YtepkicnfkpclcaaDoorllB1
/- Contracts of functions, checked by the kernel. -/
set_option linter.unusedVariables false
set_option linter.unusedSimpArgs false
set_option maxRecDepth 100000
namespace Tg
open Go.Abs
open Go.Proofs.Tryd (prog)
def con9 : TCon := ⟨[.c (.str)], [.a [.s 52 5 qY1, .s 54 3 qY2], .c (.p (.int .i64))], fun a => lines_ReadOutputs a.1⟩
def tab9 : List (Nat × TCon) := [(48, con48), (27, con27), (26, con26), (7, con7)]
def F9 : TFun := ⟨[12, 2], [(2, qc [[.c (.p (.str))], qn 1, [.boxN 25 2 [.nil, .nil]], [.boxN 27 1 [.any]], [.boxN 25 2 [.rowN 52 5 qY1, .rowN 54 3 qY2]], qn 54]), (8, qc [[.c (.yl)], [.boxN 9 1 [.p (.str)]], qn 23, [.c (.k 0)], [.c (.p (.str))], qn 1, [.boxN 25 2 [.nil, .nil]], [.boxN 27 1 [.any]], [.boxN 25 2 [.rowN 52 5 qY1, .rowN 54 3 qY2]], qn 54]), (12, qc [[.c (.yl)], [.boxN 9 1 [.p (.str)]], qn 1, [.c (.p (.str))], qn 21, [.c (.k 0)], [.c (.p (.str))], qn 1, [.boxN 25 2 [.nil, .nil]], [.boxN 27 1 [.any]], [.boxN 25 2 [.rowN 52 5 qY1, .rowN 54 3 qY2]], qn 54])], con9.args, con9.res, qc [qn 2, [.boxN 25 2 [.rowN 52 5 qY1, .rowN 54 3 qY2]], [.boxN 27 1 [.p (.int .i64)]], qn 55], [(17, [4294967295]), (7, [47]), (4, [25])], [(8, [1, 59]), (12, [1, 59])], 8⟩
abbrev g9_2 (J : JT F9) := fun y0 y1 y2 => J 2 (y0, y1, y2, ())
abbrev g9_8 (J : JT F9) := fun y0 y1 y2 y3 => J 8 (y0, y1, y2, y3, ())
abbrev g9_12 (J : JT F9) := fun y0 y1 y2 y3 y4 => J 12 (y0, y1, y2, y3, y4, ())
theorem comp9 : compFun prog 9 = some (afOf prog 9) := by kernel_rfl
theorem s9 : ∀ J a0, seg0 (tabL tab9) prog F9 (afOf prog 9) J (a0, ()) = lines_ReadOutputs_c (g9_2 J) (g9_8 J) (g9_12 J) a0 := fun _ _ => by kernel_rfl
theorem s9_2 : ∀ J x0 x1 x2, seg (tabL tab9) prog F9 (afOf prog 9) J 2 (x0, x1, x2, ()) = lines_ReadOutputs_c2 (g9_2 J) (g9_8 J) (g9_12 J) x0 x1 x2 := fun _ _ _ _ => by kernel_rfl
theorem s9_8 : ∀ J x0 x1 x2 x3, seg (tabL tab9) prog F9 (afOf prog 9) J 8 (x0, x1, x2, x3, ()) = lines_ReadOutputs_c8 (g9_2 J) (g9_8 J) (g9_12 J) x0 x1 x2 x3 := fun _ _ _ _ _ => by kernel_rfl
theorem s9_12 : ∀ J x0 x1 x2 x3 x4, seg (tabL tab9) prog F9 (afOf prog 9) J 12 (x0, x1, x2, x3, x4, ()) = lines_ReadOutputs_c12 (g9_2 J) (g9_8 J) (g9_12 J) x0 x1 x2 x3 x4 := fun _ _ _ _ _ _ => by kernel_rfl
theorem i9 : ∀ n, lines_ReadOutputs_i2 n = g9_2 (iter (tabL tab9) prog F9 (afOf prog 9) n) ∧ lines_ReadOutputs_i8 n = g9_8 (iter (tabL tab9) prog F9 (afOf prog 9) n) ∧ lines_ReadOutputs_i12 n = g9_12 (iter (tabL tab9) prog F9 (afOf prog 9) n)
  | 0 => ⟨rfl, rfl, rfl⟩
  | n + 1 => by
    obtain ⟨h2, h8, h12⟩ := i9 n
    exact ⟨by funext x0 x1 x2; exact ((s9_2 _ x0 x1 x2).trans (by show _ = lines_ReadOutputs_c2 (lines_ReadOutputs_i2 n) (lines_ReadOutputs_i8 n) (lines_ReadOutputs_i12 n) x0 x1 x2; rw [h2, h8, h12]; try rfl)).symm, by funext x0 x1 x2 x3; exact ((s9_8 _ x0 x1 x2 x3).trans (by show _ = lines_ReadOutputs_c8 (lines_ReadOutputs_i2 n) (lines_ReadOutputs_i8 n) (lines_ReadOutputs_i12 n) x0 x1 x2 x3; rw [h2, h8, h12]; try rfl)).symm, by funext x0 x1 x2 x3 x4; exact ((s9_12 _ x0 x1 x2 x3 x4).trans (by show _ = lines_ReadOutputs_c12 (lines_ReadOutputs_i2 n) (lines_ReadOutputs_i8 n) (lines_ReadOutputs_i12 n) x0 x1 x2 x3 x4; rw [h2, h8, h12]; try rfl)).symm⟩
theorem cb9 : callable prog 9 = true := by kernel_rfl
theorem tok9 : TabOK prog tab9 := ⟨ok48, cb48, ok27, cb27, ok26, cb26, ok7, cb7, trivial⟩
theorem ok9 : con9.ok prog 9 := fun a r h => by
  obtain ⟨h2, h8, h12⟩ := i9 fuel
  refine fun_spec (f := F9) (tabL_ok tok9) (tabL_cb tok9) (by kernel_rfl) comp9 fuel (a := a) ((s9 _ a.1).trans ?_)
  have h : lines_ReadOutputs_c (lines_ReadOutputs_i2 fuel) (lines_ReadOutputs_i8 fuel) (lines_ReadOutputs_i12 fuel) a.1 = some r := h
  rw [h2, h8, h12] at h
  exact h
def con9p : TCon := ⟨[.c (.str)], [.a [.p (.sl qY1), .p (.sl qY2)], .c (.p (.int .i64))], fun a => lines_ReadOutputs a.1⟩
theorem ok9p : con9p.ok prog 9 := fun a r h => TCon.frz (c := con9) ok9 rfl a r h
end Tg

/- Contracts of functions, checked by the kernel. -/
set_option linter.unusedVariables false
set_option linter.unusedSimpArgs false
set_option maxRecDepth 100000
namespace Tg
open Go.Abs
open Go.Proofs.Tryd (prog)
def con10 : TCon := ⟨[.c (.str)], [.a [.s 52 5 qY1, .s 54 3 qY2], .c (.p (.int .i64))], fun a => ref45_ReadOutputs a.1⟩
def tab10 : List (Nat × TCon) := [(28, con28), (29, con29), (8, con8)]
def F10 : TFun := ⟨[4], [(4, qc [[.c (.p (.str))], qn 1, [.boxN 25 2 [.nil, .nil]], qn 1, [.boxN 25 2 [.rowN 52 5 qY1, .rowN 54 3 qY2]], qn 62]), (6, qc [[.c (.p (.str))], qn 1, [.boxN 25 2 [.nil, .nil]], qn 1, [.boxN 25 2 [.rowN 52 5 qY1, .rowN 54 3 qY2]], [.c (.rowN 9 1 [.str])], qi, qn 60])], con10.args, con10.res, qc [qn 2, [.boxN 25 2 [.rowN 52 5 qY1, .rowN 54 3 qY2]], qi, qn 63], [], [], 0⟩
abbrev g10_4 (J : JT F10) := fun y0 y1 y2 => J 4 (y0, y1, y2, ())
abbrev g10_6 (J : JT F10) := fun y0 y1 y2 y3 y4 => J 6 (y0, y1, y2, y3, y4, ())
theorem comp10 : compFun prog 10 = some (afOf prog 10) := by kernel_rfl
theorem s10 : ∀ J a0, seg0 (tabL tab10) prog F10 (afOf prog 10) J (a0, ()) = ref45_ReadOutputs_c (g10_4 J) (g10_6 J) a0 := fun _ _ => by kernel_rfl
theorem s10_4 : ∀ J x0 x1 x2, seg (tabL tab10) prog F10 (afOf prog 10) J 4 (x0, x1, x2, ()) = ref45_ReadOutputs_c4 (g10_4 J) (g10_6 J) x0 x1 x2 := fun _ _ _ _ => by kernel_rfl
theorem s10_6 : ∀ J x0 x1 x2 x3 x4, seg (tabL tab10) prog F10 (afOf prog 10) J 6 (x0, x1, x2, x3, x4, ()) = ref45_ReadOutputs_c6 (g10_4 J) (g10_6 J) x0 x1 x2 x3 x4 := fun _ _ _ _ _ _ => by kernel_rfl
theorem i10 : ∀ n, ref45_ReadOutputs_i4 n = g10_4 (iter (tabL tab10) prog F10 (afOf prog 10) n) ∧ ref45_ReadOutputs_i6 n = g10_6 (iter (tabL tab10) prog F10 (afOf prog 10) n)
  | 0 => ⟨rfl, rfl⟩
  | n + 1 => by
    obtain ⟨h4, h6⟩ := i10 n
    exact ⟨by funext x0 x1 x2; exact ((s10_4 _ x0 x1 x2).trans (by show _ = ref45_ReadOutputs_c4 (ref45_ReadOutputs_i4 n) (ref45_ReadOutputs_i6 n) x0 x1 x2; rw [h4, h6]; try rfl)).symm, by funext x0 x1 x2 x3 x4; exact ((s10_6 _ x0 x1 x2 x3 x4).trans (by show _ = ref45_ReadOutputs_c6 (ref45_ReadOutputs_i4 n) (ref45_ReadOutputs_i6 n) x0 x1 x2 x3 x4; rw [h4, h6]; try rfl)).symm⟩
theorem cb10 : callable prog 10 = true := by kernel_rfl
theorem tok10 : TabOK prog tab10 := ⟨ok28, cb28, ok29, cb29, ok8, cb8, trivial⟩
theorem ok10 : con10.ok prog 10 := fun a r h => by
  obtain ⟨h4, h6⟩ := i10 fuel
  refine fun_spec (f := F10) (tabL_ok tok10) (tabL_cb tok10) (by kernel_rfl) comp10 fuel (a := a) ((s10 _ a.1).trans ?_)
  have h : ref45_ReadOutputs_c (ref45_ReadOutputs_i4 fuel) (ref45_ReadOutputs_i6 fuel) a.1 = some r := h
  rw [h4, h6] at h
  exact h
def con10p : TCon := ⟨[.c (.str)], [.a [.p (.sl qY1), .p (.sl qY2)], .c (.p (.int .i64))], fun a => ref45_ReadOutputs a.1⟩
theorem ok10p : con10p.ok prog 10 := fun a r h => TCon.frz (c := con10) ok10 rfl a r h
end Tg

/- Contracts of functions, checked by the kernel. -/
set_option linter.unusedVariables false
set_option linter.unusedSimpArgs false
set_option maxRecDepth 100000
namespace Tg
open Go.Abs
open Go.Proofs.Tryd (prog)
def con18 : TCon := ⟨[.c (.sl qY3), .c (.str)], [.c (.p (.bool))], fun a => law45_picks a.1 a.2.1⟩
def tab18 : List (Nat × TCon) := [(14, con14), (19, con19p), (38, con38)]
def F18 : TFun := ⟨[], [], con18.args, con18.res, qc [qn 4, qb, qn 30], [], [], 0⟩
theorem comp18 : compFun prog 18 = some (afOf prog 18) := by kernel_rfl
theorem s18 : ∀ J a0 a1, seg0 (tabL tab18) prog F18 (afOf prog 18) J (a0, a1, ()) = law45_picks a0 a1 := fun _ _ _ => by kernel_rfl
theorem cb18 : callable prog 18 = true := by kernel_rfl
theorem tok18 : TabOK prog tab18 := ⟨ok14, cb14, ok19p, cb19, ok38, cb38, trivial⟩
theorem ok18 : con18.ok prog 18 := fun a r h => fun_spec (f := F18) (tabL_ok tok18) (tabL_cb tok18) (by kernel_rfl) comp18 0 (a := a) ((s18 _ a.1 a.2.1).trans h)
end Tg

/- Contracts of functions, checked by the kernel. -/
set_option linter.unusedVariables false
set_option linter.unusedSimpArgs false
set_option maxRecDepth 100000
namespace Tg
open Go.Abs
open Go.Proofs.Tryd (prog)
def con17 : TCon := ⟨[.a [.sl qY1, .sl qY2], .c (.str)], [.c (.p (.bool))], fun a => law45_says a.1 a.2.1⟩
def tab17 : List (Nat × TCon) := [(7, con7), (9, con9), (11, con11)]
def F17 : TFun := ⟨[], [], con17.args, con17.res, qc [qn 4, qb, qn 30], [], [], 0⟩
theorem comp17 : compFun prog 17 = some (afOf prog 17) := by kernel_rfl
theorem s17 : ∀ J a0 a1, seg0 (tabL tab17) prog F17 (afOf prog 17) J (a0, a1, ()) = law45_says a0 a1 := fun _ _ _ => by kernel_rfl
theorem cb17 : callable prog 17 = true := by kernel_rfl
theorem tok17 : TabOK prog tab17 := ⟨ok7, cb7, ok9, cb9, ok11, cb11, trivial⟩
theorem ok17 : con17.ok prog 17 := fun a r h => fun_spec (f := F17) (tabL_ok tok17) (tabL_cb tok17) (by kernel_rfl) comp17 0 (a := a) ((s17 _ a.1 a.2.1).trans h)
def con12 : TCon := ⟨[], [.c (.p (.bool))], fun _ => law45_alive⟩
def tab12 : List (Nat × TCon) := [(32, con32), (17, con17), (18, con18)]
def F12 : TFun := ⟨[], [], con12.args, con12.res, qc [qb, qn 10], [], [], 0⟩
theorem comp12 : compFun prog 12 = some (afOf prog 12) := by kernel_rfl
theorem s12 : ∀ J, seg0 (tabL tab12) prog F12 (afOf prog 12) J () = law45_alive := fun _ => by kernel_rfl
theorem cb12 : callable prog 12 = true := by kernel_rfl
theorem tok12 : TabOK prog tab12 := ⟨ok32, cb32, ok17, cb17, ok18, cb18, trivial⟩
theorem ok12 : con12.ok prog 12 := fun a r h => fun_spec (f := F12) (tabL_ok tok12) (tabL_cb tok12) (by kernel_rfl) comp12 0 (a := a) ((s12 _).trans h)
def con3 : TCon := ⟨[.a [.sl qY1, .sl qY2], .c (.str)], [.c (.p (.bool))], fun a => law45_LinesOutputs a.1 a.2.1⟩
def tab3 : List (Nat × TCon) := [(6, con6), (7, con7), (8, con8), (9, con9), (10, con10), (11, con11)]
def F3 : TFun := ⟨[], [], con3.args, con3.res, qc [qn 4, qb, qn 53], [], [], 0⟩
theorem comp3 : compFun prog 3 = some (afOf prog 3) := by kernel_rfl
theorem s3 : ∀ J a0 a1, seg0 (tabL tab3) prog F3 (afOf prog 3) J (a0, a1, ()) = law45_LinesOutputs a0 a1 := fun _ _ _ => by kernel_rfl
theorem cb3 : callable prog 3 = true := by kernel_rfl
theorem tok3 : TabOK prog tab3 := ⟨ok6, cb6, ok7, cb7, ok8, cb8, ok9, cb9, ok10, cb10, ok11, cb11, trivial⟩
theorem ok3 : con3.ok prog 3 := fun a r h => fun_spec (f := F3) (tabL_ok tok3) (tabL_cb tok3) (by kernel_rfl) comp3 0 (a := a) ((s3 _ a.1 a.2.1).trans h)
end Tg
