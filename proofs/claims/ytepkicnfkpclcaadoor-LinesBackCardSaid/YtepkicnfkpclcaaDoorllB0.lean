import Derived.Test.YtepkicnfkpclcaaDoorAbsB6
import Derived.Test.YtepkicnfkpclcaaDoorllA
import Derived.Test.YtepkicnfkpclcaaDoorllT
import Derived.Test.YtepkicnfkpclcaaDoorGlT
import Derived.Test.YtepkicnfkpclcaaDoorLB
import Derived.Test.YtepkicnfkpclcaaDoorProg
/- Contracts of functions, checked by the kernel. -/
set_option linter.unusedVariables false
set_option linter.unusedSimpArgs false
set_option maxRecDepth 100000
namespace Tg
open Go.Abs
open Go.Proofs.Tryd (prog)
def con6 : TCon := ⟨[.a [.sl qY1, .sl qY2]], [.c (.p (.bool))], fun a => ref40_Great a.1⟩
def tab6 : List (Nat × TCon) := []
def F6 : TFun := ⟨[], [], con6.args, con6.res, qc [qn 2, qb, qn 34], [], [], 0⟩
theorem comp6 : compFun prog 6 = some (afOf prog 6) := by kernel_rfl
theorem s6 : ∀ J a0, seg0 (tabL tab6) prog F6 (afOf prog 6) J (a0, ()) = ref40_Great a0 := fun _ _ => by kernel_rfl
theorem cb6 : callable prog 6 = true := by kernel_rfl
theorem tok6 : TabOK prog tab6 := trivial
theorem ok6 : con6.ok prog 6 := fun a r h => fun_spec (f := F6) (tabL_ok tok6) (tabL_cb tok6) (by kernel_rfl) comp6 0 (a := a) ((s6 _ a.1).trans h)
def con13 : TCon := ⟨[.c (.sl qY3)], [.c (.p (.bool))], fun a => ref37_Many a.1⟩
def tab13 : List (Nat × TCon) := []
def F13 : TFun := ⟨[], [], con13.args, con13.res, qc [qn 2, qb, qn 13], [], [], 0⟩
theorem comp13 : compFun prog 13 = some (afOf prog 13) := by kernel_rfl
theorem s13 : ∀ J a0, seg0 (tabL tab13) prog F13 (afOf prog 13) J (a0, ()) = ref37_Many a0 := fun _ _ => by kernel_rfl
theorem cb13 : callable prog 13 = true := by kernel_rfl
theorem tok13 : TabOK prog tab13 := trivial
theorem ok13 : con13.ok prog 13 := fun a r h => fun_spec (f := F13) (tabL_ok tok13) (tabL_cb tok13) (by kernel_rfl) comp13 0 (a := a) ((s13 _ a.1).trans h)
def con36 : TCon := ⟨[.a qY1], [.c (.p (.bool))], fun a => ref25_Row a.1⟩
def tab36 : List (Nat × TCon) := []
def F36 : TFun := ⟨[], [], con36.args, con36.res, qc [qn 2, qb, qn 19], [], [], 0⟩
theorem comp36 : compFun prog 36 = some (afOf prog 36) := by kernel_rfl
theorem s36 : ∀ J a0, seg0 (tabL tab36) prog F36 (afOf prog 36) J (a0, ()) = ref25_Row a0 := fun _ _ => by kernel_rfl
theorem cb36 : callable prog 36 = true := by kernel_rfl
theorem tok36 : TabOK prog tab36 := trivial
theorem ok36 : con36.ok prog 36 := fun a r h => fun_spec (f := F36) (tabL_ok tok36) (tabL_cb tok36) (by kernel_rfl) comp36 0 (a := a) ((s36 _ a.1).trans h)
def con37 : TCon := ⟨[.a qY2], [.c (.p (.bool))], fun a => ref25_Right a.1⟩
def tab37 : List (Nat × TCon) := []
def F37 : TFun := ⟨[], [], con37.args, con37.res, qc [qn 2, qb, qn 8], [], [], 0⟩
theorem comp37 : compFun prog 37 = some (afOf prog 37) := by kernel_rfl
theorem s37 : ∀ J a0, seg0 (tabL tab37) prog F37 (afOf prog 37) J (a0, ()) = ref25_Right a0 := fun _ _ => by kernel_rfl
theorem cb37 : callable prog 37 = true := by kernel_rfl
theorem tok37 : TabOK prog tab37 := trivial
theorem ok37 : con37.ok prog 37 := fun a r h => fun_spec (f := F37) (tabL_ok tok37) (tabL_cb tok37) (by kernel_rfl) comp37 0 (a := a) ((s37 _ a.1).trans h)
def con71 : TCon := ⟨[.c (.int .i64)], [.c (.p (.bool))], fun a => ref25_Mark a.1⟩
def tab71 : List (Nat × TCon) := []
def F71 : TFun := ⟨[], [], con71.args, con71.res, qc [qn 2, qb, qn 10], [], [], 0⟩
theorem comp71 : compFun prog 71 = some (afOf prog 71) := by kernel_rfl
theorem s71 : ∀ J a0, seg0 (tabL tab71) prog F71 (afOf prog 71) J (a0, ()) = ref25_Mark a0 := fun _ _ => by kernel_rfl
theorem cb71 : callable prog 71 = true := by kernel_rfl
theorem tok71 : TabOK prog tab71 := trivial
theorem ok71 : con71.ok prog 71 := fun a r h => fun_spec (f := F71) (tabL_ok tok71) (tabL_cb tok71) (by kernel_rfl) comp71 0 (a := a) ((s71 _ a.1).trans h)
def con62 : TCon := ⟨[.c (.int .i64)], [.c (.p (.bool))], fun a => message_isTime a.1⟩
def tab62 : List (Nat × TCon) := []
def F62 : TFun := ⟨[], [], con62.args, con62.res, qc [qn 2, qb, qn 6], [], [], 0⟩
theorem comp62 : compFun prog 62 = some (afOf prog 62) := by kernel_rfl
theorem s62 : ∀ J a0, seg0 (tabL tab62) prog F62 (afOf prog 62) J (a0, ()) = message_isTime a0 := fun _ _ => by kernel_rfl
theorem cb62 : callable prog 62 = true := by kernel_rfl
theorem tok62 : TabOK prog tab62 := trivial
theorem ok62 : con62.ok prog 62 := fun a r h => fun_spec (f := F62) (tabL_ok tok62) (tabL_cb tok62) (by kernel_rfl) comp62 0 (a := a) ((s62 _ a.1).trans h)
def con63 : TCon := ⟨[.c (.int .i64)], [.c (.p (.bool))], fun a => message_isMark a.1⟩
def tab63 : List (Nat × TCon) := [(62, con62)]
def F63 : TFun := ⟨[], [], con63.args, con63.res, qc [qn 2, qb, qn 6], [], [], 0⟩
theorem comp63 : compFun prog 63 = some (afOf prog 63) := by kernel_rfl
theorem s63 : ∀ J a0, seg0 (tabL tab63) prog F63 (afOf prog 63) J (a0, ()) = message_isMark a0 := fun _ _ => by kernel_rfl
theorem cb63 : callable prog 63 = true := by kernel_rfl
theorem tok63 : TabOK prog tab63 := ⟨ok62, cb62, trivial⟩
theorem ok63 : con63.ok prog 63 := fun a r h => fun_spec (f := F63) (tabL_ok tok63) (tabL_cb tok63) (by kernel_rfl) comp63 0 (a := a) ((s63 _ a.1).trans h)
def con15 : TCon := ⟨[.a [.sl qY1, .sl qY2]], [.c (.p (.bool))], fun a => ref45_Right a.1⟩
def tab15 : List (Nat × TCon) := [(36, con36), (37, con37)]
def F15 : TFun := ⟨[1], [(1, qc [qn 1, [.boxN 25 2 [.any, .p (.sl qY2)]], qn 31]), (3, qc [qn 1, [.boxN 25 2 [.p (.sl qY1), .p (.sl qY2)]], qn 1, qi, qn 29]), (12, qc [qn 1, [.boxN 25 2 [.any, .p (.sl qY2)]], qn 2, qi, qn 28])], con15.args, con15.res, qc [qn 2, qb, qn 30], [], [], 0⟩
abbrev g15_1 (J : JT F15) := fun y0 => J 1 (y0, ())
abbrev g15_3 (J : JT F15) := fun y0 y1 y2 => J 3 (y0, y1, y2, ())
abbrev g15_12 (J : JT F15) := fun y0 y1 => J 12 (y0, y1, ())
theorem comp15 : compFun prog 15 = some (afOf prog 15) := by kernel_rfl
theorem s15 : ∀ J a0, seg0 (tabL tab15) prog F15 (afOf prog 15) J (a0, ()) = ref45_Right_c (g15_1 J) (g15_3 J) (g15_12 J) a0 := fun _ _ => by kernel_rfl
theorem s15_1 : ∀ J x0, seg (tabL tab15) prog F15 (afOf prog 15) J 1 (x0, ()) = ref45_Right_c1 (g15_1 J) (g15_3 J) (g15_12 J) x0 := fun _ _ => by kernel_rfl
theorem s15_3 : ∀ J x0 x1 x2, seg (tabL tab15) prog F15 (afOf prog 15) J 3 (x0, x1, x2, ()) = ref45_Right_c3 (g15_1 J) (g15_3 J) (g15_12 J) x0 x1 x2 := fun _ _ _ _ => by kernel_rfl
theorem s15_12 : ∀ J x0 x1, seg (tabL tab15) prog F15 (afOf prog 15) J 12 (x0, x1, ()) = ref45_Right_c12 (g15_1 J) (g15_3 J) (g15_12 J) x0 x1 := fun _ _ _ => by kernel_rfl
theorem i15 : ∀ n, ref45_Right_i1 n = g15_1 (iter (tabL tab15) prog F15 (afOf prog 15) n) ∧ ref45_Right_i3 n = g15_3 (iter (tabL tab15) prog F15 (afOf prog 15) n) ∧ ref45_Right_i12 n = g15_12 (iter (tabL tab15) prog F15 (afOf prog 15) n)
  | 0 => ⟨rfl, rfl, rfl⟩
  | n + 1 => by
    obtain ⟨h1, h3, h12⟩ := i15 n
    exact ⟨by funext x0; exact ((s15_1 _ x0).trans (by show _ = ref45_Right_c1 (ref45_Right_i1 n) (ref45_Right_i3 n) (ref45_Right_i12 n) x0; rw [h1, h3, h12]; try rfl)).symm, by funext x0 x1 x2; exact ((s15_3 _ x0 x1 x2).trans (by show _ = ref45_Right_c3 (ref45_Right_i1 n) (ref45_Right_i3 n) (ref45_Right_i12 n) x0 x1 x2; rw [h1, h3, h12]; try rfl)).symm, by funext x0 x1; exact ((s15_12 _ x0 x1).trans (by show _ = ref45_Right_c12 (ref45_Right_i1 n) (ref45_Right_i3 n) (ref45_Right_i12 n) x0 x1; rw [h1, h3, h12]; try rfl)).symm⟩
theorem cb15 : callable prog 15 = true := by kernel_rfl
theorem tok15 : TabOK prog tab15 := ⟨ok36, cb36, ok37, cb37, trivial⟩
theorem ok15 : con15.ok prog 15 := fun a r h => by
  obtain ⟨h1, h3, h12⟩ := i15 fuel
  refine fun_spec (f := F15) (tabL_ok tok15) (tabL_cb tok15) (by kernel_rfl) comp15 fuel (a := a) ((s15 _ a.1).trans ?_)
  have h : ref45_Right_c (ref45_Right_i1 fuel) (ref45_Right_i3 fuel) (ref45_Right_i12 fuel) a.1 = some r := h
  rw [h1, h3, h12] at h
  exact h
def con30 : TCon := ⟨[.c (.sl qY1), .c (.sl qY1)], [.c (.p (.bool))], fun a => ref34_SameRows a.1 a.2.1⟩
def tab30 : List (Nat × TCon) := []
def F30 : TFun := ⟨[], [(6, qc [[.c (.p (.sl qY1))], [.c (.p (.sl qY1))], qn 3, qi, qn 20])], con30.args, con30.res, qc [qn 4, qb, qn 21], [], [], 0⟩
abbrev g30_6 (J : JT F30) := fun y0 y1 y2 => J 6 (y0, y1, y2, ())
theorem comp30 : compFun prog 30 = some (afOf prog 30) := by kernel_rfl
theorem s30 : ∀ J a0 a1, seg0 (tabL tab30) prog F30 (afOf prog 30) J (a0, a1, ()) = ref34_SameRows_c (g30_6 J) a0 a1 := fun _ _ _ => by kernel_rfl
theorem s30_6 : ∀ J x0 x1 x2, seg (tabL tab30) prog F30 (afOf prog 30) J 6 (x0, x1, x2, ()) = ref34_SameRows_c6 (g30_6 J) x0 x1 x2 := fun _ _ _ _ => by kernel_rfl
theorem i30 : ∀ n, ref34_SameRows_i6 n = g30_6 (iter (tabL tab30) prog F30 (afOf prog 30) n)
  | 0 => rfl
  | n + 1 => by
    obtain h6 := i30 n
    exact by funext x0 x1 x2; exact ((s30_6 _ x0 x1 x2).trans (by show _ = ref34_SameRows_c6 (ref34_SameRows_i6 n) x0 x1 x2; rw [h6]; try rfl)).symm
theorem cb30 : callable prog 30 = true := by kernel_rfl
theorem tok30 : TabOK prog tab30 := trivial
theorem ok30 : con30.ok prog 30 := fun a r h => by
  obtain h6 := i30 fuel
  refine fun_spec (f := F30) (tabL_ok tok30) (tabL_cb tok30) (by kernel_rfl) comp30 fuel (a := a) ((s30 _ a.1 a.2.1).trans ?_)
  have h : ref34_SameRows_c (ref34_SameRows_i6 fuel) a.1 a.2.1 = some r := h
  rw [h6] at h
  exact h
def con31 : TCon := ⟨[.c (.sl qY2), .c (.sl qY2)], [.c (.p (.bool))], fun a => ref34_SameRecords a.1 a.2.1⟩
def tab31 : List (Nat × TCon) := []
def F31 : TFun := ⟨[], [(6, qc [[.c (.p (.sl qY2))], [.c (.p (.sl qY2))], qn 3, qi, qn 20])], con31.args, con31.res, qc [qn 4, qb, qn 21], [], [], 0⟩
abbrev g31_6 (J : JT F31) := fun y0 y1 y2 => J 6 (y0, y1, y2, ())
theorem comp31 : compFun prog 31 = some (afOf prog 31) := by kernel_rfl
theorem s31 : ∀ J a0 a1, seg0 (tabL tab31) prog F31 (afOf prog 31) J (a0, a1, ()) = ref34_SameRecords_c (g31_6 J) a0 a1 := fun _ _ _ => by kernel_rfl
theorem s31_6 : ∀ J x0 x1 x2, seg (tabL tab31) prog F31 (afOf prog 31) J 6 (x0, x1, x2, ()) = ref34_SameRecords_c6 (g31_6 J) x0 x1 x2 := fun _ _ _ _ => by kernel_rfl
theorem i31 : ∀ n, ref34_SameRecords_i6 n = g31_6 (iter (tabL tab31) prog F31 (afOf prog 31) n)
  | 0 => rfl
  | n + 1 => by
    obtain h6 := i31 n
    exact by funext x0 x1 x2; exact ((s31_6 _ x0 x1 x2).trans (by show _ = ref34_SameRecords_c6 (ref34_SameRecords_i6 n) x0 x1 x2; rw [h6]; try rfl)).symm
theorem cb31 : callable prog 31 = true := by kernel_rfl
theorem tok31 : TabOK prog tab31 := trivial
theorem ok31 : con31.ok prog 31 := fun a r h => by
  obtain h6 := i31 fuel
  refine fun_spec (f := F31) (tabL_ok tok31) (tabL_cb tok31) (by kernel_rfl) comp31 fuel (a := a) ((s31 _ a.1 a.2.1).trans ?_)
  have h : ref34_SameRecords_c (ref34_SameRecords_i6 fuel) a.1 a.2.1 = some r := h
  rw [h6] at h
  exact h
def con11 : TCon := ⟨[.a [.sl qY1, .sl qY2], .a [.sl qY1, .sl qY2]], [.c (.p (.bool))], fun a => ref40_Equal a.1 a.2.1⟩
def tab11 : List (Nat × TCon) := [(30, con30), (31, con31)]
def F11 : TFun := ⟨[], [], con11.args, con11.res, qc [qn 4, qb, qn 12], [], [], 0⟩
theorem comp11 : compFun prog 11 = some (afOf prog 11) := by kernel_rfl
theorem s11 : ∀ J a0 a1, seg0 (tabL tab11) prog F11 (afOf prog 11) J (a0, a1, ()) = ref40_Equal a0 a1 := fun _ _ _ => by kernel_rfl
theorem cb11 : callable prog 11 = true := by kernel_rfl
theorem tok11 : TabOK prog tab11 := ⟨ok30, cb30, ok31, cb31, trivial⟩
theorem ok11 : con11.ok prog 11 := fun a r h => fun_spec (f := F11) (tabL_ok tok11) (tabL_cb tok11) (by kernel_rfl) comp11 0 (a := a) ((s11 _ a.1 a.2.1).trans h)
def con32 : TCon := ⟨[], [.a [.p (.int .i64), .p (.int .i64), .p (.int .i64), .p (.int .i64), .p (.int .i64)]], fun _ => law45_row⟩
def tab32 : List (Nat × TCon) := []
def F32 : TFun := ⟨[], [], con32.args, con32.res, qc [[.boxN 52 5 [.p (.int .i64), .p (.int .i64), .p (.int .i64), .p (.int .i64), .p (.int .i64)]], qn 3], [], [], 0⟩
theorem comp32 : compFun prog 32 = some (afOf prog 32) := by kernel_rfl
theorem s32 : ∀ J, seg0 (tabL tab32) prog F32 (afOf prog 32) J () = law45_row := fun _ => by kernel_rfl
theorem cb32 : callable prog 32 = true := by kernel_rfl
theorem tok32 : TabOK prog tab32 := trivial
theorem ok32 : con32.ok prog 32 := fun a r h => fun_spec (f := F32) (tabL_ok tok32) (tabL_cb tok32) (by kernel_rfl) comp32 0 (a := a) ((s32 _).trans h)
def con16 : TCon := ⟨[.c (.sl qY3)], [.c (.p (.int .i64))], fun a => ref37_Check a.1⟩
def tab16 : List (Nat × TCon) := []
def F16 : TFun := ⟨[], [(6, qc [[.c (.p (.sl qY3))], qn 2, qi, qn 39])], con16.args, con16.res, qc [qn 2, qi, qn 40], [], [], 0⟩
abbrev g16_6 (J : JT F16) := fun y0 y1 => J 6 (y0, y1, ())
theorem comp16 : compFun prog 16 = some (afOf prog 16) := by kernel_rfl
theorem s16 : ∀ J a0, seg0 (tabL tab16) prog F16 (afOf prog 16) J (a0, ()) = ref37_Check_c (g16_6 J) a0 := fun _ _ => by kernel_rfl
theorem s16_6 : ∀ J x0 x1, seg (tabL tab16) prog F16 (afOf prog 16) J 6 (x0, x1, ()) = ref37_Check_c6 (g16_6 J) x0 x1 := fun _ _ _ => by kernel_rfl
theorem i16 : ∀ n, ref37_Check_i6 n = g16_6 (iter (tabL tab16) prog F16 (afOf prog 16) n)
  | 0 => rfl
  | n + 1 => by
    obtain h6 := i16 n
    exact by funext x0 x1; exact ((s16_6 _ x0 x1).trans (by show _ = ref37_Check_c6 (ref37_Check_i6 n) x0 x1; rw [h6]; try rfl)).symm
theorem cb16 : callable prog 16 = true := by kernel_rfl
theorem tok16 : TabOK prog tab16 := trivial
theorem ok16 : con16.ok prog 16 := fun a r h => by
  obtain h6 := i16 fuel
  refine fun_spec (f := F16) (tabL_ok tok16) (tabL_cb tok16) (by kernel_rfl) comp16 fuel (a := a) ((s16 _ a.1).trans ?_)
  have h : ref37_Check_c (ref37_Check_i6 fuel) a.1 = some r := h
  rw [h6] at h
  exact h
def con38 : TCon := ⟨[.c (.sl qY3), .c (.sl qY3)], [.c (.p (.bool))], fun a => ref45_SamePicks a.1 a.2.1⟩
def tab38 : List (Nat × TCon) := []
def F38 : TFun := ⟨[], [(6, qc [[.c (.p (.sl qY3))], [.c (.p (.sl qY3))], qn 3, qi, qn 20])], con38.args, con38.res, qc [qn 4, qb, qn 21], [], [], 0⟩
abbrev g38_6 (J : JT F38) := fun y0 y1 y2 => J 6 (y0, y1, y2, ())
theorem comp38 : compFun prog 38 = some (afOf prog 38) := by kernel_rfl
theorem s38 : ∀ J a0 a1, seg0 (tabL tab38) prog F38 (afOf prog 38) J (a0, a1, ()) = ref45_SamePicks_c (g38_6 J) a0 a1 := fun _ _ _ => by kernel_rfl
theorem s38_6 : ∀ J x0 x1 x2, seg (tabL tab38) prog F38 (afOf prog 38) J 6 (x0, x1, x2, ()) = ref45_SamePicks_c6 (g38_6 J) x0 x1 x2 := fun _ _ _ _ => by kernel_rfl
theorem i38 : ∀ n, ref45_SamePicks_i6 n = g38_6 (iter (tabL tab38) prog F38 (afOf prog 38) n)
  | 0 => rfl
  | n + 1 => by
    obtain h6 := i38 n
    exact by funext x0 x1 x2; exact ((s38_6 _ x0 x1 x2).trans (by show _ = ref45_SamePicks_c6 (ref45_SamePicks_i6 n) x0 x1 x2; rw [h6]; try rfl)).symm
theorem cb38 : callable prog 38 = true := by kernel_rfl
theorem tok38 : TabOK prog tab38 := trivial
theorem ok38 : con38.ok prog 38 := fun a r h => by
  obtain h6 := i38 fuel
  refine fun_spec (f := F38) (tabL_ok tok38) (tabL_cb tok38) (by kernel_rfl) comp38 fuel (a := a) ((s38 _ a.1 a.2.1).trans ?_)
  have h : ref45_SamePicks_c (ref45_SamePicks_i6 fuel) a.1 a.2.1 = some r := h
  rw [h6] at h
  exact h
def con23 : TCon := ⟨[.c (.sl [.str])], [.c (.p (.str))], fun a => ref45_Joined a.1⟩
def tab23 : List (Nat × TCon) := []
def F23 : TFun := ⟨[], [(4, qc [[.c (.p (.sl [.str]))], qn 2, [.c (.p (.str))], qi, qn 14])], con23.args, con23.res, qc [qn 2, [.c (.p (.str))], qn 16], [], [], 0⟩
abbrev g23_4 (J : JT F23) := fun y0 y1 y2 => J 4 (y0, y1, y2, ())
theorem comp23 : compFun prog 23 = some (afOf prog 23) := by kernel_rfl
theorem s23 : ∀ J a0, seg0 (tabL tab23) prog F23 (afOf prog 23) J (a0, ()) = ref45_Joined_c (g23_4 J) a0 := fun _ _ => by kernel_rfl
theorem s23_4 : ∀ J x0 x1 x2, seg (tabL tab23) prog F23 (afOf prog 23) J 4 (x0, x1, x2, ()) = ref45_Joined_c4 (g23_4 J) x0 x1 x2 := fun _ _ _ _ => by kernel_rfl
theorem i23 : ∀ n, ref45_Joined_i4 n = g23_4 (iter (tabL tab23) prog F23 (afOf prog 23) n)
  | 0 => rfl
  | n + 1 => by
    obtain h4 := i23 n
    exact by funext x0 x1 x2; exact ((s23_4 _ x0 x1 x2).trans (by show _ = ref45_Joined_c4 (ref45_Joined_i4 n) x0 x1 x2; rw [h4]; try rfl)).symm
theorem cb23 : callable prog 23 = true := by kernel_rfl
theorem tok23 : TabOK prog tab23 := trivial
theorem ok23 : con23.ok prog 23 := fun a r h => by
  obtain h4 := i23 fuel
  refine fun_spec (f := F23) (tabL_ok tok23) (tabL_cb tok23) (by kernel_rfl) comp23 fuel (a := a) ((s23 _ a.1).trans ?_)
  have h : ref45_Joined_c (ref45_Joined_i4 fuel) a.1 = some r := h
  rw [h4] at h
  exact h
def con28 : TCon := ⟨[.c (.str), .c (.int .u8)], [.c (.s 9 1 [.str])], fun a => ref45_Split a.1 a.2.1⟩
def tab28 : List (Nat × TCon) := []
def F28 : TFun := ⟨[], [(5, qc [[.c (.p (.str))], [.c (.p (.int .u8))], qn 3, [.c (.rowN 9 1 [.str])], qi, qi, qn 21])], con28.args, con28.res, qc [qn 4, [.c (.rowN 9 1 [.str])], qn 24], [], [], 0⟩
abbrev g28_5 (J : JT F28) := fun y0 y1 y2 y3 y4 => J 5 (y0, y1, y2, y3, y4, ())
theorem comp28 : compFun prog 28 = some (afOf prog 28) := by kernel_rfl
theorem s28 : ∀ J a0 a1, seg0 (tabL tab28) prog F28 (afOf prog 28) J (a0, a1, ()) = ref45_Split_c (g28_5 J) a0 a1 := fun _ _ _ => by kernel_rfl
theorem s28_5 : ∀ J x0 x1 x2 x3 x4, seg (tabL tab28) prog F28 (afOf prog 28) J 5 (x0, x1, x2, x3, x4, ()) = ref45_Split_c5 (g28_5 J) x0 x1 x2 x3 x4 := fun _ _ _ _ _ _ => by kernel_rfl
theorem i28 : ∀ n, ref45_Split_i5 n = g28_5 (iter (tabL tab28) prog F28 (afOf prog 28) n)
  | 0 => rfl
  | n + 1 => by
    obtain h5 := i28 n
    exact by funext x0 x1 x2 x3 x4; exact ((s28_5 _ x0 x1 x2 x3 x4).trans (by show _ = ref45_Split_c5 (ref45_Split_i5 n) x0 x1 x2 x3 x4; rw [h5]; try rfl)).symm
theorem cb28 : callable prog 28 = true := by kernel_rfl
theorem tok28 : TabOK prog tab28 := trivial
theorem ok28 : con28.ok prog 28 := fun a r h => by
  obtain h5 := i28 fuel
  refine fun_spec (f := F28) (tabL_ok tok28) (tabL_cb tok28) (by kernel_rfl) comp28 fuel (a := a) ((s28 _ a.1 a.2.1).trans ?_)
  have h : ref45_Split_c (ref45_Split_i5 fuel) a.1 a.2.1 = some r := h
  rw [h5] at h
  exact h
def con28p : TCon := ⟨[.c (.str), .c (.int .u8)], [.c (.p (.sl [.str]))], fun a => ref45_Split a.1 a.2.1⟩
theorem ok28p : con28p.ok prog 28 := fun a r h => TCon.frz (c := con28) ok28 rfl a r h
def con52 : TCon := ⟨[.c (.str)], [.c (.p (.int .i64))], fun a => ref25_number a.1⟩
def tab52 : List (Nat × TCon) := []
def F52 : TFun := ⟨[2], [(2, qc [[.c (.p (.str))], qn 2, qi, qn 34]), (4, qc [[.c (.p (.str))], qn 2, qi, qi, qn 33])], con52.args, con52.res, qc [qn 2, qi, qn 35], [], [], 0⟩
abbrev g52_2 (J : JT F52) := fun y0 y1 => J 2 (y0, y1, ())
abbrev g52_4 (J : JT F52) := fun y0 y1 y2 => J 4 (y0, y1, y2, ())
theorem comp52 : compFun prog 52 = some (afOf prog 52) := by kernel_rfl
theorem s52 : ∀ J a0, seg0 (tabL tab52) prog F52 (afOf prog 52) J (a0, ()) = ref25_number_c (g52_2 J) (g52_4 J) a0 := fun _ _ => by kernel_rfl
theorem s52_2 : ∀ J x0 x1, seg (tabL tab52) prog F52 (afOf prog 52) J 2 (x0, x1, ()) = ref25_number_c2 (g52_2 J) (g52_4 J) x0 x1 := fun _ _ _ => by kernel_rfl
theorem s52_4 : ∀ J x0 x1 x2, seg (tabL tab52) prog F52 (afOf prog 52) J 4 (x0, x1, x2, ()) = ref25_number_c4 (g52_2 J) (g52_4 J) x0 x1 x2 := fun _ _ _ _ => by kernel_rfl
theorem i52 : ∀ n, ref25_number_i2 n = g52_2 (iter (tabL tab52) prog F52 (afOf prog 52) n) ∧ ref25_number_i4 n = g52_4 (iter (tabL tab52) prog F52 (afOf prog 52) n)
  | 0 => ⟨rfl, rfl⟩
  | n + 1 => by
    obtain ⟨h2, h4⟩ := i52 n
    exact ⟨by funext x0 x1; exact ((s52_2 _ x0 x1).trans (by show _ = ref25_number_c2 (ref25_number_i2 n) (ref25_number_i4 n) x0 x1; rw [h2, h4]; try rfl)).symm, by funext x0 x1 x2; exact ((s52_4 _ x0 x1 x2).trans (by show _ = ref25_number_c4 (ref25_number_i2 n) (ref25_number_i4 n) x0 x1 x2; rw [h2, h4]; try rfl)).symm⟩
theorem cb52 : callable prog 52 = true := by kernel_rfl
theorem tok52 : TabOK prog tab52 := trivial
theorem ok52 : con52.ok prog 52 := fun a r h => by
  obtain ⟨h2, h4⟩ := i52 fuel
  refine fun_spec (f := F52) (tabL_ok tok52) (tabL_cb tok52) (by kernel_rfl) comp52 fuel (a := a) ((s52 _ a.1).trans ?_)
  have h : ref25_number_c (ref25_number_i2 fuel) (ref25_number_i4 fuel) a.1 = some r := h
  rw [h2, h4] at h
  exact h
/- internal/stringslite.HasSuffix -/
def con70 : TCon := ⟨[.c (.str), .c (.str)], [.c (.p (.bool))], fun a => internal_stringslite_HasSuffix a.1 a.2.1⟩
def tab70 : List (Nat × TCon) := []
def F70 : TFun := ⟨[], [], con70.args, con70.res, qc [qn 4, qb, qn 16], [], [], 0⟩
theorem comp70 : compFun prog 70 = some (afOf prog 70) := by kernel_rfl
theorem s70 : ∀ J a0 a1, seg0 (tabL tab70) prog F70 (afOf prog 70) J (a0, a1, ()) = internal_stringslite_HasSuffix a0 a1 := fun _ _ _ => by kernel_rfl
theorem cb70 : callable prog 70 = true := by kernel_rfl
theorem tok70 : TabOK prog tab70 := trivial
theorem ok70 : con70.ok prog 70 := fun a r h => fun_spec (f := F70) (tabL_ok tok70) (tabL_cb tok70) (by kernel_rfl) comp70 0 (a := a) ((s70 _ a.1 a.2.1).trans h)
/- internal/stringslite.TrimSuffix -/
def con51 : TCon := ⟨[.c (.str), .c (.str)], [.c (.p (.str))], fun a => internal_stringslite_TrimSuffix a.1 a.2.1⟩
def tab51 : List (Nat × TCon) := [(70, con70)]
def F51 : TFun := ⟨[], [], con51.args, con51.res, qc [qn 4, [.c (.p (.str))], qn 11], [], [], 0⟩
theorem comp51 : compFun prog 51 = some (afOf prog 51) := by kernel_rfl
theorem s51 : ∀ J a0 a1, seg0 (tabL tab51) prog F51 (afOf prog 51) J (a0, a1, ()) = internal_stringslite_TrimSuffix a0 a1 := fun _ _ _ => by kernel_rfl
theorem cb51 : callable prog 51 = true := by kernel_rfl
theorem tok51 : TabOK prog tab51 := ⟨ok70, cb70, trivial⟩
theorem ok51 : con51.ok prog 51 := fun a r h => fun_spec (f := F51) (tabL_ok tok51) (tabL_cb tok51) (by kernel_rfl) comp51 0 (a := a) ((s51 _ a.1 a.2.1).trans h)
/- strings.TrimSuffix -/
def con27 : TCon := ⟨[.c (.str), .c (.str)], [.c (.p (.str))], fun a => strings_TrimSuffix a.1 a.2.1⟩
def tab27 : List (Nat × TCon) := [(51, con51)]
def F27 : TFun := ⟨[], [], con27.args, con27.res, qc [qn 4, [.c (.p (.str))], qn 3], [], [], 0⟩
theorem comp27 : compFun prog 27 = some (afOf prog 27) := by kernel_rfl
theorem s27 : ∀ J a0 a1, seg0 (tabL tab27) prog F27 (afOf prog 27) J (a0, a1, ()) = strings_TrimSuffix a0 a1 := fun _ _ _ => by kernel_rfl
theorem cb27 : callable prog 27 = true := by kernel_rfl
theorem tok27 : TabOK prog tab27 := ⟨ok51, cb51, trivial⟩
theorem ok27 : con27.ok prog 27 := fun a r h => fun_spec (f := F27) (tabL_ok tok27) (tabL_cb tok27) (by kernel_rfl) comp27 0 (a := a) ((s27 _ a.1 a.2.1).trans h)
def con66 : TCon := ⟨[.c (.str), .c (.sl [.int .i64])], [.c (.p (.str))], fun a => ref25_said a.1 a.2.1⟩
def tab66 : List (Nat × TCon) := [(88, con88)]
def F66 : TFun := ⟨[], [(3, qc [[.c (.p (.str))], [.c (.p (.sl [.int .i64]))], qn 3, qi, qn 15])], con66.args, con66.res, qc [qn 4, [.c (.p (.str))], qn 16], [], [], 0⟩
abbrev g66_3 (J : JT F66) := fun y0 y1 y2 => J 3 (y0, y1, y2, ())
theorem comp66 : compFun prog 66 = some (afOf prog 66) := by kernel_rfl
theorem s66 : ∀ J a0 a1, seg0 (tabL tab66) prog F66 (afOf prog 66) J (a0, a1, ()) = ref25_said_c (g66_3 J) a0 a1 := fun _ _ _ => by kernel_rfl
theorem s66_3 : ∀ J x0 x1 x2, seg (tabL tab66) prog F66 (afOf prog 66) J 3 (x0, x1, x2, ()) = ref25_said_c3 (g66_3 J) x0 x1 x2 := fun _ _ _ _ => by kernel_rfl
theorem i66 : ∀ n, ref25_said_i3 n = g66_3 (iter (tabL tab66) prog F66 (afOf prog 66) n)
  | 0 => rfl
  | n + 1 => by
    obtain h3 := i66 n
    exact by funext x0 x1 x2; exact ((s66_3 _ x0 x1 x2).trans (by show _ = ref25_said_c3 (ref25_said_i3 n) x0 x1 x2; rw [h3]; try rfl)).symm
theorem cb66 : callable prog 66 = true := by kernel_rfl
theorem tok66 : TabOK prog tab66 := ⟨ok88, cb88, trivial⟩
theorem ok66 : con66.ok prog 66 := fun a r h => by
  obtain h3 := i66 fuel
  refine fun_spec (f := F66) (tabL_ok tok66) (tabL_cb tok66) (by kernel_rfl) comp66 fuel (a := a) ((s66 _ a.1 a.2.1).trans ?_)
  have h : ref25_said_c (ref25_said_i3 fuel) a.1 a.2.1 = some r := h
  rw [h3] at h
  exact h
def con46 : TCon := ⟨[.a qY4], [.c (.p (.str))], fun a => ref25_Written a.1⟩
def tab46 : List (Nat × TCon) := [(66, con66)]
def F46 : TFun := ⟨[], [], con46.args, con46.res, qc [qn 2, [.c (.p (.str))], qn 50], [], [], 0⟩
theorem comp46 : compFun prog 46 = some (afOf prog 46) := by kernel_rfl
theorem s46 : ∀ J a0, seg0 (tabL tab46) prog F46 (afOf prog 46) J (a0, ()) = ref25_Written a0 := fun _ _ => by kernel_rfl
theorem cb46 : callable prog 46 = true := by kernel_rfl
theorem tok46 : TabOK prog tab46 := ⟨ok66, cb66, trivial⟩
theorem ok46 : con46.ok prog 46 := fun a r h => fun_spec (f := F46) (tabL_ok tok46) (tabL_cb tok46) (by kernel_rfl) comp46 0 (a := a) ((s46 _ a.1).trans h)
def con24 : TCon := ⟨[.a [.sl qY1, .sl qY2]], [.c (.s 9 1 [.str])], fun a => ref45_Told a.1⟩
def tab24 : List (Nat × TCon) := [(46, con46)]
def F24 : TFun := ⟨[2], [(2, qc [qn 1, [.boxN 25 2 [.any, .p (.sl qY2)]], qn 1, [.c (.rowN 9 1 [.str])], qn 37]), (4, qc [qn 1, [.boxN 25 2 [.p (.sl qY1), .p (.sl qY2)]], qn 1, [.c (.rowN 9 1 [.str])], qi, qn 36]), (11, qc [qn 1, [.boxN 25 2 [.any, .p (.sl qY2)]], qn 1, [.c (.rowN 9 1 [.str])], qn 1, qi, qn 35])], con24.args, con24.res, qc [qn 2, [.c (.rowN 9 1 [.str])], qn 38], [], [], 0⟩
abbrev g24_2 (J : JT F24) := fun y0 y1 => J 2 (y0, y1, ())
abbrev g24_4 (J : JT F24) := fun y0 y1 y2 y3 => J 4 (y0, y1, y2, y3, ())
abbrev g24_11 (J : JT F24) := fun y0 y1 y2 => J 11 (y0, y1, y2, ())
theorem comp24 : compFun prog 24 = some (afOf prog 24) := by kernel_rfl
theorem s24 : ∀ J a0, seg0 (tabL tab24) prog F24 (afOf prog 24) J (a0, ()) = ref45_Told_c (g24_2 J) (g24_4 J) (g24_11 J) a0 := fun _ _ => by kernel_rfl
theorem s24_2 : ∀ J x0 x1, seg (tabL tab24) prog F24 (afOf prog 24) J 2 (x0, x1, ()) = ref45_Told_c2 (g24_2 J) (g24_4 J) (g24_11 J) x0 x1 := fun _ _ _ => by kernel_rfl
theorem s24_4 : ∀ J x0 x1 x2 x3, seg (tabL tab24) prog F24 (afOf prog 24) J 4 (x0, x1, x2, x3, ()) = ref45_Told_c4 (g24_2 J) (g24_4 J) (g24_11 J) x0 x1 x2 x3 := fun _ _ _ _ _ => by kernel_rfl
theorem s24_11 : ∀ J x0 x1 x2, seg (tabL tab24) prog F24 (afOf prog 24) J 11 (x0, x1, x2, ()) = ref45_Told_c11 (g24_2 J) (g24_4 J) (g24_11 J) x0 x1 x2 := fun _ _ _ _ => by kernel_rfl
theorem i24 : ∀ n, ref45_Told_i2 n = g24_2 (iter (tabL tab24) prog F24 (afOf prog 24) n) ∧ ref45_Told_i4 n = g24_4 (iter (tabL tab24) prog F24 (afOf prog 24) n) ∧ ref45_Told_i11 n = g24_11 (iter (tabL tab24) prog F24 (afOf prog 24) n)
  | 0 => ⟨rfl, rfl, rfl⟩
  | n + 1 => by
    obtain ⟨h2, h4, h11⟩ := i24 n
    exact ⟨by funext x0 x1; exact ((s24_2 _ x0 x1).trans (by show _ = ref45_Told_c2 (ref45_Told_i2 n) (ref45_Told_i4 n) (ref45_Told_i11 n) x0 x1; rw [h2, h4, h11]; try rfl)).symm, by funext x0 x1 x2 x3; exact ((s24_4 _ x0 x1 x2 x3).trans (by show _ = ref45_Told_c4 (ref45_Told_i2 n) (ref45_Told_i4 n) (ref45_Told_i11 n) x0 x1 x2 x3; rw [h2, h4, h11]; try rfl)).symm, by funext x0 x1 x2; exact ((s24_11 _ x0 x1 x2).trans (by show _ = ref45_Told_c11 (ref45_Told_i2 n) (ref45_Told_i4 n) (ref45_Told_i11 n) x0 x1 x2; rw [h2, h4, h11]; try rfl)).symm⟩
theorem cb24 : callable prog 24 = true := by kernel_rfl
theorem tok24 : TabOK prog tab24 := ⟨ok46, cb46, trivial⟩
theorem ok24 : con24.ok prog 24 := fun a r h => by
  obtain ⟨h2, h4, h11⟩ := i24 fuel
  refine fun_spec (f := F24) (tabL_ok tok24) (tabL_cb tok24) (by kernel_rfl) comp24 fuel (a := a) ((s24 _ a.1).trans ?_)
  have h : ref45_Told_c (ref45_Told_i2 fuel) (ref45_Told_i4 fuel) (ref45_Told_i11 fuel) a.1 = some r := h
  rw [h2, h4, h11] at h
  exact h
def con24p : TCon := ⟨[.a [.sl qY1, .sl qY2]], [.c (.p (.sl [.str]))], fun a => ref45_Told a.1⟩
theorem ok24p : con24p.ok prog 24 := fun a r h => TCon.frz (c := con24) ok24 rfl a r h
def con8 : TCon := ⟨[.a [.sl qY1, .sl qY2]], [.c (.p (.str)), .c (.p (.int .i64))], fun a => ref45_Outputs a.1⟩
def tab8 : List (Nat × TCon) := [(15, con15), (24, con24p), (23, con23)]
def F8 : TFun := ⟨[], [], con8.args, con8.res, qc [qn 2, [.c (.p (.str))], qi, qn 16], [], [], 0⟩
theorem comp8 : compFun prog 8 = some (afOf prog 8) := by kernel_rfl
theorem s8 : ∀ J a0, seg0 (tabL tab8) prog F8 (afOf prog 8) J (a0, ()) = ref45_Outputs a0 := fun _ _ => by kernel_rfl
theorem cb8 : callable prog 8 = true := by kernel_rfl
theorem tok8 : TabOK prog tab8 := ⟨ok15, cb15, ok24p, cb24, ok23, cb23, trivial⟩
theorem ok8 : con8.ok prog 8 := fun a r h => fun_spec (f := F8) (tabL_ok tok8) (tabL_cb tok8) (by kernel_rfl) comp8 0 (a := a) ((s8 _ a.1).trans h)
def con50 : TCon := ⟨[.c (.sl [.str]), .c (.int .i64)], [.c (.s 2 1 [.int .i64]), .c (.p (.bool))], fun a => message_numbers a.1 a.2.1⟩
def tab50 : List (Nat × TCon) := [(69, con69), (44, con44)]
def F50 : TFun := ⟨[], [(7, qc [qn 6, [.c (.rowN 2 1 [.int .i64])], qn 8, [.c (.p (.sl [.str]))], qi, qi, qn 22])], con50.args, con50.res, qc [qn 4, [.c (.rowN 2 1 [.int .i64])], qb, qn 34], [], [], 0⟩
abbrev g50_7 (J : JT F50) := fun y0 y1 y2 y3 => J 7 (y0, y1, y2, y3, ())
theorem comp50 : compFun prog 50 = some (afOf prog 50) := by kernel_rfl
theorem s50 : ∀ J a0 a1, seg0 (tabL tab50) prog F50 (afOf prog 50) J (a0, a1, ()) = message_numbers_c (g50_7 J) a0 a1 := fun _ _ _ => by kernel_rfl
theorem s50_7 : ∀ J x0 x1 x2 x3, seg (tabL tab50) prog F50 (afOf prog 50) J 7 (x0, x1, x2, x3, ()) = message_numbers_c7 (g50_7 J) x0 x1 x2 x3 := fun _ _ _ _ _ => by kernel_rfl
theorem i50 : ∀ n, message_numbers_i7 n = g50_7 (iter (tabL tab50) prog F50 (afOf prog 50) n)
  | 0 => rfl
  | n + 1 => by
    obtain h7 := i50 n
    exact by funext x0 x1 x2 x3; exact ((s50_7 _ x0 x1 x2 x3).trans (by show _ = message_numbers_c7 (message_numbers_i7 n) x0 x1 x2 x3; rw [h7]; try rfl)).symm
theorem cb50 : callable prog 50 = true := by kernel_rfl
theorem tok50 : TabOK prog tab50 := ⟨ok69, cb69, ok44, cb44, trivial⟩
theorem ok50 : con50.ok prog 50 := fun a r h => by
  obtain h7 := i50 fuel
  refine fun_spec (f := F50) (tabL_ok tok50) (tabL_cb tok50) (by kernel_rfl) comp50 fuel (a := a) ((s50 _ a.1 a.2.1).trans ?_)
  have h : message_numbers_c (message_numbers_i7 fuel) a.1 a.2.1 = some r := h
  rw [h7] at h
  exact h
def con50p : TCon := ⟨[.c (.sl [.str]), .c (.int .i64)], [.c (.p (.sl [.int .i64])), .c (.p (.bool))], fun a => message_numbers a.1 a.2.1⟩
theorem ok50p : con50p.ok prog 50 := fun a r h => TCon.frz (c := con50) ok50 rfl a r h
def con34 : TCon := ⟨[.a qY3], [.c (.p (.str))], fun a => lines_pick a.1⟩
def tab34 : List (Nat × TCon) := [(56, con56)]
def F34 : TFun := ⟨[], [], con34.args, con34.res, qc [qn 2, [.c (.p (.str))], qn 14], [], [], 0⟩
theorem comp34 : compFun prog 34 = some (afOf prog 34) := by kernel_rfl
theorem s34 : ∀ J a0, seg0 (tabL tab34) prog F34 (afOf prog 34) J (a0, ()) = lines_pick a0 := fun _ _ => by kernel_rfl
theorem cb34 : callable prog 34 = true := by kernel_rfl
theorem tok34 : TabOK prog tab34 := ⟨ok56, cb56, trivial⟩
theorem ok34 : con34.ok prog 34 := fun a r h => fun_spec (f := F34) (tabL_ok tok34) (tabL_cb tok34) (by kernel_rfl) comp34 0 (a := a) ((s34 _ a.1).trans h)
def con33 : TCon := ⟨[.c (.sl qY3)], [.c (.p (.int .i64))], fun a => run_Check a.1⟩
def tab33 : List (Nat × TCon) := []
def F33 : TFun := ⟨[], [(13, qc [[.c (.p (.sl qY3))], [.c (.fn 55 [])], qn 5, qi, qi, qn 27])], con33.args, con33.res, qc [qn 2, qi, qn 5], [(19, [55]), (9, [72]), (6, [54])], [(13, [9, 8])], 8⟩
abbrev g33_13 (J : JT F33) := fun y0 y1 y2 => J 13 (y0, y1, y2, ())
theorem comp33 : compFun prog 33 = some (afOf prog 33) := by kernel_rfl
theorem s33 : ∀ J a0, seg0 (tabL tab33) prog F33 (afOf prog 33) J (a0, ()) = run_Check_c (g33_13 J) a0 := fun _ _ => by kernel_rfl
theorem s33_13 : ∀ J x0 x1 x2, seg (tabL tab33) prog F33 (afOf prog 33) J 13 (x0, x1, x2, ()) = run_Check_c13 (g33_13 J) x0 x1 x2 := fun _ _ _ _ => by kernel_rfl
theorem i33 : ∀ n, run_Check_i13 n = g33_13 (iter (tabL tab33) prog F33 (afOf prog 33) n)
  | 0 => rfl
  | n + 1 => by
    obtain h13 := i33 n
    exact by funext x0 x1 x2; exact ((s33_13 _ x0 x1 x2).trans (by show _ = run_Check_c13 (run_Check_i13 n) x0 x1 x2; rw [h13]; try rfl)).symm
theorem cb33 : callable prog 33 = true := by kernel_rfl
theorem tok33 : TabOK prog tab33 := trivial
theorem ok33 : con33.ok prog 33 := fun a r h => by
  obtain h13 := i33 fuel
  refine fun_spec (f := F33) (tabL_ok tok33) (tabL_cb tok33) (by kernel_rfl) comp33 fuel (a := a) ((s33 _ a.1).trans ?_)
  have h : run_Check_c (run_Check_i13 fuel) a.1 = some r := h
  rw [h13] at h
  exact h
def con14 : TCon := ⟨[.c (.sl qY3)], [.c (.p (.str)), .c (.p (.int .i64))], fun a => lines_Script a.1⟩
def tab14 : List (Nat × TCon) := [(33, con33), (34, con34), (35, con35)]
def F14 : TFun := ⟨[], [(9, qc [qn 5, [.c (.rowN 9 1 [.str])], qn 10, [.c (.p (.sl qY3))], qi, qi, qn 12])], con14.args, con14.res, qc [qn 2, [.c (.p (.str))], qi, qn 27], [], [], 0⟩
abbrev g14_9 (J : JT F14) := fun y0 y1 y2 y3 => J 9 (y0, y1, y2, y3, ())
theorem comp14 : compFun prog 14 = some (afOf prog 14) := by kernel_rfl
theorem s14 : ∀ J a0, seg0 (tabL tab14) prog F14 (afOf prog 14) J (a0, ()) = lines_Script_c (g14_9 J) a0 := fun _ _ => by kernel_rfl
theorem s14_9 : ∀ J x0 x1 x2 x3, seg (tabL tab14) prog F14 (afOf prog 14) J 9 (x0, x1, x2, x3, ()) = lines_Script_c9 (g14_9 J) x0 x1 x2 x3 := fun _ _ _ _ _ => by kernel_rfl
theorem i14 : ∀ n, lines_Script_i9 n = g14_9 (iter (tabL tab14) prog F14 (afOf prog 14) n)
  | 0 => rfl
  | n + 1 => by
    obtain h9 := i14 n
    exact by funext x0 x1 x2 x3; exact ((s14_9 _ x0 x1 x2 x3).trans (by show _ = lines_Script_c9 (lines_Script_i9 n) x0 x1 x2 x3; rw [h9]; try rfl)).symm
theorem cb14 : callable prog 14 = true := by kernel_rfl
theorem tok14 : TabOK prog tab14 := ⟨ok33, cb33, ok34, cb34, ok35, cb35, trivial⟩
theorem ok14 : con14.ok prog 14 := fun a r h => by
  obtain h9 := i14 fuel
  refine fun_spec (f := F14) (tabL_ok tok14) (tabL_cb tok14) (by kernel_rfl) comp14 fuel (a := a) ((s14 _ a.1).trans ?_)
  have h : lines_Script_c (lines_Script_i9 fuel) a.1 = some r := h
  rw [h9] at h
  exact h
end Tg
