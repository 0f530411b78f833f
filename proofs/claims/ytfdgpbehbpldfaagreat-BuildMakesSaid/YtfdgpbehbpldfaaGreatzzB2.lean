import Derived.Test.YtfdgpbehbpldfaaGreatAbsB6
import Derived.Test.YtfdgpbehbpldfaaGreatzzA
import Derived.Test.YtfdgpbehbpldfaaGreatzzT
import Derived.Test.YtfdgpbehbpldfaaGreatGl
import Derived.Test.YtfdgpbehbpldfaaGreatH0
import Derived.Test.YtfdgpbehbpldfaaGreatProg
import Derived.Test.YtfdgpbehbpldfaaGreatzzB0
import Derived.Test.YtfdgpbehbpldfaaGreatzzC1
import Derived.Test.YtfdgpbehbpldfaaGreatzzB1
/- Contracts of functions, checked by the kernel. -/
set_option linter.unusedVariables false
set_option maxRecDepth 100000
namespace Tg
open Go.Abs
open Go.Proofs.Tryz (prog)
def con78 : TCon := ⟨[.c (.sl qY2)], [.c (.p (.sl qY9)), .c (.p (.int .i64))], fun a => nodes_check a.1⟩
def tab78 : List (Nat × TCon) := [(94, con94p)]
def F78 : TFun := ⟨[], [], con78.args, con78.res, qc [qn 2, [.c (.p (.sl qY9))], qi, qn 21], [], [], 0⟩
theorem comp78 : compFun prog 78 = some (afOf prog 78) := by kernel_rfl
theorem s78 : ∀ J a0, seg0 (tabL tab78) prog F78 (afOf prog 78) J (a0, ()) = nodes_check a0 := fun _ _ => by kernel_rfl
theorem cb78 : callable prog 78 = true := by kernel_rfl
theorem tok78 : TabOK prog tab78 := ⟨ok94p, cb94, trivial⟩
theorem ok78 : con78.ok prog 78 := fun a r h => fun_spec (f := F78) (tabL_ok tok78) (tabL_cb tok78) (by kernel_rfl) comp78 0 (a := a) ((s78 _ a.1).trans h)
def con57 : TCon := ⟨[.c (.sl qY2)], [.c (.p (.int .i64))], fun a => nodes_Check a.1⟩
def tab57 : List (Nat × TCon) := [(78, con78)]
def F57 : TFun := ⟨[], [], con57.args, con57.res, qc [qn 2, qi, qn 8], [], [], 0⟩
theorem comp57 : compFun prog 57 = some (afOf prog 57) := by kernel_rfl
theorem s57 : ∀ J a0, seg0 (tabL tab57) prog F57 (afOf prog 57) J (a0, ()) = nodes_Check a0 := fun _ _ => by kernel_rfl
theorem cb57 : callable prog 57 = true := by kernel_rfl
theorem tok57 : TabOK prog tab57 := ⟨ok78, cb78, trivial⟩
theorem ok57 : con57.ok prog 57 := fun a r h => fun_spec (f := F57) (tabL_ok tok57) (tabL_cb tok57) (by kernel_rfl) comp57 0 (a := a) ((s57 _ a.1).trans h)
def con32 : TCon := ⟨[.a qY8], [.c (.p (.int .i64))], fun a => clauses_Check a.1⟩
def tab32 : List (Nat × TCon) := [(57, con57), (58, con58), (59, con59)]
def F32 : TFun := ⟨[4, 12], [(4, qc [qn 1, [.boxN 27 10 [.any, .any, .p (.sl qY11), .p (.bool), .p (.sl qY2), .p (.int .u8), .p (.int .i64), .p (.int .i64), .any, .any]], qn 64]), (12, qc [qn 1, [.boxN 27 10 [.any, .any, .p (.sl qY11), .p (.bool), .any, .p (.int .u8), .p (.int .i64), .p (.int .i64), .any, .any]], qn 64])], con32.args, con32.res, qc [qn 2, qi, qn 63], [], [], 0⟩
abbrev g32_4 (J : JT F32) := fun y0 y1 y2 y3 y4 y5 => J 4 (y0, y1, y2, y3, y4, y5, ())
abbrev g32_12 (J : JT F32) := fun y0 y1 y2 y3 y4 => J 12 (y0, y1, y2, y3, y4, ())
theorem comp32 : compFun prog 32 = some (afOf prog 32) := by kernel_rfl
theorem s32 : ∀ J a0, seg0 (tabL tab32) prog F32 (afOf prog 32) J (a0, ()) = clauses_Check_c (g32_4 J) (g32_12 J) a0 := fun _ _ => by kernel_rfl
theorem s32_4 : ∀ J x0 x1 x2 x3 x4 x5, seg (tabL tab32) prog F32 (afOf prog 32) J 4 (x0, x1, x2, x3, x4, x5, ()) = clauses_Check_c4 (g32_4 J) (g32_12 J) x0 x1 x2 x3 x4 x5 := fun _ _ _ _ _ _ _ => by kernel_rfl
theorem s32_12 : ∀ J x0 x1 x2 x3 x4, seg (tabL tab32) prog F32 (afOf prog 32) J 12 (x0, x1, x2, x3, x4, ()) = clauses_Check_c12 (g32_4 J) (g32_12 J) x0 x1 x2 x3 x4 := fun _ _ _ _ _ _ => by kernel_rfl
theorem i32 : ∀ n, clauses_Check_i4 n = g32_4 (iter (tabL tab32) prog F32 (afOf prog 32) n) ∧ clauses_Check_i12 n = g32_12 (iter (tabL tab32) prog F32 (afOf prog 32) n)
  | 0 => ⟨rfl, rfl⟩
  | n + 1 => by
    obtain ⟨h4, h12⟩ := i32 n
    exact ⟨by funext x0 x1 x2 x3 x4 x5; exact ((s32_4 _ x0 x1 x2 x3 x4 x5).trans (by show _ = clauses_Check_c4 (clauses_Check_i4 n) (clauses_Check_i12 n) x0 x1 x2 x3 x4 x5; rw [h4, h12]; try rfl)).symm, by funext x0 x1 x2 x3 x4; exact ((s32_12 _ x0 x1 x2 x3 x4).trans (by show _ = clauses_Check_c12 (clauses_Check_i4 n) (clauses_Check_i12 n) x0 x1 x2 x3 x4; rw [h4, h12]; try rfl)).symm⟩
theorem cb32 : callable prog 32 = true := by kernel_rfl
theorem tok32 : TabOK prog tab32 := ⟨ok57, cb57, ok58, cb58, ok59, cb59, trivial⟩
theorem ok32 : con32.ok prog 32 := fun a r h => by
  obtain ⟨h4, h12⟩ := i32 fuel
  refine fun_spec (f := F32) (tabL_ok tok32) (tabL_cb tok32) (by kernel_rfl) comp32 fuel (a := a) ((s32 _ a.1).trans ?_)
  have h : clauses_Check_c (clauses_Check_i4 fuel) (clauses_Check_i12 fuel) a.1 = some r := h
  rw [h4, h12] at h
  exact h
def con82 : TCon := ⟨[.c (.sl qY2)], [.c (.p (.bool)), .c (.p (.int .i64)), .c (.p (.int .i64))], fun a => kinds_Of a.1⟩
def tab82 : List (Nat × TCon) := [(57, con57), (96, con96p)]
def F82 : TFun := ⟨[], [], con82.args, con82.res, qc [qn 2, qb, qi, qi, qn 25], [], [], 0⟩
theorem comp82 : compFun prog 82 = some (afOf prog 82) := by kernel_rfl
theorem s82 : ∀ J a0, seg0 (tabL tab82) prog F82 (afOf prog 82) J (a0, ()) = kinds_Of a0 := fun _ _ => by kernel_rfl
theorem cb82 : callable prog 82 = true := by kernel_rfl
theorem tok82 : TabOK prog tab82 := ⟨ok57, cb57, ok96p, cb96, trivial⟩
theorem ok82 : con82.ok prog 82 := fun a r h => fun_spec (f := F82) (tabL_ok tok82) (tabL_cb tok82) (by kernel_rfl) comp82 0 (a := a) ((s82 _ a.1).trans h)
def con60 : TCon := ⟨[.c (.sl qY2), .c (.bool)], [.c (.p (.int .i64)), .c (.p (.int .i64))], fun a => kinds_want a.1 a.2.1⟩
def tab60 : List (Nat × TCon) := [(82, con82)]
def F60 : TFun := ⟨[], [], con60.args, con60.res, qc [qn 4, qi, qi, qn 18], [], [], 0⟩
theorem comp60 : compFun prog 60 = some (afOf prog 60) := by kernel_rfl
theorem s60 : ∀ J a0 a1, seg0 (tabL tab60) prog F60 (afOf prog 60) J (a0, a1, ()) = kinds_want a0 a1 := fun _ _ _ => by kernel_rfl
theorem cb60 : callable prog 60 = true := by kernel_rfl
theorem tok60 : TabOK prog tab60 := ⟨ok82, cb82, trivial⟩
theorem ok60 : con60.ok prog 60 := fun a r h => fun_spec (f := F60) (tabL_ok tok60) (tabL_cb tok60) (by kernel_rfl) comp60 0 (a := a) ((s60 _ a.1 a.2.1).trans h)
def con34 : TCon := ⟨[.c (.sl qY2)], [.c (.p (.int .i64)), .c (.p (.int .i64))], fun a => kinds_Number a.1⟩
def tab34 : List (Nat × TCon) := [(60, con60)]
def F34 : TFun := ⟨[], [], con34.args, con34.res, qc [qn 2, qi, qi, qn 4], [], [], 0⟩
theorem comp34 : compFun prog 34 = some (afOf prog 34) := by kernel_rfl
theorem s34 : ∀ J a0, seg0 (tabL tab34) prog F34 (afOf prog 34) J (a0, ()) = kinds_Number a0 := fun _ _ => by kernel_rfl
theorem cb34 : callable prog 34 = true := by kernel_rfl
theorem tok34 : TabOK prog tab34 := ⟨ok60, cb60, trivial⟩
theorem ok34 : con34.ok prog 34 := fun a r h => fun_spec (f := F34) (tabL_ok tok34) (tabL_cb tok34) (by kernel_rfl) comp34 0 (a := a) ((s34 _ a.1).trans h)
def con35 : TCon := ⟨[.c (.sl qY2)], [.c (.p (.int .i64)), .c (.p (.int .i64))], fun a => kinds_Truth a.1⟩
def tab35 : List (Nat × TCon) := [(60, con60)]
def F35 : TFun := ⟨[], [], con35.args, con35.res, qc [qn 2, qi, qi, qn 4], [], [], 0⟩
theorem comp35 : compFun prog 35 = some (afOf prog 35) := by kernel_rfl
theorem s35 : ∀ J a0, seg0 (tabL tab35) prog F35 (afOf prog 35) J (a0, ()) = kinds_Truth a0 := fun _ _ => by kernel_rfl
theorem cb35 : callable prog 35 = true := by kernel_rfl
theorem tok35 : TabOK prog tab35 := ⟨ok60, cb60, trivial⟩
theorem ok35 : con35.ok prog 35 := fun a r h => fun_spec (f := F35) (tabL_ok tok35) (tabL_cb tok35) (by kernel_rfl) comp35 0 (a := a) ((s35 _ a.1).trans h)
def con9 : TCon := ⟨[.a qY8], [.c (.p (.int .i64)), .c (.p (.int .i64))], fun a => checks_Check a.1⟩
def tab9 : List (Nat × TCon) := [(32, con32), (34, con34), (35, con35)]
def F9 : TFun := ⟨[], [], con9.args, con9.res, qc [qn 2, qi, qi, qn 16], [(11, [4]), (7, [33])], [], 8⟩
theorem comp9 : compFun prog 9 = some (afOf prog 9) := by kernel_rfl
theorem s9 : ∀ J a0, seg0 (tabL tab9) prog F9 (afOf prog 9) J (a0, ()) = checks_Check a0 := fun _ _ => by kernel_rfl
theorem cb9 : callable prog 9 = true := by kernel_rfl
theorem tok9 : TabOK prog tab9 := ⟨ok32, cb32, ok34, cb34, ok35, cb35, trivial⟩
theorem ok9 : con9.ok prog 9 := fun a r h => fun_spec (f := F9) (tabL_ok tok9) (tabL_cb tok9) (by kernel_rfl) comp9 0 (a := a) ((s9 _ a.1).trans h)
def con11 : TCon := ⟨[.a qY8], [.a [.p (.sl [.int .u8]), .p (.int .u8), .p (.sl qY2), .p (.sl qY11), .p (.bool), .p (.sl qY2), .p (.int .u8), .p (.int .i64), .p (.int .i64), .p (.bool), .p (.int .u8)], .c (.p (.int .i64))], fun a => plan_Of a.1⟩
def tab11 : List (Nat × TCon) := [(9, con9), (13, con13p), (14, con14p), (37, con37p)]
def F11 : TFun := ⟨[], [], con11.args, con11.res, qc [qn 2, [.boxN 52 11 [.p (.sl [.int .u8]), .p (.int .u8), .p (.sl qY2), .p (.sl qY11), .p (.bool), .p (.sl qY2), .p (.int .u8), .p (.int .i64), .p (.int .i64), .p (.bool), .p (.int .u8)]], qi, qn 27], [], [], 0⟩
theorem comp11 : compFun prog 11 = some (afOf prog 11) := by kernel_rfl
theorem s11 : ∀ J a0, seg0 (tabL tab11) prog F11 (afOf prog 11) J (a0, ()) = plan_Of a0 := fun _ _ => by kernel_rfl
theorem cb11 : callable prog 11 = true := by kernel_rfl
theorem tok11 : TabOK prog tab11 := ⟨ok9, cb9, ok13p, cb13, ok14p, cb14, ok37p, cb37, trivial⟩
theorem ok11 : con11.ok prog 11 := fun a r h => fun_spec (f := F11) (tabL_ok tok11) (tabL_cb tok11) (by kernel_rfl) comp11 0 (a := a) ((s11 _ a.1).trans h)
def con38 : TCon := ⟨[.a qY13], [.c (.p (.int .i64))], fun a => plan_Check a.1⟩
def tab38 : List (Nat × TCon) := [(9, con9), (37, con37p), (61, con61)]
def F38 : TFun := ⟨[], [], con38.args, con38.res, qc [qn 2, qi, qn 18], [], [], 0⟩
theorem comp38 : compFun prog 38 = some (afOf prog 38) := by kernel_rfl
theorem s38 : ∀ J a0, seg0 (tabL tab38) prog F38 (afOf prog 38) J (a0, ()) = plan_Check a0 := fun _ _ => by kernel_rfl
theorem cb38 : callable prog 38 = true := by kernel_rfl
theorem tok38 : TabOK prog tab38 := ⟨ok9, cb9, ok37p, cb37, ok61, cb61, trivial⟩
theorem ok38 : con38.ok prog 38 := fun a r h => fun_spec (f := F38) (tabL_ok tok38) (tabL_cb tok38) (by kernel_rfl) comp38 0 (a := a) ((s38 _ a.1).trans h)
def con86 : TCon := ⟨[.c (.sl qY2)], [.c (.p (.int .i64))], fun a => ref04_Check a.1⟩
def tab86 : List (Nat × TCon) := [(99, con99p)]
def F86 : TFun := ⟨[], [], con86.args, con86.res, qc [qn 2, qi, qn 21], [], [], 0⟩
theorem comp86 : compFun prog 86 = some (afOf prog 86) := by kernel_rfl
theorem s86 : ∀ J a0, seg0 (tabL tab86) prog F86 (afOf prog 86) J (a0, ()) = ref04_Check a0 := fun _ _ => by kernel_rfl
theorem cb86 : callable prog 86 = true := by kernel_rfl
theorem tok86 : TabOK prog tab86 := ⟨ok99p, cb99, trivial⟩
theorem ok86 : con86.ok prog 86 := fun a r h => fun_spec (f := F86) (tabL_ok tok86) (tabL_cb tok86) (by kernel_rfl) comp86 0 (a := a) ((s86 _ a.1).trans h)
def con100 : TCon := ⟨[.c (.sl qY2)], [.c (.p (.bool)), .c (.p (.int .i64)), .c (.p (.int .i64))], fun a => ref06_Of a.1⟩
def tab100 : List (Nat × TCon) := [(86, con86), (108, con108), (109, con109)]
def F100 : TFun := ⟨[], [], con100.args, con100.res, qc [qn 2, qb, qi, qi, qn 24], [], [], 0⟩
theorem comp100 : compFun prog 100 = some (afOf prog 100) := by kernel_rfl
theorem s100 : ∀ J a0, seg0 (tabL tab100) prog F100 (afOf prog 100) J (a0, ()) = ref06_Of a0 := fun _ _ => by kernel_rfl
theorem cb100 : callable prog 100 = true := by kernel_rfl
theorem tok100 : TabOK prog tab100 := ⟨ok86, cb86, ok108, cb108, ok109, cb109, trivial⟩
theorem ok100 : con100.ok prog 100 := fun a r h => fun_spec (f := F100) (tabL_ok tok100) (tabL_cb tok100) (by kernel_rfl) comp100 0 (a := a) ((s100 _ a.1).trans h)
def con89 : TCon := ⟨[.c (.sl qY2), .c (.bool)], [.c (.p (.int .i64)), .c (.p (.int .i64))], fun a => ref06_Want a.1 a.2.1⟩
def tab89 : List (Nat × TCon) := [(100, con100)]
def F89 : TFun := ⟨[], [], con89.args, con89.res, qc [qn 4, qi, qi, qn 19], [], [], 0⟩
theorem comp89 : compFun prog 89 = some (afOf prog 89) := by kernel_rfl
theorem s89 : ∀ J a0 a1, seg0 (tabL tab89) prog F89 (afOf prog 89) J (a0, a1, ()) = ref06_Want a0 a1 := fun _ _ _ => by kernel_rfl
theorem cb89 : callable prog 89 = true := by kernel_rfl
theorem tok89 : TabOK prog tab89 := ⟨ok100, cb100, trivial⟩
theorem ok89 : con89.ok prog 89 := fun a r h => fun_spec (f := F89) (tabL_ok tok89) (tabL_cb tok89) (by kernel_rfl) comp89 0 (a := a) ((s89 _ a.1 a.2.1).trans h)
def con66 : TCon := ⟨[.a qY8], [.c (.p (.int .i64)), .c (.p (.int .i64))], fun a => ref10_Right a.1⟩
def tab66 : List (Nat × TCon) := [(89, con89)]
def F66 : TFun := ⟨[1], [(1, qc [qn 1, [.boxN 27 10 [.any, .any, .any, .any, .p (.sl qY2), .any, .any, .any, .any, .any]], qn 44])], con66.args, con66.res, qc [qn 2, qi, qi, qn 42], [], [], 0⟩
abbrev g66_1 (J : JT F66) := fun y0 => J 1 (y0, ())
theorem comp66 : compFun prog 66 = some (afOf prog 66) := by kernel_rfl
theorem s66 : ∀ J a0, seg0 (tabL tab66) prog F66 (afOf prog 66) J (a0, ()) = ref10_Right_c (g66_1 J) a0 := fun _ _ => by kernel_rfl
theorem s66_1 : ∀ J x0, seg (tabL tab66) prog F66 (afOf prog 66) J 1 (x0, ()) = ref10_Right_c1 (g66_1 J) x0 := fun _ _ => by kernel_rfl
theorem i66 : ∀ n, ref10_Right_i1 n = g66_1 (iter (tabL tab66) prog F66 (afOf prog 66) n)
  | 0 => rfl
  | n + 1 => by
    obtain h1 := i66 n
    exact by funext x0; exact ((s66_1 _ x0).trans (by show _ = ref10_Right_c1 (ref10_Right_i1 n) x0; rw [h1]; try rfl)).symm
theorem cb66 : callable prog 66 = true := by kernel_rfl
theorem tok66 : TabOK prog tab66 := ⟨ok89, cb89, trivial⟩
theorem ok66 : con66.ok prog 66 := fun a r h => by
  obtain h1 := i66 fuel
  refine fun_spec (f := F66) (tabL_ok tok66) (tabL_cb tok66) (by kernel_rfl) comp66 fuel (a := a) ((s66 _ a.1).trans ?_)
  have h : ref10_Right_c (ref10_Right_i1 fuel) a.1 = some r := h
  rw [h1] at h
  exact h
def con30 : TCon := ⟨[.a qY12, .a qY12], [.c (.p (.bool))], fun a => ref35_Same a.1 a.2.1⟩
def tab30 : List (Nat × TCon) := [(55, con55), (56, con56)]
def F30 : TFun := ⟨[], [(7, qc [qn 2, [.boxN 37 14 [.any, .any, .any, .any, .any, .any, .any, .any, .any, .any, .any, .any, .p (.sl qY1), .any]], [.boxN 37 14 [.any, .any, .any, .any, .any, .any, .any, .any, .any, .any, .any, .any, .p (.sl qY1), .any]], qn 1, qi, qn 34])], con30.args, con30.res, qc [qn 4, qb, qn 35], [], [], 0⟩
abbrev g30_7 (J : JT F30) := fun y0 y1 y2 => J 7 (y0, y1, y2, ())
theorem comp30 : compFun prog 30 = some (afOf prog 30) := by kernel_rfl
theorem s30 : ∀ J a0 a1, seg0 (tabL tab30) prog F30 (afOf prog 30) J (a0, a1, ()) = ref35_Same_c (g30_7 J) a0 a1 := fun _ _ _ => by kernel_rfl
theorem s30_7 : ∀ J x0 x1 x2, seg (tabL tab30) prog F30 (afOf prog 30) J 7 (x0, x1, x2, ()) = ref35_Same_c7 (g30_7 J) x0 x1 x2 := fun _ _ _ _ => by kernel_rfl
theorem i30 : ∀ n, ref35_Same_i7 n = g30_7 (iter (tabL tab30) prog F30 (afOf prog 30) n)
  | 0 => rfl
  | n + 1 => by
    obtain h7 := i30 n
    exact by funext x0 x1 x2; exact ((s30_7 _ x0 x1 x2).trans (by show _ = ref35_Same_c7 (ref35_Same_i7 n) x0 x1 x2; rw [h7]; try rfl)).symm
theorem cb30 : callable prog 30 = true := by kernel_rfl
theorem tok30 : TabOK prog tab30 := ⟨ok55, cb55, ok56, cb56, trivial⟩
theorem ok30 : con30.ok prog 30 := fun a r h => by
  obtain h7 := i30 fuel
  refine fun_spec (f := F30) (tabL_ok tok30) (tabL_cb tok30) (by kernel_rfl) comp30 fuel (a := a) ((s30 _ a.1 a.2.1).trans ?_)
  have h : ref35_Same_c (ref35_Same_i7 fuel) a.1 a.2.1 = some r := h
  rw [h7] at h
  exact h
def con7 : TCon := ⟨[.a qY12, .a qY12], [.c (.p (.bool))], fun a => ref36_Same a.1 a.2.1⟩
def tab7 : List (Nat × TCon) := [(28, con28), (29, con29), (30, con30)]
def F7 : TFun := ⟨[], [], con7.args, con7.res, qc [qn 4, qb, qn 17], [], [], 0⟩
theorem comp7 : compFun prog 7 = some (afOf prog 7) := by kernel_rfl
theorem s7 : ∀ J a0 a1, seg0 (tabL tab7) prog F7 (afOf prog 7) J (a0, a1, ()) = ref36_Same a0 a1 := fun _ _ _ => by kernel_rfl
theorem cb7 : callable prog 7 = true := by kernel_rfl
theorem tok7 : TabOK prog tab7 := ⟨ok28, cb28, ok29, cb29, ok30, cb30, trivial⟩
theorem ok7 : con7.ok prog 7 := fun a r h => fun_spec (f := F7) (tabL_ok tok7) (tabL_cb tok7) (by kernel_rfl) comp7 0 (a := a) ((s7 _ a.1 a.2.1).trans h)
end Tg
