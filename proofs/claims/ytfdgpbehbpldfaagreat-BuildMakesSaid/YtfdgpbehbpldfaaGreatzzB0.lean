import Derived.Test.YtfdgpbehbpldfaaGreatAbsB6
import Derived.Test.YtfdgpbehbpldfaaGreatzzA
import Derived.Test.YtfdgpbehbpldfaaGreatzzT
import Derived.Test.YtfdgpbehbpldfaaGreatGl
import Derived.Test.YtfdgpbehbpldfaaGreatH0
import Derived.Test.YtfdgpbehbpldfaaGreatProg
/- Contracts of functions, checked by the kernel. -/
set_option linter.unusedVariables false
set_option maxRecDepth 100000
namespace Tg
open Go.Abs
open Go.Proofs.Tryz (prog)
def con31 : TCon := ⟨[.c (.sl qY2)], [.c (.p (.bool))], fun a => ref04_Great a.1⟩
def tab31 : List (Nat × TCon) := []
def F31 : TFun := ⟨[], [], con31.args, con31.res, qc [qn 2, qb, qn 3], [], [], 0⟩
theorem comp31 : compFun prog 31 = some (afOf prog 31) := by kernel_rfl
theorem s31 : ∀ J a0, seg0 (tabL tab31) prog F31 (afOf prog 31) J (a0, ()) = ref04_Great a0 := fun _ _ => by kernel_rfl
theorem cb31 : callable prog 31 = true := by kernel_rfl
theorem tok31 : TabOK prog tab31 := trivial
theorem ok31 : con31.ok prog 31 := fun a r h => fun_spec (f := F31) (tabL_ok tok31) (tabL_cb tok31) (by kernel_rfl) comp31 0 (a := a) ((s31 _ a.1).trans h)
def con8 : TCon := ⟨[.a qY8], [.c (.p (.bool))], fun a => ref08_Great a.1⟩
def tab8 : List (Nat × TCon) := [(31, con31)]
def F8 : TFun := ⟨[], [], con8.args, con8.res, qc [qn 2, qb, qn 14], [], [], 0⟩
theorem comp8 : compFun prog 8 = some (afOf prog 8) := by kernel_rfl
theorem s8 : ∀ J a0, seg0 (tabL tab8) prog F8 (afOf prog 8) J (a0, ()) = ref08_Great a0 := fun _ _ => by kernel_rfl
theorem cb8 : callable prog 8 = true := by kernel_rfl
theorem tok8 : TabOK prog tab8 := ⟨ok31, cb31, trivial⟩
theorem ok8 : con8.ok prog 8 := fun a r h => fun_spec (f := F8) (tabL_ok tok8) (tabL_cb tok8) (by kernel_rfl) comp8 0 (a := a) ((s8 _ a.1).trans h)
def con4 : TCon := ⟨[.a qY8, .c (.sl [.sl qY6])], [.c (.p (.bool))], fun a => ref36_Great a.1 a.2.1⟩
def tab4 : List (Nat × TCon) := [(8, con8)]
def F4 : TFun := ⟨[], [(7, qc [qn 1, [.c (.p (.sl [.sl qY6]))], qn 3, qi, qn 19])], con4.args, con4.res, qc [qn 4, qb, qn 20], [], [], 0⟩
abbrev g4_7 (J : JT F4) := fun y0 y1 => J 7 (y0, y1, ())
theorem comp4 : compFun prog 4 = some (afOf prog 4) := by kernel_rfl
theorem s4 : ∀ J a0 a1, seg0 (tabL tab4) prog F4 (afOf prog 4) J (a0, a1, ()) = ref36_Great_c (g4_7 J) a0 a1 := fun _ _ _ => by kernel_rfl
theorem s4_7 : ∀ J x0 x1, seg (tabL tab4) prog F4 (afOf prog 4) J 7 (x0, x1, ()) = ref36_Great_c7 (g4_7 J) x0 x1 := fun _ _ _ => by kernel_rfl
theorem i4 : ∀ n, ref36_Great_i7 n = g4_7 (iter (tabL tab4) prog F4 (afOf prog 4) n)
  | 0 => rfl
  | n + 1 => by
    obtain h7 := i4 n
    exact by funext x0 x1; exact ((s4_7 _ x0 x1).trans (by show _ = ref36_Great_c7 (ref36_Great_i7 n) x0 x1; rw [h7]; try rfl)).symm
theorem cb4 : callable prog 4 = true := by kernel_rfl
theorem tok4 : TabOK prog tab4 := ⟨ok8, cb8, trivial⟩
theorem ok4 : con4.ok prog 4 := fun a r h => by
  obtain h7 := i4 fuel
  refine fun_spec (f := F4) (tabL_ok tok4) (tabL_cb tok4) (by kernel_rfl) comp4 fuel (a := a) ((s4 _ a.1 a.2.1).trans ?_)
  have h : ref36_Great_c (ref36_Great_i7 fuel) a.1 a.2.1 = some r := h
  rw [h7] at h
  exact h
def con103 : TCon := ⟨[.c (.int .u8)], [.c (.p (.int .i64)), .c (.p (.int .i64))], fun a => nodes_Parts a.1⟩
def tab103 : List (Nat × TCon) := []
def F103 : TFun := ⟨[], [], con103.args, con103.res, qc [qn 2, qi, qi, qn 21], [], [], 0⟩
theorem comp103 : compFun prog 103 = some (afOf prog 103) := by kernel_rfl
theorem s103 : ∀ J a0, seg0 (tabL tab103) prog F103 (afOf prog 103) J (a0, ()) = nodes_Parts a0 := fun _ _ => by kernel_rfl
theorem cb103 : callable prog 103 = true := by kernel_rfl
theorem tok103 : TabOK prog tab103 := trivial
theorem ok103 : con103.ok prog 103 := fun a r h => fun_spec (f := F103) (tabL_ok tok103) (tabL_cb tok103) (by kernel_rfl) comp103 0 (a := a) ((s103 _ a.1).trans h)
def con58 : TCon := ⟨[.c (.sl qY11), .c (.bool)], [.c (.p (.int .i64))], fun a => clauses_Sources a.1 a.2.1⟩
def tab58 : List (Nat × TCon) := [(81, con81)]
def F58 : TFun := ⟨[], [(14, qc [[.c (.p (.sl qY11))], [.c (.fn 79 [])], qn 5, qi, qi, qn 19, [.c (.p (.sl qY11))], qn 19, qb, qn 9])], con58.args, con58.res, qc [qn 4, qi, qn 25], [(20, [79]), (10, [95]), (7, [80])], [(14, [9, 30])], 8⟩
abbrev g58_14 (J : JT F58) := fun y0 y1 y2 y3 y4 => J 14 (y0, y1, y2, y3, y4, ())
theorem comp58 : compFun prog 58 = some (afOf prog 58) := by kernel_rfl
theorem s58 : ∀ J a0 a1, seg0 (tabL tab58) prog F58 (afOf prog 58) J (a0, a1, ()) = clauses_Sources_c (g58_14 J) a0 a1 := fun _ _ _ => by kernel_rfl
theorem s58_14 : ∀ J x0 x1 x2 x3 x4, seg (tabL tab58) prog F58 (afOf prog 58) J 14 (x0, x1, x2, x3, x4, ()) = clauses_Sources_c14 (g58_14 J) x0 x1 x2 x3 x4 := fun _ _ _ _ _ _ => by kernel_rfl
theorem i58 : ∀ n, clauses_Sources_i14 n = g58_14 (iter (tabL tab58) prog F58 (afOf prog 58) n)
  | 0 => rfl
  | n + 1 => by
    obtain h14 := i58 n
    exact by funext x0 x1 x2 x3 x4; exact ((s58_14 _ x0 x1 x2 x3 x4).trans (by show _ = clauses_Sources_c14 (clauses_Sources_i14 n) x0 x1 x2 x3 x4; rw [h14]; try rfl)).symm
theorem cb58 : callable prog 58 = true := by kernel_rfl
theorem tok58 : TabOK prog tab58 := ⟨ok81, cb81, trivial⟩
theorem ok58 : con58.ok prog 58 := fun a r h => by
  obtain h14 := i58 fuel
  refine fun_spec (f := F58) (tabL_ok tok58) (tabL_cb tok58) (by kernel_rfl) comp58 fuel (a := a) ((s58 _ a.1 a.2.1).trans ?_)
  have h : clauses_Sources_c (clauses_Sources_i14 fuel) a.1 a.2.1 = some r := h
  rw [h14] at h
  exact h
def con59 : TCon := ⟨[.a [.int .u8, .int .i64, .int .i64]], [.c (.p (.int .i64))], fun a => clauses_Window a.1⟩
def tab59 : List (Nat × TCon) := []
def F59 : TFun := ⟨[], [], con59.args, con59.res, qc [qn 2, qi, qn 37], [], [], 0⟩
theorem comp59 : compFun prog 59 = some (afOf prog 59) := by kernel_rfl
theorem s59 : ∀ J a0, seg0 (tabL tab59) prog F59 (afOf prog 59) J (a0, ()) = clauses_Window a0 := fun _ _ => by kernel_rfl
theorem cb59 : callable prog 59 = true := by kernel_rfl
theorem tok59 : TabOK prog tab59 := trivial
theorem ok59 : con59.ok prog 59 := fun a r h => fun_spec (f := F59) (tabL_ok tok59) (tabL_cb tok59) (by kernel_rfl) comp59 0 (a := a) ((s59 _ a.1).trans h)
def con36 : TCon := ⟨[.c (.int .i64)], [.c (.p (.bool))], fun a => late_time a.1⟩
def tab36 : List (Nat × TCon) := []
def F36 : TFun := ⟨[], [], con36.args, con36.res, qc [qn 2, qb, qn 6], [], [], 0⟩
theorem comp36 : compFun prog 36 = some (afOf prog 36) := by kernel_rfl
theorem s36 : ∀ J a0, seg0 (tabL tab36) prog F36 (afOf prog 36) J (a0, ()) = late_time a0 := fun _ _ => by kernel_rfl
theorem cb36 : callable prog 36 = true := by kernel_rfl
theorem tok36 : TabOK prog tab36 := trivial
theorem ok36 : con36.ok prog 36 := fun a r h => fun_spec (f := F36) (tabL_ok tok36) (tabL_cb tok36) (by kernel_rfl) comp36 0 (a := a) ((s36 _ a.1).trans h)
def con10 : TCon := ⟨[.c (.sl qY6)], [.c (.p (.int .i64))], fun a => late_Check a.1⟩
def tab10 : List (Nat × TCon) := [(36, con36)]
def F10 : TFun := ⟨[], [(6, qc [qn 10, [.c (.p (.sl qY6))], qi, qi, qn 42])], con10.args, con10.res, qc [qn 2, qi, qn 52], [], [], 0⟩
abbrev g10_6 (J : JT F10) := fun y0 y1 y2 => J 6 (y0, y1, y2, ())
theorem comp10 : compFun prog 10 = some (afOf prog 10) := by kernel_rfl
theorem s10 : ∀ J a0, seg0 (tabL tab10) prog F10 (afOf prog 10) J (a0, ()) = late_Check_c (g10_6 J) a0 := fun _ _ => by kernel_rfl
theorem s10_6 : ∀ J x0 x1 x2, seg (tabL tab10) prog F10 (afOf prog 10) J 6 (x0, x1, x2, ()) = late_Check_c6 (g10_6 J) x0 x1 x2 := fun _ _ _ _ => by kernel_rfl
theorem i10 : ∀ n, late_Check_i6 n = g10_6 (iter (tabL tab10) prog F10 (afOf prog 10) n)
  | 0 => rfl
  | n + 1 => by
    obtain h6 := i10 n
    exact by funext x0 x1 x2; exact ((s10_6 _ x0 x1 x2).trans (by show _ = late_Check_c6 (late_Check_i6 n) x0 x1 x2; rw [h6]; try rfl)).symm
theorem cb10 : callable prog 10 = true := by kernel_rfl
theorem tok10 : TabOK prog tab10 := ⟨ok36, cb36, trivial⟩
theorem ok10 : con10.ok prog 10 := fun a r h => by
  obtain h6 := i10 fuel
  refine fun_spec (f := F10) (tabL_ok tok10) (tabL_cb tok10) (by kernel_rfl) comp10 fuel (a := a) ((s10 _ a.1).trans ?_)
  have h : late_Check_c (late_Check_i6 fuel) a.1 = some r := h
  rw [h6] at h
  exact h
/- slices.Clone[[]tailwater/api.Node,tailwater/api.Node] -/
def con13 : TCon := cloneCon 59 5 40 qY2
theorem cb13 : callable prog 13 = true := by kernel_rfl
theorem ok13 : con13.ok prog 13 := cloneCon_ok (zero := [.p (.int .u8 0), .p (.int .i64 0), .p (.int .i64 0), .p (.int .i64 0), .p (.int .i64 0)]) (by kernel_rfl) rfl (by decide) rfl
def con13p : TCon := ⟨[.c (.sl qY2)], [.c (.p (.sl qY2))], con13.fn⟩
theorem ok13p : con13p.ok prog 13 := fun a r h => TCon.frz (c := con13) ok13 rfl a r h
/- slices.Clone[[]int,int] -/
def con14 : TCon := cloneCon 3 1 8 qY11
theorem cb14 : callable prog 14 = true := by kernel_rfl
theorem ok14 : con14.ok prog 14 := cloneCon_ok (zero := [.p (.int .i64 0)]) (by kernel_rfl) rfl (by decide) rfl
def con14p : TCon := ⟨[.c (.sl qY11)], [.c (.p (.sl qY11))], con14.fn⟩
theorem ok14p : con14p.ok prog 14 := fun a r h => TCon.frz (c := con14) ok14 rfl a r h
def con37 : TCon := ⟨[.a qY8], [.c (.s 5 1 [.int .u8])], fun a => plan_steps a.1⟩
def tab37 : List (Nat × TCon) := []
def F37 : TFun := ⟨[2, 5, 8], [(2, qc [qn 1, [.boxN 27 10 [.any, .any, .any, .p (.bool), .any, .any, .any, .any, .p (.bool), .p (.int .u8)]], qn 1, [.c (.rowN 5 1 [.int .u8])], qn 37]), (5, qc [qn 1, [.boxN 27 10 [.any, .any, .any, .p (.bool), .any, .any, .any, .any, .any, .p (.int .u8)]], qn 1, [.c (.rowN 5 1 [.int .u8])], qn 37]), (8, qc [qn 1, [.boxN 27 10 [.any, .any, .any, .any, .any, .any, .any, .any, .any, .p (.int .u8)]], qn 1, [.c (.rowN 5 1 [.int .u8])], qn 37])], con37.args, con37.res, qc [qn 2, [.c (.rowN 5 1 [.int .u8])], qn 38], [], [], 0⟩
abbrev g37_2 (J : JT F37) := fun y0 y1 y2 y3 => J 2 (y0, y1, y2, y3, ())
abbrev g37_5 (J : JT F37) := fun y0 y1 y2 => J 5 (y0, y1, y2, ())
abbrev g37_8 (J : JT F37) := fun y0 y1 => J 8 (y0, y1, ())
theorem comp37 : compFun prog 37 = some (afOf prog 37) := by kernel_rfl
theorem s37 : ∀ J a0, seg0 (tabL tab37) prog F37 (afOf prog 37) J (a0, ()) = plan_steps_c (g37_2 J) (g37_5 J) (g37_8 J) a0 := fun _ _ => by kernel_rfl
theorem s37_2 : ∀ J x0 x1 x2 x3, seg (tabL tab37) prog F37 (afOf prog 37) J 2 (x0, x1, x2, x3, ()) = plan_steps_c2 (g37_2 J) (g37_5 J) (g37_8 J) x0 x1 x2 x3 := fun _ _ _ _ _ => by kernel_rfl
theorem s37_5 : ∀ J x0 x1 x2, seg (tabL tab37) prog F37 (afOf prog 37) J 5 (x0, x1, x2, ()) = plan_steps_c5 (g37_2 J) (g37_5 J) (g37_8 J) x0 x1 x2 := fun _ _ _ _ => by kernel_rfl
theorem s37_8 : ∀ J x0 x1, seg (tabL tab37) prog F37 (afOf prog 37) J 8 (x0, x1, ()) = plan_steps_c8 (g37_2 J) (g37_5 J) (g37_8 J) x0 x1 := fun _ _ _ => by kernel_rfl
theorem i37 : ∀ n, plan_steps_i2 n = g37_2 (iter (tabL tab37) prog F37 (afOf prog 37) n) ∧ plan_steps_i5 n = g37_5 (iter (tabL tab37) prog F37 (afOf prog 37) n) ∧ plan_steps_i8 n = g37_8 (iter (tabL tab37) prog F37 (afOf prog 37) n)
  | 0 => ⟨rfl, rfl, rfl⟩
  | n + 1 => by
    obtain ⟨h2, h5, h8⟩ := i37 n
    exact ⟨by funext x0 x1 x2 x3; exact ((s37_2 _ x0 x1 x2 x3).trans (by show _ = plan_steps_c2 (plan_steps_i2 n) (plan_steps_i5 n) (plan_steps_i8 n) x0 x1 x2 x3; rw [h2, h5, h8]; try rfl)).symm, by funext x0 x1 x2; exact ((s37_5 _ x0 x1 x2).trans (by show _ = plan_steps_c5 (plan_steps_i2 n) (plan_steps_i5 n) (plan_steps_i8 n) x0 x1 x2; rw [h2, h5, h8]; try rfl)).symm, by funext x0 x1; exact ((s37_8 _ x0 x1).trans (by show _ = plan_steps_c8 (plan_steps_i2 n) (plan_steps_i5 n) (plan_steps_i8 n) x0 x1; rw [h2, h5, h8]; try rfl)).symm⟩
theorem cb37 : callable prog 37 = true := by kernel_rfl
theorem tok37 : TabOK prog tab37 := trivial
theorem ok37 : con37.ok prog 37 := fun a r h => by
  obtain ⟨h2, h5, h8⟩ := i37 fuel
  refine fun_spec (f := F37) (tabL_ok tok37) (tabL_cb tok37) (by kernel_rfl) comp37 fuel (a := a) ((s37 _ a.1).trans ?_)
  have h : plan_steps_c (plan_steps_i2 fuel) (plan_steps_i5 fuel) (plan_steps_i8 fuel) a.1 = some r := h
  rw [h2, h5, h8] at h
  exact h
def con37p : TCon := ⟨[.a qY8], [.c (.p (.sl [.int .u8]))], fun a => plan_steps a.1⟩
theorem ok37p : con37p.ok prog 37 := fun a r h => TCon.frz (c := con37) ok37 rfl a r h
/- slices.Equal[[]uint8,uint8] -/
def con61 : TCon := ⟨[.c (.sl [.int .u8]), .c (.sl [.int .u8])], [.c (.p (.bool))], fun a => slices_Equal___uint8_uint8_ a.1 a.2.1⟩
def tab61 : List (Nat × TCon) := []
def F61 : TFun := ⟨[], [(6, qc [[.c (.p (.sl [.int .u8]))], [.c (.p (.sl [.int .u8]))], qn 10, qi, qi, qn 12])], con61.args, con61.res, qc [qn 4, qb, qn 21], [], [], 0⟩
abbrev g61_6 (J : JT F61) := fun y0 y1 y2 y3 => J 6 (y0, y1, y2, y3, ())
theorem comp61 : compFun prog 61 = some (afOf prog 61) := by kernel_rfl
theorem s61 : ∀ J a0 a1, seg0 (tabL tab61) prog F61 (afOf prog 61) J (a0, a1, ()) = slices_Equal___uint8_uint8__c (g61_6 J) a0 a1 := fun _ _ _ => by kernel_rfl
theorem s61_6 : ∀ J x0 x1 x2 x3, seg (tabL tab61) prog F61 (afOf prog 61) J 6 (x0, x1, x2, x3, ()) = slices_Equal___uint8_uint8__c6 (g61_6 J) x0 x1 x2 x3 := fun _ _ _ _ _ => by kernel_rfl
theorem i61 : ∀ n, slices_Equal___uint8_uint8__i6 n = g61_6 (iter (tabL tab61) prog F61 (afOf prog 61) n)
  | 0 => rfl
  | n + 1 => by
    obtain h6 := i61 n
    exact by funext x0 x1 x2 x3; exact ((s61_6 _ x0 x1 x2 x3).trans (by show _ = slices_Equal___uint8_uint8__c6 (slices_Equal___uint8_uint8__i6 n) x0 x1 x2 x3; rw [h6]; try rfl)).symm
theorem cb61 : callable prog 61 = true := by kernel_rfl
theorem tok61 : TabOK prog tab61 := trivial
theorem ok61 : con61.ok prog 61 := fun a r h => by
  obtain h6 := i61 fuel
  refine fun_spec (f := F61) (tabL_ok tok61) (tabL_cb tok61) (by kernel_rfl) comp61 fuel (a := a) ((s61 _ a.1 a.2.1).trans ?_)
  have h : slices_Equal___uint8_uint8__c (slices_Equal___uint8_uint8__i6 fuel) a.1 a.2.1 = some r := h
  rw [h6] at h
  exact h
def con84 : TCon := ⟨[.c (.int .i64)], [.c (.p (.bool))], fun a => message_isTime a.1⟩
def tab84 : List (Nat × TCon) := []
def F84 : TFun := ⟨[], [], con84.args, con84.res, qc [qn 2, qb, qn 6], [], [], 0⟩
theorem comp84 : compFun prog 84 = some (afOf prog 84) := by kernel_rfl
theorem s84 : ∀ J a0, seg0 (tabL tab84) prog F84 (afOf prog 84) J (a0, ()) = message_isTime a0 := fun _ _ => by kernel_rfl
theorem cb84 : callable prog 84 = true := by kernel_rfl
theorem tok84 : TabOK prog tab84 := trivial
theorem ok84 : con84.ok prog 84 := fun a r h => fun_spec (f := F84) (tabL_ok tok84) (tabL_cb tok84) (by kernel_rfl) comp84 0 (a := a) ((s84 _ a.1).trans h)
def con83 : TCon := ⟨[.c (.int .i64)], [.c (.p (.bool))], fun a => message_isMark a.1⟩
def tab83 : List (Nat × TCon) := [(84, con84)]
def F83 : TFun := ⟨[], [], con83.args, con83.res, qc [qn 2, qb, qn 6], [], [], 0⟩
theorem comp83 : compFun prog 83 = some (afOf prog 83) := by kernel_rfl
theorem s83 : ∀ J a0, seg0 (tabL tab83) prog F83 (afOf prog 83) J (a0, ()) = message_isMark a0 := fun _ _ => by kernel_rfl
theorem cb83 : callable prog 83 = true := by kernel_rfl
theorem tok83 : TabOK prog tab83 := ⟨ok84, cb84, trivial⟩
theorem ok83 : con83.ok prog 83 := fun a r h => fun_spec (f := F83) (tabL_ok tok83) (tabL_cb tok83) (by kernel_rfl) comp83 0 (a := a) ((s83 _ a.1).trans h)
def con62 : TCon := ⟨[.a qY6], [.a [.p (.int .u8), .p (.int .i64), .p (.int .i64), .p (.int .i64), .p (.int .i64), .p (.int .i64), .p (.int .i64), .p (.int .i64), .p (.int .i64), .p (.int .i64)], .c (.p (.int .i64))], fun a => message_Of a.1⟩
def tab62 : List (Nat × TCon) := [(83, con83), (84, con84)]
def F62 : TFun := ⟨[], [], con62.args, con62.res, qc [qn 2, [.boxN 134 10 [.p (.int .u8), .p (.int .i64), .p (.int .i64), .p (.int .i64), .p (.int .i64), .p (.int .i64), .p (.int .i64), .p (.int .i64), .p (.int .i64), .p (.int .i64)]], qi, qn 30], [], [], 0⟩
theorem comp62 : compFun prog 62 = some (afOf prog 62) := by kernel_rfl
theorem s62 : ∀ J a0, seg0 (tabL tab62) prog F62 (afOf prog 62) J (a0, ()) = message_Of a0 := fun _ _ => by kernel_rfl
theorem cb62 : callable prog 62 = true := by kernel_rfl
theorem tok62 : TabOK prog tab62 := ⟨ok83, cb83, ok84, cb84, trivial⟩
theorem ok62 : con62.ok prog 62 := fun a r h => fun_spec (f := F62) (tabL_ok tok62) (tabL_cb tok62) (by kernel_rfl) comp62 0 (a := a) ((s62 _ a.1).trans h)
def con42 : TCon := ⟨[.a qY6], [.c (.p (.int .i64))], fun a => message_Event a.1⟩
def tab42 : List (Nat × TCon) := [(62, con62)]
def F42 : TFun := ⟨[], [], con42.args, con42.res, qc [qn 2, qi, qn 8], [], [], 0⟩
theorem comp42 : compFun prog 42 = some (afOf prog 42) := by kernel_rfl
theorem s42 : ∀ J a0, seg0 (tabL tab42) prog F42 (afOf prog 42) J (a0, ()) = message_Event a0 := fun _ _ => by kernel_rfl
theorem cb42 : callable prog 42 = true := by kernel_rfl
theorem tok42 : TabOK prog tab42 := ⟨ok62, cb62, trivial⟩
theorem ok42 : con42.ok prog 42 := fun a r h => fun_spec (f := F42) (tabL_ok tok42) (tabL_cb tok42) (by kernel_rfl) comp42 0 (a := a) ((s42 _ a.1).trans h)
/- slices.Clone[[]tailwater/api.Event,tailwater/api.Event] -/
def con44 : TCon := cloneCon 96 5 40 qY6
theorem cb44 : callable prog 44 = true := by kernel_rfl
theorem ok44 : con44.ok prog 44 := cloneCon_ok (zero := [.p (.bool false), .p (.int .i64 0), .p (.int .i64 0), .p (.int .i64 0), .p (.int .i64 0)]) (by kernel_rfl) rfl (by decide) rfl
def con44p : TCon := ⟨[.c (.sl qY6)], [.c (.p (.sl qY6))], con44.fn⟩
theorem ok44p : con44p.ok prog 44 := fun a r h => TCon.frz (c := con44) ok44 rfl a r h
def con16 : TCon := ⟨[.c (.int .i64), .c (.sl qY6)], [.a [.p (.int .u8), .p (.int .i64), .p (.int .i64), .p (.sl qY5), .p (.sl qY11), .p (.sl qY4), .s 96 5 qY6, .p (.sl qY3), .p (.sl qY9)], .c (.p (.int .i64))], fun a => source_New a.1 a.2.1⟩
def tab16 : List (Nat × TCon) := [(42, con42), (44, con44)]
def F16 : TFun := ⟨[], [(17, qc [[.c (.p (.sl qY6))], [.c (.fn 41 [])], qn 5, qi, qi, qn 19, qi, [.c (.p (.sl qY6))], qn 2, [.boxN 69 9 [.any, .any, .any, .nil, .nil, .nil, .nil, .nil, .nil]], qn 22])], con16.args, con16.res, qc [qn 4, [.boxN 69 9 [.p (.int .u8), .p (.int .i64), .p (.int .i64), .p (.sl qY5), .p (.sl qY11), .p (.sl qY4), .rowN 96 5 qY6, .p (.sl qY3), .p (.sl qY9)]], qi, qn 21], [(23, [41]), (13, [63]), (10, [43])], [(17, [9, 27])], 8⟩
abbrev g16_17 (J : JT F16) := fun y0 y1 y2 y3 y4 => J 17 (y0, y1, y2, y3, y4, ())
theorem comp16 : compFun prog 16 = some (afOf prog 16) := by kernel_rfl
theorem s16 : ∀ J a0 a1, seg0 (tabL tab16) prog F16 (afOf prog 16) J (a0, a1, ()) = source_New_c (g16_17 J) a0 a1 := fun _ _ _ => by kernel_rfl
theorem s16_17 : ∀ J x0 x1 x2 x3 x4, seg (tabL tab16) prog F16 (afOf prog 16) J 17 (x0, x1, x2, x3, x4, ()) = source_New_c17 (g16_17 J) x0 x1 x2 x3 x4 := fun _ _ _ _ _ _ => by kernel_rfl
theorem i16 : ∀ n, source_New_i17 n = g16_17 (iter (tabL tab16) prog F16 (afOf prog 16) n)
  | 0 => rfl
  | n + 1 => by
    obtain h17 := i16 n
    exact by funext x0 x1 x2 x3 x4; exact ((s16_17 _ x0 x1 x2 x3 x4).trans (by show _ = source_New_c17 (source_New_i17 n) x0 x1 x2 x3 x4; rw [h17]; try rfl)).symm
theorem cb16 : callable prog 16 = true := by kernel_rfl
theorem tok16 : TabOK prog tab16 := ⟨ok42, cb42, ok44, cb44, trivial⟩
theorem ok16 : con16.ok prog 16 := fun a r h => by
  obtain h17 := i16 fuel
  refine fun_spec (f := F16) (tabL_ok tok16) (tabL_cb tok16) (by kernel_rfl) comp16 fuel (a := a) ((s16 _ a.1 a.2.1).trans ?_)
  have h : source_New_c (source_New_i17 fuel) a.1 a.2.1 = some r := h
  rw [h17] at h
  exact h
def con16p : TCon := ⟨[.c (.int .i64), .c (.sl qY6)], [.a [.p (.int .u8), .p (.int .i64), .p (.int .i64), .p (.sl qY5), .p (.sl qY11), .p (.sl qY4), .p (.sl qY6), .p (.sl qY3), .p (.sl qY9)], .c (.p (.int .i64))], fun a => source_New a.1 a.2.1⟩
theorem ok16p : con16p.ok prog 16 := fun a r h => TCon.frz (c := con16) ok16 rfl a r h
/- math/bits.Mul32 -/
def con97 : TCon := ⟨[.c (.int .u32), .c (.int .u32)], [.c (.p (.int .u32)), .c (.p (.int .u32))], fun a => math_bits_Mul32 a.1 a.2.1⟩
def tab97 : List (Nat × TCon) := []
def F97 : TFun := ⟨[], [], con97.args, con97.res, qc [qn 4, [.c (.p (.int .u32))], [.c (.p (.int .u32))], qn 11], [], [], 0⟩
theorem comp97 : compFun prog 97 = some (afOf prog 97) := by kernel_rfl
theorem s97 : ∀ J a0 a1, seg0 (tabL tab97) prog F97 (afOf prog 97) J (a0, a1, ()) = math_bits_Mul32 a0 a1 := fun _ _ _ => by kernel_rfl
theorem cb97 : callable prog 97 = true := by kernel_rfl
theorem tok97 : TabOK prog tab97 := trivial
theorem ok97 : con97.ok prog 97 := fun a r h => fun_spec (f := F97) (tabL_ok tok97) (tabL_cb tok97) (by kernel_rfl) comp97 0 (a := a) ((s97 _ a.1 a.2.1).trans h)
/- math/bits.Mul64 -/
def con98 : TCon := ⟨[.c (.int .u64), .c (.int .u64)], [.c (.p (.int .u64)), .c (.p (.int .u64))], fun a => math_bits_Mul64 a.1 a.2.1⟩
def tab98 : List (Nat × TCon) := []
def F98 : TFun := ⟨[], [], con98.args, con98.res, qc [qn 4, [.c (.p (.int .u64))], [.c (.p (.int .u64))], qn 45], [], [], 0⟩
theorem comp98 : compFun prog 98 = some (afOf prog 98) := by kernel_rfl
theorem s98 : ∀ J a0 a1, seg0 (tabL tab98) prog F98 (afOf prog 98) J (a0, a1, ()) = math_bits_Mul64 a0 a1 := fun _ _ _ => by kernel_rfl
theorem cb98 : callable prog 98 = true := by kernel_rfl
theorem tok98 : TabOK prog tab98 := trivial
theorem ok98 : con98.ok prog 98 := fun a r h => fun_spec (f := F98) (tabL_ok tok98) (tabL_cb tok98) (by kernel_rfl) comp98 0 (a := a) ((s98 _ a.1 a.2.1).trans h)
/- math/bits.Mul -/
def con85 : TCon := ⟨[.c (.int .u64), .c (.int .u64)], [.c (.p (.int .u64)), .c (.p (.int .u64))], fun a => math_bits_Mul a.1 a.2.1⟩
def tab85 : List (Nat × TCon) := [(97, con97), (98, con98)]
def F85 : TFun := ⟨[], [], con85.args, con85.res, qc [qn 4, [.c (.p (.int .u64))], [.c (.p (.int .u64))], qn 24], [], [], 0⟩
theorem comp85 : compFun prog 85 = some (afOf prog 85) := by kernel_rfl
theorem s85 : ∀ J a0 a1, seg0 (tabL tab85) prog F85 (afOf prog 85) J (a0, a1, ()) = math_bits_Mul a0 a1 := fun _ _ _ => by kernel_rfl
theorem cb85 : callable prog 85 = true := by kernel_rfl
theorem tok85 : TabOK prog tab85 := ⟨ok97, cb97, ok98, cb98, trivial⟩
theorem ok85 : con85.ok prog 85 := fun a r h => fun_spec (f := F85) (tabL_ok tok85) (tabL_cb tok85) (by kernel_rfl) comp85 0 (a := a) ((s85 _ a.1 a.2.1).trans h)
/- slices.Repeat[[]int64,int64] -/
def con64 : TCon := ⟨[.c (.sl qY11), .c (.int .i64)], [.c (.s 2 1 qY11)], fun a => slices_Repeat___int64_int64_ a.1 a.2.1⟩
def tab64 : List (Nat × TCon) := [(85, con85)]
def F64 : TFun := ⟨[1, 5], [(1, qc [[.c (.p (.sl qY11))], qi, qn 46]), (5, qc [[.c (.p (.sl qY11))], qn 5, [.c (.p (.int .u64))], qn 41]), (10, qc [qn 7, [.c (.rowN 2 1 qY11)], qi, qn 39])], con64.args, con64.res, qc [qn 4, [.c (.rowN 2 1 qY11)], qn 43], [], [], 0⟩
abbrev g64_1 (J : JT F64) := fun y0 y1 => J 1 (y0, y1, ())
abbrev g64_5 (J : JT F64) := fun y0 y1 => J 5 (y0, y1, ())
abbrev g64_10 (J : JT F64) := fun y0 y1 => J 10 (y0, y1, ())
theorem comp64 : compFun prog 64 = some (afOf prog 64) := by kernel_rfl
theorem s64 : ∀ J a0 a1, seg0 (tabL tab64) prog F64 (afOf prog 64) J (a0, a1, ()) = slices_Repeat___int64_int64__c (g64_1 J) (g64_5 J) (g64_10 J) a0 a1 := fun _ _ _ => by kernel_rfl
theorem s64_1 : ∀ J x0 x1, seg (tabL tab64) prog F64 (afOf prog 64) J 1 (x0, x1, ()) = slices_Repeat___int64_int64__c1 (g64_1 J) (g64_5 J) (g64_10 J) x0 x1 := fun _ _ _ => by kernel_rfl
theorem s64_5 : ∀ J x0 x1, seg (tabL tab64) prog F64 (afOf prog 64) J 5 (x0, x1, ()) = slices_Repeat___int64_int64__c5 (g64_1 J) (g64_5 J) (g64_10 J) x0 x1 := fun _ _ _ => by kernel_rfl
theorem s64_10 : ∀ J x0 x1, seg (tabL tab64) prog F64 (afOf prog 64) J 10 (x0, x1, ()) = slices_Repeat___int64_int64__c10 (g64_1 J) (g64_5 J) (g64_10 J) x0 x1 := fun _ _ _ => by kernel_rfl
theorem i64 : ∀ n, slices_Repeat___int64_int64__i1 n = g64_1 (iter (tabL tab64) prog F64 (afOf prog 64) n) ∧ slices_Repeat___int64_int64__i5 n = g64_5 (iter (tabL tab64) prog F64 (afOf prog 64) n) ∧ slices_Repeat___int64_int64__i10 n = g64_10 (iter (tabL tab64) prog F64 (afOf prog 64) n)
  | 0 => ⟨rfl, rfl, rfl⟩
  | n + 1 => by
    obtain ⟨h1, h5, h10⟩ := i64 n
    exact ⟨by funext x0 x1; exact ((s64_1 _ x0 x1).trans (by show _ = slices_Repeat___int64_int64__c1 (slices_Repeat___int64_int64__i1 n) (slices_Repeat___int64_int64__i5 n) (slices_Repeat___int64_int64__i10 n) x0 x1; rw [h1, h5, h10]; try rfl)).symm, by funext x0 x1; exact ((s64_5 _ x0 x1).trans (by show _ = slices_Repeat___int64_int64__c5 (slices_Repeat___int64_int64__i1 n) (slices_Repeat___int64_int64__i5 n) (slices_Repeat___int64_int64__i10 n) x0 x1; rw [h1, h5, h10]; try rfl)).symm, by funext x0 x1; exact ((s64_10 _ x0 x1).trans (by show _ = slices_Repeat___int64_int64__c10 (slices_Repeat___int64_int64__i1 n) (slices_Repeat___int64_int64__i5 n) (slices_Repeat___int64_int64__i10 n) x0 x1; rw [h1, h5, h10]; try rfl)).symm⟩
theorem cb64 : callable prog 64 = true := by kernel_rfl
theorem tok64 : TabOK prog tab64 := ⟨ok85, cb85, trivial⟩
theorem ok64 : con64.ok prog 64 := fun a r h => by
  obtain ⟨h1, h5, h10⟩ := i64 fuel
  refine fun_spec (f := F64) (tabL_ok tok64) (tabL_cb tok64) (by kernel_rfl) comp64 fuel (a := a) ((s64 _ a.1 a.2.1).trans ?_)
  have h : slices_Repeat___int64_int64__c (slices_Repeat___int64_int64__i1 fuel) (slices_Repeat___int64_int64__i5 fuel) (slices_Repeat___int64_int64__i10 fuel) a.1 a.2.1 = some r := h
  rw [h1, h5, h10] at h
  exact h
def con64p : TCon := ⟨[.c (.sl qY11), .c (.int .i64)], [.c (.p (.sl qY11))], fun a => slices_Repeat___int64_int64_ a.1 a.2.1⟩
theorem ok64p : con64p.ok prog 64 := fun a r h => TCon.frz (c := con64) ok64 rfl a r h
def con45 : TCon := ⟨[.c (.int .i64)], [.c (.s 2 1 qY11), .c (.p (.int .i64))], fun a => marks_New a.1⟩
def tab45 : List (Nat × TCon) := [(64, con64)]
def F45 : TFun := ⟨[], [], con45.args, con45.res, qc [qn 2, [.c (.rowN 2 1 qY11)], qi, qn 9], [], [], 0⟩
theorem comp45 : compFun prog 45 = some (afOf prog 45) := by kernel_rfl
theorem s45 : ∀ J a0, seg0 (tabL tab45) prog F45 (afOf prog 45) J (a0, ()) = marks_New a0 := fun _ _ => by kernel_rfl
theorem cb45 : callable prog 45 = true := by kernel_rfl
theorem tok45 : TabOK prog tab45 := ⟨ok64, cb64, trivial⟩
theorem ok45 : con45.ok prog 45 := fun a r h => fun_spec (f := F45) (tabL_ok tok45) (tabL_cb tok45) (by kernel_rfl) comp45 0 (a := a) ((s45 _ a.1).trans h)
def con45p : TCon := ⟨[.c (.int .i64)], [.c (.p (.sl qY11)), .c (.p (.int .i64))], fun a => marks_New a.1⟩
theorem ok45p : con45p.ok prog 45 := fun a r h => TCon.frz (c := con45) ok45 rfl a r h
def con20 : TCon := ⟨[.c (.int .i64), .c (.int .i64)], [.a [.p (.int .u8), .p (.int .i64), .p (.int .i64), .p (.sl qY5), .s 2 1 qY11, .p (.sl qY4), .p (.sl qY6), .p (.sl qY3), .p (.sl qY9)], .c (.p (.int .i64))], fun a => agg_New a.1 a.2.1⟩
def tab20 : List (Nat × TCon) := [(45, con45)]
def F20 : TFun := ⟨[], [], con20.args, con20.res, qc [qn 4, [.boxN 69 9 [.p (.int .u8), .p (.int .i64), .p (.int .i64), .p (.sl qY5), .rowN 2 1 qY11, .p (.sl qY4), .p (.sl qY6), .p (.sl qY3), .p (.sl qY9)]], qi, qn 22], [], [], 0⟩
theorem comp20 : compFun prog 20 = some (afOf prog 20) := by kernel_rfl
theorem s20 : ∀ J a0 a1, seg0 (tabL tab20) prog F20 (afOf prog 20) J (a0, a1, ()) = agg_New a0 a1 := fun _ _ _ => by kernel_rfl
theorem cb20 : callable prog 20 = true := by kernel_rfl
theorem tok20 : TabOK prog tab20 := ⟨ok45, cb45, trivial⟩
theorem ok20 : con20.ok prog 20 := fun a r h => fun_spec (f := F20) (tabL_ok tok20) (tabL_cb tok20) (by kernel_rfl) comp20 0 (a := a) ((s20 _ a.1 a.2.1).trans h)
def con20p : TCon := ⟨[.c (.int .i64), .c (.int .i64)], [.a [.p (.int .u8), .p (.int .i64), .p (.int .i64), .p (.sl qY5), .p (.sl qY11), .p (.sl qY4), .p (.sl qY6), .p (.sl qY3), .p (.sl qY9)], .c (.p (.int .i64))], fun a => agg_New a.1 a.2.1⟩
theorem ok20p : con20p.ok prog 20 := fun a r h => TCon.frz (c := con20) ok20 rfl a r h
def con17 : TCon := ⟨[.c (.int .i64)], [.a [.p (.int .u8), .p (.int .i64), .p (.int .i64), .p (.sl qY5), .s 2 1 qY11, .p (.sl qY4), .p (.sl qY6), .p (.sl qY3), .p (.sl qY9)], .c (.p (.int .i64))], fun a => filter_New a.1⟩
def tab17 : List (Nat × TCon) := []
def F17 : TFun := ⟨[], [], con17.args, con17.res, qc [qn 2, [.boxN 69 9 [.p (.int .u8), .p (.int .i64), .p (.int .i64), .p (.sl qY5), .rowN 2 1 qY11, .p (.sl qY4), .p (.sl qY6), .p (.sl qY3), .p (.sl qY9)]], qi, qn 11], [], [], 0⟩
theorem comp17 : compFun prog 17 = some (afOf prog 17) := by kernel_rfl
theorem s17 : ∀ J a0, seg0 (tabL tab17) prog F17 (afOf prog 17) J (a0, ()) = filter_New a0 := fun _ _ => by kernel_rfl
theorem cb17 : callable prog 17 = true := by kernel_rfl
theorem tok17 : TabOK prog tab17 := trivial
theorem ok17 : con17.ok prog 17 := fun a r h => fun_spec (f := F17) (tabL_ok tok17) (tabL_cb tok17) (by kernel_rfl) comp17 0 (a := a) ((s17 _ a.1).trans h)
def con17p : TCon := ⟨[.c (.int .i64)], [.a [.p (.int .u8), .p (.int .i64), .p (.int .i64), .p (.sl qY5), .p (.sl qY11), .p (.sl qY4), .p (.sl qY6), .p (.sl qY3), .p (.sl qY9)], .c (.p (.int .i64))], fun a => filter_New a.1⟩
theorem ok17p : con17p.ok prog 17 := fun a r h => TCon.frz (c := con17) ok17 rfl a r h
def con18 : TCon := ⟨[.c (.int .i64)], [.a [.p (.int .u8), .p (.int .i64), .p (.int .i64), .p (.sl qY5), .p (.sl qY11), .p (.sl qY4), .p (.sl qY6), .p (.sl qY3), .p (.sl qY9)], .c (.p (.int .i64))], fun a => part_New a.1⟩
def tab18 : List (Nat × TCon) := []
def F18 : TFun := ⟨[], [], con18.args, con18.res, qc [qn 2, [.boxN 69 9 [.p (.int .u8), .p (.int .i64), .p (.int .i64), .p (.sl qY5), .p (.sl qY11), .p (.sl qY4), .p (.sl qY6), .p (.sl qY3), .p (.sl qY9)]], qi, qn 10], [], [], 0⟩
theorem comp18 : compFun prog 18 = some (afOf prog 18) := by kernel_rfl
theorem s18 : ∀ J a0, seg0 (tabL tab18) prog F18 (afOf prog 18) J (a0, ()) = part_New a0 := fun _ _ => by kernel_rfl
theorem cb18 : callable prog 18 = true := by kernel_rfl
theorem tok18 : TabOK prog tab18 := trivial
theorem ok18 : con18.ok prog 18 := fun a r h => fun_spec (f := F18) (tabL_ok tok18) (tabL_cb tok18) (by kernel_rfl) comp18 0 (a := a) ((s18 _ a.1).trans h)
def con21 : TCon := ⟨[.c (.int .i64)], [.a [.p (.int .u8), .p (.int .i64), .p (.int .i64), .p (.sl qY5), .p (.sl qY11), .p (.sl qY4), .p (.sl qY6), .p (.sl qY3), .p (.sl qY9)], .c (.p (.int .i64))], fun a => join_New a.1⟩
def tab21 : List (Nat × TCon) := [(45, con45p)]
def F21 : TFun := ⟨[], [], con21.args, con21.res, qc [qn 2, [.boxN 69 9 [.p (.int .u8), .p (.int .i64), .p (.int .i64), .p (.sl qY5), .p (.sl qY11), .p (.sl qY4), .p (.sl qY6), .p (.sl qY3), .p (.sl qY9)]], qi, qn 17], [], [], 0⟩
theorem comp21 : compFun prog 21 = some (afOf prog 21) := by kernel_rfl
theorem s21 : ∀ J a0, seg0 (tabL tab21) prog F21 (afOf prog 21) J (a0, ()) = join_New a0 := fun _ _ => by kernel_rfl
theorem cb21 : callable prog 21 = true := by kernel_rfl
theorem tok21 : TabOK prog tab21 := ⟨ok45p, cb45, trivial⟩
theorem ok21 : con21.ok prog 21 := fun a r h => fun_spec (f := F21) (tabL_ok tok21) (tabL_cb tok21) (by kernel_rfl) comp21 0 (a := a) ((s21 _ a.1).trans h)
def con23 : TCon := ⟨[.c (.bool)], [.a [.p (.int .u8), .p (.int .i64), .p (.int .i64), .p (.sl qY5), .p (.sl qY11), .p (.sl qY4), .p (.sl qY6), .p (.sl qY3), .p (.sl qY9)]], fun a => sink_New a.1⟩
def tab23 : List (Nat × TCon) := []
def F23 : TFun := ⟨[], [], con23.args, con23.res, qc [qn 2, [.boxN 69 9 [.p (.int .u8), .p (.int .i64), .p (.int .i64), .p (.sl qY5), .p (.sl qY11), .p (.sl qY4), .p (.sl qY6), .p (.sl qY3), .p (.sl qY9)]], qn 5], [], [], 0⟩
theorem comp23 : compFun prog 23 = some (afOf prog 23) := by kernel_rfl
theorem s23 : ∀ J a0, seg0 (tabL tab23) prog F23 (afOf prog 23) J (a0, ()) = sink_New a0 := fun _ _ => by kernel_rfl
theorem cb23 : callable prog 23 = true := by kernel_rfl
theorem tok23 : TabOK prog tab23 := trivial
theorem ok23 : con23.ok prog 23 := fun a r h => fun_spec (f := F23) (tabL_ok tok23) (tabL_cb tok23) (by kernel_rfl) comp23 0 (a := a) ((s23 _ a.1).trans h)
def con25 : TCon := ⟨[.c (.int .i64)], [.a [.p (.int .i64), .p (.sl qY7)], .c (.p (.int .i64))], fun a => channel_New a.1⟩
def tab25 : List (Nat × TCon) := []
def F25 : TFun := ⟨[], [], con25.args, con25.res, qc [qn 2, [.boxN 80 2 [.p (.int .i64), .p (.sl qY7)]], qi, qn 9], [], [], 0⟩
theorem comp25 : compFun prog 25 = some (afOf prog 25) := by kernel_rfl
theorem s25 : ∀ J a0, seg0 (tabL tab25) prog F25 (afOf prog 25) J (a0, ()) = channel_New a0 := fun _ _ => by kernel_rfl
theorem cb25 : callable prog 25 = true := by kernel_rfl
theorem tok25 : TabOK prog tab25 := trivial
theorem ok25 : con25.ok prog 25 := fun a r h => fun_spec (f := F25) (tabL_ok tok25) (tabL_cb tok25) (by kernel_rfl) comp25 0 (a := a) ((s25 _ a.1).trans h)
def con106 : TCon := ⟨[.c (.int .u8)], [.c (.p (.int .i64))], fun a => ref04_Count a.1⟩
def tab106 : List (Nat × TCon) := []
def F106 : TFun := ⟨[], [], con106.args, con106.res, qc [qn 2, qi, qn 4], [], [], 0⟩
theorem comp106 : compFun prog 106 = some (afOf prog 106) := by kernel_rfl
theorem s106 : ∀ J a0, seg0 (tabL tab106) prog F106 (afOf prog 106) J (a0, ()) = ref04_Count a0 := fun _ _ => by kernel_rfl
theorem cb106 : callable prog 106 = true := by kernel_rfl
theorem tok106 : TabOK prog tab106 := trivial
theorem ok106 : con106.ok prog 106 := fun a r h => fun_spec (f := F106) (tabL_ok tok106) (tabL_cb tok106) (by kernel_rfl) comp106 0 (a := a) ((s106 _ a.1).trans h)
def con107 : TCon := ⟨[.a qY2, .c (.int .i64), .c (.int .i64)], [.c (.p (.bool))], fun a => ref04_right a.1 a.2.1 a.2.2.1⟩
def tab107 : List (Nat × TCon) := []
def F107 : TFun := ⟨[], [], con107.args, con107.res, qc [qn 6, qb, qn 45], [], [], 0⟩
theorem comp107 : compFun prog 107 = some (afOf prog 107) := by kernel_rfl
theorem s107 : ∀ J a0 a1 a2, seg0 (tabL tab107) prog F107 (afOf prog 107) J (a0, a1, a2, ()) = ref04_right a0 a1 a2 := fun _ _ _ _ => by kernel_rfl
theorem cb107 : callable prog 107 = true := by kernel_rfl
theorem tok107 : TabOK prog tab107 := trivial
theorem ok107 : con107.ok prog 107 := fun a r h => fun_spec (f := F107) (tabL_ok tok107) (tabL_cb tok107) (by kernel_rfl) comp107 0 (a := a) ((s107 _ a.1 a.2.1 a.2.2.1).trans h)
def con87 : TCon := ⟨[.c (.sl qY11), .c (.bool)], [.c (.p (.int .i64))], fun a => ref08_Sources a.1 a.2.1⟩
def tab87 : List (Nat × TCon) := []
def F87 : TFun := ⟨[7], [(7, qc [[.c (.p (.sl qY11))], qn 59]), (9, qc [[.c (.p (.sl qY11))], qn 4, qi, qn 54]), (17, qc [[.c (.p (.sl qY11))], qn 5, qi, qn 53]), (22, qc [[.c (.p (.sl qY11))], qn 5, qi, qi, qn 52])], con87.args, con87.res, qc [qn 4, qi, qn 55], [], [], 0⟩
abbrev g87_7 (J : JT F87) := fun y0 => J 7 (y0, ())
abbrev g87_9 (J : JT F87) := fun y0 y1 => J 9 (y0, y1, ())
abbrev g87_17 (J : JT F87) := fun y0 y1 => J 17 (y0, y1, ())
abbrev g87_22 (J : JT F87) := fun y0 y1 y2 => J 22 (y0, y1, y2, ())
theorem comp87 : compFun prog 87 = some (afOf prog 87) := by kernel_rfl
theorem s87 : ∀ J a0 a1, seg0 (tabL tab87) prog F87 (afOf prog 87) J (a0, a1, ()) = ref08_Sources_c (g87_7 J) (g87_9 J) (g87_17 J) (g87_22 J) a0 a1 := fun _ _ _ => by kernel_rfl
theorem s87_7 : ∀ J x0, seg (tabL tab87) prog F87 (afOf prog 87) J 7 (x0, ()) = ref08_Sources_c7 (g87_7 J) (g87_9 J) (g87_17 J) (g87_22 J) x0 := fun _ _ => by kernel_rfl
theorem s87_9 : ∀ J x0 x1, seg (tabL tab87) prog F87 (afOf prog 87) J 9 (x0, x1, ()) = ref08_Sources_c9 (g87_7 J) (g87_9 J) (g87_17 J) (g87_22 J) x0 x1 := fun _ _ _ => by kernel_rfl
theorem s87_17 : ∀ J x0 x1, seg (tabL tab87) prog F87 (afOf prog 87) J 17 (x0, x1, ()) = ref08_Sources_c17 (g87_7 J) (g87_9 J) (g87_17 J) (g87_22 J) x0 x1 := fun _ _ _ => by kernel_rfl
theorem s87_22 : ∀ J x0 x1 x2, seg (tabL tab87) prog F87 (afOf prog 87) J 22 (x0, x1, x2, ()) = ref08_Sources_c22 (g87_7 J) (g87_9 J) (g87_17 J) (g87_22 J) x0 x1 x2 := fun _ _ _ _ => by kernel_rfl
theorem i87 : ∀ n, ref08_Sources_i7 n = g87_7 (iter (tabL tab87) prog F87 (afOf prog 87) n) ∧ ref08_Sources_i9 n = g87_9 (iter (tabL tab87) prog F87 (afOf prog 87) n) ∧ ref08_Sources_i17 n = g87_17 (iter (tabL tab87) prog F87 (afOf prog 87) n) ∧ ref08_Sources_i22 n = g87_22 (iter (tabL tab87) prog F87 (afOf prog 87) n)
  | 0 => ⟨rfl, rfl, rfl, rfl⟩
  | n + 1 => by
    obtain ⟨h7, h9, h17, h22⟩ := i87 n
    exact ⟨by funext x0; exact ((s87_7 _ x0).trans (by show _ = ref08_Sources_c7 (ref08_Sources_i7 n) (ref08_Sources_i9 n) (ref08_Sources_i17 n) (ref08_Sources_i22 n) x0; rw [h7, h9, h17, h22]; try rfl)).symm, by funext x0 x1; exact ((s87_9 _ x0 x1).trans (by show _ = ref08_Sources_c9 (ref08_Sources_i7 n) (ref08_Sources_i9 n) (ref08_Sources_i17 n) (ref08_Sources_i22 n) x0 x1; rw [h7, h9, h17, h22]; try rfl)).symm, by funext x0 x1; exact ((s87_17 _ x0 x1).trans (by show _ = ref08_Sources_c17 (ref08_Sources_i7 n) (ref08_Sources_i9 n) (ref08_Sources_i17 n) (ref08_Sources_i22 n) x0 x1; rw [h7, h9, h17, h22]; try rfl)).symm, by funext x0 x1 x2; exact ((s87_22 _ x0 x1 x2).trans (by show _ = ref08_Sources_c22 (ref08_Sources_i7 n) (ref08_Sources_i9 n) (ref08_Sources_i17 n) (ref08_Sources_i22 n) x0 x1 x2; rw [h7, h9, h17, h22]; try rfl)).symm⟩
theorem cb87 : callable prog 87 = true := by kernel_rfl
theorem tok87 : TabOK prog tab87 := trivial
theorem ok87 : con87.ok prog 87 := fun a r h => by
  obtain ⟨h7, h9, h17, h22⟩ := i87 fuel
  refine fun_spec (f := F87) (tabL_ok tok87) (tabL_cb tok87) (by kernel_rfl) comp87 fuel (a := a) ((s87 _ a.1 a.2.1).trans ?_)
  have h : ref08_Sources_c (ref08_Sources_i7 fuel) (ref08_Sources_i9 fuel) (ref08_Sources_i17 fuel) (ref08_Sources_i22 fuel) a.1 a.2.1 = some r := h
  rw [h7, h9, h17, h22] at h
  exact h
def con88 : TCon := ⟨[.a [.int .u8, .int .i64, .int .i64]], [.c (.p (.bool))], fun a => ref08_Fits a.1⟩
def tab88 : List (Nat × TCon) := []
def F88 : TFun := ⟨[], [], con88.args, con88.res, qc [qn 2, qb, qn 42], [], [], 0⟩
theorem comp88 : compFun prog 88 = some (afOf prog 88) := by kernel_rfl
theorem s88 : ∀ J a0, seg0 (tabL tab88) prog F88 (afOf prog 88) J (a0, ()) = ref08_Fits a0 := fun _ _ => by kernel_rfl
theorem cb88 : callable prog 88 = true := by kernel_rfl
theorem tok88 : TabOK prog tab88 := trivial
theorem ok88 : con88.ok prog 88 := fun a r h => fun_spec (f := F88) (tabL_ok tok88) (tabL_cb tok88) (by kernel_rfl) comp88 0 (a := a) ((s88 _ a.1).trans h)
def con109 : TCon := ⟨[.c (.int .u8)], [.c (.p (.bool))], fun a => ref06_Gives a.1⟩
def tab109 : List (Nat × TCon) := []
def F109 : TFun := ⟨[], [], con109.args, con109.res, qc [qn 2, qb, qn 6], [], [], 0⟩
theorem comp109 : compFun prog 109 = some (afOf prog 109) := by kernel_rfl
theorem s109 : ∀ J a0, seg0 (tabL tab109) prog F109 (afOf prog 109) J (a0, ()) = ref06_Gives a0 := fun _ _ => by kernel_rfl
theorem cb109 : callable prog 109 = true := by kernel_rfl
theorem tok109 : TabOK prog tab109 := trivial
theorem ok109 : con109.ok prog 109 := fun a r h => fun_spec (f := F109) (tabL_ok tok109) (tabL_cb tok109) (by kernel_rfl) comp109 0 (a := a) ((s109 _ a.1).trans h)
def con110 : TCon := ⟨[.c (.sl qY2), .c (.int .i64)], [.c (.p (.bool))], fun a => ref06_fits a.1 a.2.1⟩
def tab110 : List (Nat × TCon) := [(109, con109)]
def F110 : TFun := ⟨[], [], con110.args, con110.res, qc [qn 4, qb, qn 62], [], [], 0⟩
theorem comp110 : compFun prog 110 = some (afOf prog 110) := by kernel_rfl
theorem s110 : ∀ J a0 a1, seg0 (tabL tab110) prog F110 (afOf prog 110) J (a0, a1, ()) = ref06_fits a0 a1 := fun _ _ _ => by kernel_rfl
theorem cb110 : callable prog 110 = true := by kernel_rfl
theorem tok110 : TabOK prog tab110 := ⟨ok109, cb109, trivial⟩
theorem ok110 : con110.ok prog 110 := fun a r h => fun_spec (f := F110) (tabL_ok tok110) (tabL_cb tok110) (by kernel_rfl) comp110 0 (a := a) ((s110 _ a.1 a.2.1).trans h)
def con108 : TCon := ⟨[.c (.sl qY2)], [.c (.p (.int .i64))], fun a => ref06_Wrong a.1⟩
def tab108 : List (Nat × TCon) := [(110, con110)]
def F108 : TFun := ⟨[], [(3, qc [[.c (.p (.sl qY2))], qn 2, qi, qn 13])], con108.args, con108.res, qc [qn 2, qi, qn 14], [], [], 0⟩
abbrev g108_3 (J : JT F108) := fun y0 y1 => J 3 (y0, y1, ())
theorem comp108 : compFun prog 108 = some (afOf prog 108) := by kernel_rfl
theorem s108 : ∀ J a0, seg0 (tabL tab108) prog F108 (afOf prog 108) J (a0, ()) = ref06_Wrong_c (g108_3 J) a0 := fun _ _ => by kernel_rfl
theorem s108_3 : ∀ J x0 x1, seg (tabL tab108) prog F108 (afOf prog 108) J 3 (x0, x1, ()) = ref06_Wrong_c3 (g108_3 J) x0 x1 := fun _ _ _ => by kernel_rfl
theorem i108 : ∀ n, ref06_Wrong_i3 n = g108_3 (iter (tabL tab108) prog F108 (afOf prog 108) n)
  | 0 => rfl
  | n + 1 => by
    obtain h3 := i108 n
    exact by funext x0 x1; exact ((s108_3 _ x0 x1).trans (by show _ = ref06_Wrong_c3 (ref06_Wrong_i3 n) x0 x1; rw [h3]; try rfl)).symm
theorem cb108 : callable prog 108 = true := by kernel_rfl
theorem tok108 : TabOK prog tab108 := ⟨ok110, cb110, trivial⟩
theorem ok108 : con108.ok prog 108 := fun a r h => by
  obtain h3 := i108 fuel
  refine fun_spec (f := F108) (tabL_ok tok108) (tabL_cb tok108) (by kernel_rfl) comp108 fuel (a := a) ((s108 _ a.1).trans ?_)
  have h : ref06_Wrong_c (ref06_Wrong_i3 fuel) a.1 = some r := h
  rw [h3] at h
  exact h
def con90 : TCon := ⟨[.c (.int .i64), .c (.int .i64)], [.c (.p (.int .i64))], fun a => ref13_Check a.1 a.2.1⟩
def tab90 : List (Nat × TCon) := []
def F90 : TFun := ⟨[], [], con90.args, con90.res, qc [qn 4, qi, qn 12], [], [], 0⟩
theorem comp90 : compFun prog 90 = some (afOf prog 90) := by kernel_rfl
theorem s90 : ∀ J a0 a1, seg0 (tabL tab90) prog F90 (afOf prog 90) J (a0, a1, ()) = ref13_Check a0 a1 := fun _ _ _ => by kernel_rfl
theorem cb90 : callable prog 90 = true := by kernel_rfl
theorem tok90 : TabOK prog tab90 := trivial
theorem ok90 : con90.ok prog 90 := fun a r h => fun_spec (f := F90) (tabL_ok tok90) (tabL_cb tok90) (by kernel_rfl) comp90 0 (a := a) ((s90 _ a.1 a.2.1).trans h)
def con67 : TCon := ⟨[.a qY6], [.c (.p (.bool))], fun a => ref20_Valid a.1⟩
def tab67 : List (Nat × TCon) := [(90, con90)]
def F67 : TFun := ⟨[], [], con67.args, con67.res, qc [qn 2, qb, qn 27], [], [], 0⟩
theorem comp67 : compFun prog 67 = some (afOf prog 67) := by kernel_rfl
theorem s67 : ∀ J a0, seg0 (tabL tab67) prog F67 (afOf prog 67) J (a0, ()) = ref20_Valid a0 := fun _ _ => by kernel_rfl
theorem cb67 : callable prog 67 = true := by kernel_rfl
theorem tok67 : TabOK prog tab67 := ⟨ok90, cb90, trivial⟩
theorem ok67 : con67.ok prog 67 := fun a r h => fun_spec (f := F67) (tabL_ok tok67) (tabL_cb tok67) (by kernel_rfl) comp67 0 (a := a) ((s67 _ a.1).trans h)
def con47 : TCon := ⟨[.c (.sl qY6)], [.c (.p (.int .i64))], fun a => ref20_Check a.1⟩
def tab47 : List (Nat × TCon) := [(67, con67)]
def F47 : TFun := ⟨[], [(6, qc [[.c (.p (.sl qY6))], qn 2, qi, qn 15])], con47.args, con47.res, qc [qn 2, qi, qn 16], [], [], 0⟩
abbrev g47_6 (J : JT F47) := fun y0 y1 => J 6 (y0, y1, ())
theorem comp47 : compFun prog 47 = some (afOf prog 47) := by kernel_rfl
theorem s47 : ∀ J a0, seg0 (tabL tab47) prog F47 (afOf prog 47) J (a0, ()) = ref20_Check_c (g47_6 J) a0 := fun _ _ => by kernel_rfl
theorem s47_6 : ∀ J x0 x1, seg (tabL tab47) prog F47 (afOf prog 47) J 6 (x0, x1, ()) = ref20_Check_c6 (g47_6 J) x0 x1 := fun _ _ _ => by kernel_rfl
theorem i47 : ∀ n, ref20_Check_i6 n = g47_6 (iter (tabL tab47) prog F47 (afOf prog 47) n)
  | 0 => rfl
  | n + 1 => by
    obtain h6 := i47 n
    exact by funext x0 x1; exact ((s47_6 _ x0 x1).trans (by show _ = ref20_Check_c6 (ref20_Check_i6 n) x0 x1; rw [h6]; try rfl)).symm
theorem cb47 : callable prog 47 = true := by kernel_rfl
theorem tok47 : TabOK prog tab47 := ⟨ok67, cb67, trivial⟩
theorem ok47 : con47.ok prog 47 := fun a r h => by
  obtain h6 := i47 fuel
  refine fun_spec (f := F47) (tabL_ok tok47) (tabL_cb tok47) (by kernel_rfl) comp47 fuel (a := a) ((s47 _ a.1).trans ?_)
  have h : ref20_Check_c (ref20_Check_i6 fuel) a.1 = some r := h
  rw [h6] at h
  exact h
def con69 : TCon := ⟨[.a qY8, .c (.int .u8)], [.c (.p (.bool))], fun a => ref22_Has a.1 a.2.1⟩
def tab69 : List (Nat × TCon) := []
def F69 : TFun := ⟨[], [], con69.args, con69.res, qc [qn 4, qb, qn 31], [], [], 0⟩
theorem comp69 : compFun prog 69 = some (afOf prog 69) := by kernel_rfl
theorem s69 : ∀ J a0 a1, seg0 (tabL tab69) prog F69 (afOf prog 69) J (a0, a1, ()) = ref22_Has a0 a1 := fun _ _ _ => by kernel_rfl
theorem cb69 : callable prog 69 = true := by kernel_rfl
theorem tok69 : TabOK prog tab69 := trivial
theorem ok69 : con69.ok prog 69 := fun a r h => fun_spec (f := F69) (tabL_ok tok69) (tabL_cb tok69) (by kernel_rfl) comp69 0 (a := a) ((s69 _ a.1 a.2.1).trans h)
def con68 : TCon := ⟨[.a qY8], [.c (.s 5 1 [.int .u8])], fun a => ref22_Steps a.1⟩
def tab68 : List (Nat × TCon) := [(69, con69)]
def F68 : TFun := ⟨[], [(4, qc [qn 1, [.boxN 27 10 [.p (.int .u8), .p (.sl qY2), .p (.sl qY11), .p (.bool), .p (.sl qY2), .p (.int .u8), .p (.int .i64), .p (.int .i64), .p (.bool), .p (.int .u8)]], qn 1, [.c (.rowN 5 1 [.int .u8])], [.c (.p (.int .u8))], qn 12])], con68.args, con68.res, qc [qn 2, [.c (.rowN 5 1 [.int .u8])], qn 14], [], [], 0⟩
abbrev g68_4 (J : JT F68) := fun y0 y1 y2 y3 y4 y5 y6 y7 y8 y9 y10 y11 => J 4 (y0, y1, y2, y3, y4, y5, y6, y7, y8, y9, y10, y11, ())
theorem comp68 : compFun prog 68 = some (afOf prog 68) := by kernel_rfl
theorem s68 : ∀ J a0, seg0 (tabL tab68) prog F68 (afOf prog 68) J (a0, ()) = ref22_Steps_c (g68_4 J) a0 := fun _ _ => by kernel_rfl
theorem s68_4 : ∀ J x0 x1 x2 x3 x4 x5 x6 x7 x8 x9 x10 x11, seg (tabL tab68) prog F68 (afOf prog 68) J 4 (x0, x1, x2, x3, x4, x5, x6, x7, x8, x9, x10, x11, ()) = ref22_Steps_c4 (g68_4 J) x0 x1 x2 x3 x4 x5 x6 x7 x8 x9 x10 x11 := fun _ _ _ _ _ _ _ _ _ _ _ _ _ => by kernel_rfl
theorem i68 : ∀ n, ref22_Steps_i4 n = g68_4 (iter (tabL tab68) prog F68 (afOf prog 68) n)
  | 0 => rfl
  | n + 1 => by
    obtain h4 := i68 n
    exact by funext x0 x1 x2 x3 x4 x5 x6 x7 x8 x9 x10 x11; exact ((s68_4 _ x0 x1 x2 x3 x4 x5 x6 x7 x8 x9 x10 x11).trans (by show _ = ref22_Steps_c4 (ref22_Steps_i4 n) x0 x1 x2 x3 x4 x5 x6 x7 x8 x9 x10 x11; rw [h4]; try rfl)).symm
theorem cb68 : callable prog 68 = true := by kernel_rfl
theorem tok68 : TabOK prog tab68 := ⟨ok69, cb69, trivial⟩
theorem ok68 : con68.ok prog 68 := fun a r h => by
  obtain h4 := i68 fuel
  refine fun_spec (f := F68) (tabL_ok tok68) (tabL_cb tok68) (by kernel_rfl) comp68 fuel (a := a) ((s68 _ a.1).trans ?_)
  have h : ref22_Steps_c (ref22_Steps_i4 fuel) a.1 = some r := h
  rw [h4] at h
  exact h
def con68p : TCon := ⟨[.a qY8], [.c (.p (.sl [.int .u8]))], fun a => ref22_Steps a.1⟩
theorem ok68p : con68p.ok prog 68 := fun a r h => TCon.frz (c := con68) ok68 rfl a r h
def con49 : TCon := ⟨[.a qY8], [.a [.p (.int .u8), .s 59 5 qY2, .s 3 1 qY11, .p (.bool), .s 59 5 qY2, .p (.int .u8), .p (.int .i64), .p (.int .i64), .p (.bool), .p (.int .u8)]], fun a => ref08_Twin a.1⟩
def tab49 : List (Nat × TCon) := []
def F49 : TFun := ⟨[], [], con49.args, con49.res, qc [qn 2, [.boxN 27 10 [.p (.int .u8), .rowN 59 5 qY2, .rowN 3 1 qY11, .p (.bool), .rowN 59 5 qY2, .p (.int .u8), .p (.int .i64), .p (.int .i64), .p (.bool), .p (.int .u8)]], qn 16], [], [], 0⟩
theorem comp49 : compFun prog 49 = some (afOf prog 49) := by kernel_rfl
theorem s49 : ∀ J a0, seg0 (tabL tab49) prog F49 (afOf prog 49) J (a0, ()) = ref08_Twin a0 := fun _ _ => by kernel_rfl
theorem cb49 : callable prog 49 = true := by kernel_rfl
theorem tok49 : TabOK prog tab49 := trivial
theorem ok49 : con49.ok prog 49 := fun a r h => fun_spec (f := F49) (tabL_ok tok49) (tabL_cb tok49) (by kernel_rfl) comp49 0 (a := a) ((s49 _ a.1).trans h)
def con49p : TCon := ⟨[.a qY8], [.a [.p (.int .u8), .p (.sl qY2), .p (.sl qY11), .p (.bool), .p (.sl qY2), .p (.int .u8), .p (.int .i64), .p (.int .i64), .p (.bool), .p (.int .u8)]], fun a => ref08_Twin a.1⟩
theorem ok49p : con49p.ok prog 49 := fun a r h => TCon.frz (c := con49) ok49 rfl a r h
def con101 : TCon := ⟨[.c (.int .i64)], [.c (.p (.bool))], fun a => ref25_Mark a.1⟩
def tab101 : List (Nat × TCon) := []
def F101 : TFun := ⟨[], [], con101.args, con101.res, qc [qn 2, qb, qn 10], [], [], 0⟩
theorem comp101 : compFun prog 101 = some (afOf prog 101) := by kernel_rfl
theorem s101 : ∀ J a0, seg0 (tabL tab101) prog F101 (afOf prog 101) J (a0, ()) = ref25_Mark a0 := fun _ _ => by kernel_rfl
theorem cb101 : callable prog 101 = true := by kernel_rfl
theorem tok101 : TabOK prog tab101 := trivial
theorem ok101 : con101.ok prog 101 := fun a r h => fun_spec (f := F101) (tabL_ok tok101) (tabL_cb tok101) (by kernel_rfl) comp101 0 (a := a) ((s101 _ a.1).trans h)
def con102 : TCon := ⟨[.a qY9], [.c (.p (.bool))], fun a => ref25_Right a.1⟩
def tab102 : List (Nat × TCon) := []
def F102 : TFun := ⟨[], [], con102.args, con102.res, qc [qn 2, qb, qn 8], [], [], 0⟩
theorem comp102 : compFun prog 102 = some (afOf prog 102) := by kernel_rfl
theorem s102 : ∀ J a0, seg0 (tabL tab102) prog F102 (afOf prog 102) J (a0, ()) = ref25_Right a0 := fun _ _ => by kernel_rfl
theorem cb102 : callable prog 102 = true := by kernel_rfl
theorem tok102 : TabOK prog tab102 := trivial
theorem ok102 : con102.ok prog 102 := fun a r h => fun_spec (f := F102) (tabL_ok tok102) (tabL_cb tok102) (by kernel_rfl) comp102 0 (a := a) ((s102 _ a.1).trans h)
def con91 : TCon := ⟨[.a qY6], [.c (.p (.int .i64))], fun a => ref25_Event a.1⟩
def tab91 : List (Nat × TCon) := [(101, con101), (102, con102)]
def F91 : TFun := ⟨[], [], con91.args, con91.res, qc [qn 2, qi, qn 28], [], [], 0⟩
theorem comp91 : compFun prog 91 = some (afOf prog 91) := by kernel_rfl
theorem s91 : ∀ J a0, seg0 (tabL tab91) prog F91 (afOf prog 91) J (a0, ()) = ref25_Event a0 := fun _ _ => by kernel_rfl
theorem cb91 : callable prog 91 = true := by kernel_rfl
theorem tok91 : TabOK prog tab91 := ⟨ok101, cb101, ok102, cb102, trivial⟩
theorem ok91 : con91.ok prog 91 := fun a r h => fun_spec (f := F91) (tabL_ok tok91) (tabL_cb tok91) (by kernel_rfl) comp91 0 (a := a) ((s91 _ a.1).trans h)
def con70 : TCon := ⟨[.c (.int .i64), .c (.sl qY6)], [.a [.p (.int .u8), .p (.int .i64), .p (.int .i64), .p (.sl qY5), .p (.sl qY11), .p (.sl qY4), .s 96 5 qY6, .p (.sl qY3), .p (.sl qY9)], .c (.p (.int .i64))], fun a => ref28_New a.1 a.2.1⟩
def tab70 : List (Nat × TCon) := [(91, con91)]
def F70 : TFun := ⟨[], [(9, qc [qi, [.c (.p (.sl qY6))], qn 2, [.boxN 69 9 [.any, .any, .any, .nil, .nil, .nil, .nil, .nil, .nil]], qn 1, qi, qn 30])], con70.args, con70.res, qc [qn 4, [.boxN 69 9 [.p (.int .u8), .p (.int .i64), .p (.int .i64), .p (.sl qY5), .p (.sl qY11), .p (.sl qY4), .rowN 96 5 qY6, .p (.sl qY3), .p (.sl qY9)]], qi, qn 31], [], [], 0⟩
abbrev g70_9 (J : JT F70) := fun y0 y1 y2 => J 9 (y0, y1, y2, ())
theorem comp70 : compFun prog 70 = some (afOf prog 70) := by kernel_rfl
theorem s70 : ∀ J a0 a1, seg0 (tabL tab70) prog F70 (afOf prog 70) J (a0, a1, ()) = ref28_New_c (g70_9 J) a0 a1 := fun _ _ _ => by kernel_rfl
theorem s70_9 : ∀ J x0 x1 x2, seg (tabL tab70) prog F70 (afOf prog 70) J 9 (x0, x1, x2, ()) = ref28_New_c9 (g70_9 J) x0 x1 x2 := fun _ _ _ _ => by kernel_rfl
theorem i70 : ∀ n, ref28_New_i9 n = g70_9 (iter (tabL tab70) prog F70 (afOf prog 70) n)
  | 0 => rfl
  | n + 1 => by
    obtain h9 := i70 n
    exact by funext x0 x1 x2; exact ((s70_9 _ x0 x1 x2).trans (by show _ = ref28_New_c9 (ref28_New_i9 n) x0 x1 x2; rw [h9]; try rfl)).symm
theorem cb70 : callable prog 70 = true := by kernel_rfl
theorem tok70 : TabOK prog tab70 := ⟨ok91, cb91, trivial⟩
theorem ok70 : con70.ok prog 70 := fun a r h => by
  obtain h9 := i70 fuel
  refine fun_spec (f := F70) (tabL_ok tok70) (tabL_cb tok70) (by kernel_rfl) comp70 fuel (a := a) ((s70 _ a.1 a.2.1).trans ?_)
  have h : ref28_New_c (ref28_New_i9 fuel) a.1 a.2.1 = some r := h
  rw [h9] at h
  exact h
def con70p : TCon := ⟨[.c (.int .i64), .c (.sl qY6)], [.a [.p (.int .u8), .p (.int .i64), .p (.int .i64), .p (.sl qY5), .p (.sl qY11), .p (.sl qY4), .p (.sl qY6), .p (.sl qY3), .p (.sl qY9)], .c (.p (.int .i64))], fun a => ref28_New a.1 a.2.1⟩
theorem ok70p : con70p.ok prog 70 := fun a r h => TCon.frz (c := con70) ok70 rfl a r h
def con71 : TCon := ⟨[.c (.int .i64)], [.a [.p (.int .u8), .p (.int .i64), .p (.int .i64), .p (.sl qY5), .s 2 1 qY11, .p (.sl qY4), .p (.sl qY6), .p (.sl qY3), .p (.sl qY9)], .c (.p (.int .i64))], fun a => ref29_New a.1⟩
def tab71 : List (Nat × TCon) := []
def F71 : TFun := ⟨[], [], con71.args, con71.res, qc [qn 2, [.boxN 69 9 [.p (.int .u8), .p (.int .i64), .p (.int .i64), .p (.sl qY5), .rowN 2 1 qY11, .p (.sl qY4), .p (.sl qY6), .p (.sl qY3), .p (.sl qY9)]], qi, qn 11], [], [], 0⟩
theorem comp71 : compFun prog 71 = some (afOf prog 71) := by kernel_rfl
theorem s71 : ∀ J a0, seg0 (tabL tab71) prog F71 (afOf prog 71) J (a0, ()) = ref29_New a0 := fun _ _ => by kernel_rfl
theorem cb71 : callable prog 71 = true := by kernel_rfl
theorem tok71 : TabOK prog tab71 := trivial
theorem ok71 : con71.ok prog 71 := fun a r h => fun_spec (f := F71) (tabL_ok tok71) (tabL_cb tok71) (by kernel_rfl) comp71 0 (a := a) ((s71 _ a.1).trans h)
def con71p : TCon := ⟨[.c (.int .i64)], [.a [.p (.int .u8), .p (.int .i64), .p (.int .i64), .p (.sl qY5), .p (.sl qY11), .p (.sl qY4), .p (.sl qY6), .p (.sl qY3), .p (.sl qY9)], .c (.p (.int .i64))], fun a => ref29_New a.1⟩
theorem ok71p : con71p.ok prog 71 := fun a r h => TCon.frz (c := con71) ok71 rfl a r h
def con72 : TCon := ⟨[.c (.int .i64)], [.a [.p (.int .u8), .p (.int .i64), .p (.int .i64), .p (.sl qY5), .p (.sl qY11), .p (.sl qY4), .p (.sl qY6), .p (.sl qY3), .p (.sl qY9)], .c (.p (.int .i64))], fun a => ref30_New a.1⟩
def tab72 : List (Nat × TCon) := []
def F72 : TFun := ⟨[], [], con72.args, con72.res, qc [qn 2, [.boxN 69 9 [.p (.int .u8), .p (.int .i64), .p (.int .i64), .p (.sl qY5), .p (.sl qY11), .p (.sl qY4), .p (.sl qY6), .p (.sl qY3), .p (.sl qY9)]], qi, qn 10], [], [], 0⟩
theorem comp72 : compFun prog 72 = some (afOf prog 72) := by kernel_rfl
theorem s72 : ∀ J a0, seg0 (tabL tab72) prog F72 (afOf prog 72) J (a0, ()) = ref30_New a0 := fun _ _ => by kernel_rfl
theorem cb72 : callable prog 72 = true := by kernel_rfl
theorem tok72 : TabOK prog tab72 := trivial
theorem ok72 : con72.ok prog 72 := fun a r h => fun_spec (f := F72) (tabL_ok tok72) (tabL_cb tok72) (by kernel_rfl) comp72 0 (a := a) ((s72 _ a.1).trans h)
def con92 : TCon := ⟨[.c (.int .i64)], [.c (.s 2 1 qY11), .c (.p (.int .i64))], fun a => ref31_New a.1⟩
def tab92 : List (Nat × TCon) := []
def F92 : TFun := ⟨[], [(7, qc [qi, qn 3, [.c (.rowN 2 1 qY11)], qi, qn 15])], con92.args, con92.res, qc [qn 2, [.c (.rowN 2 1 qY11)], qi, qn 17], [], [], 0⟩
abbrev g92_7 (J : JT F92) := fun y0 y1 y2 => J 7 (y0, y1, y2, ())
theorem comp92 : compFun prog 92 = some (afOf prog 92) := by kernel_rfl
theorem s92 : ∀ J a0, seg0 (tabL tab92) prog F92 (afOf prog 92) J (a0, ()) = ref31_New_c (g92_7 J) a0 := fun _ _ => by kernel_rfl
theorem s92_7 : ∀ J x0 x1 x2, seg (tabL tab92) prog F92 (afOf prog 92) J 7 (x0, x1, x2, ()) = ref31_New_c7 (g92_7 J) x0 x1 x2 := fun _ _ _ _ => by kernel_rfl
theorem i92 : ∀ n, ref31_New_i7 n = g92_7 (iter (tabL tab92) prog F92 (afOf prog 92) n)
  | 0 => rfl
  | n + 1 => by
    obtain h7 := i92 n
    exact by funext x0 x1 x2; exact ((s92_7 _ x0 x1 x2).trans (by show _ = ref31_New_c7 (ref31_New_i7 n) x0 x1 x2; rw [h7]; try rfl)).symm
theorem cb92 : callable prog 92 = true := by kernel_rfl
theorem tok92 : TabOK prog tab92 := trivial
theorem ok92 : con92.ok prog 92 := fun a r h => by
  obtain h7 := i92 fuel
  refine fun_spec (f := F92) (tabL_ok tok92) (tabL_cb tok92) (by kernel_rfl) comp92 fuel (a := a) ((s92 _ a.1).trans ?_)
  have h : ref31_New_c (ref31_New_i7 fuel) a.1 = some r := h
  rw [h7] at h
  exact h
def con92p : TCon := ⟨[.c (.int .i64)], [.c (.p (.sl qY11)), .c (.p (.int .i64))], fun a => ref31_New a.1⟩
theorem ok92p : con92p.ok prog 92 := fun a r h => TCon.frz (c := con92) ok92 rfl a r h
def con73 : TCon := ⟨[.c (.int .i64), .c (.int .i64)], [.a [.p (.int .u8), .p (.int .i64), .p (.int .i64), .p (.sl qY5), .p (.sl qY11), .p (.sl qY4), .p (.sl qY6), .p (.sl qY3), .p (.sl qY9)], .c (.p (.int .i64))], fun a => ref32_New a.1 a.2.1⟩
def tab73 : List (Nat × TCon) := [(92, con92p)]
def F73 : TFun := ⟨[], [], con73.args, con73.res, qc [qn 4, [.boxN 69 9 [.p (.int .u8), .p (.int .i64), .p (.int .i64), .p (.sl qY5), .p (.sl qY11), .p (.sl qY4), .p (.sl qY6), .p (.sl qY3), .p (.sl qY9)]], qi, qn 26], [], [], 0⟩
theorem comp73 : compFun prog 73 = some (afOf prog 73) := by kernel_rfl
theorem s73 : ∀ J a0 a1, seg0 (tabL tab73) prog F73 (afOf prog 73) J (a0, a1, ()) = ref32_New a0 a1 := fun _ _ _ => by kernel_rfl
theorem cb73 : callable prog 73 = true := by kernel_rfl
theorem tok73 : TabOK prog tab73 := ⟨ok92p, cb92, trivial⟩
theorem ok73 : con73.ok prog 73 := fun a r h => fun_spec (f := F73) (tabL_ok tok73) (tabL_cb tok73) (by kernel_rfl) comp73 0 (a := a) ((s73 _ a.1 a.2.1).trans h)
def con74 : TCon := ⟨[.c (.int .i64)], [.a [.p (.int .u8), .p (.int .i64), .p (.int .i64), .p (.sl qY5), .p (.sl qY11), .p (.sl qY4), .p (.sl qY6), .p (.sl qY3), .p (.sl qY9)], .c (.p (.int .i64))], fun a => ref33_New a.1⟩
def tab74 : List (Nat × TCon) := [(92, con92p)]
def F74 : TFun := ⟨[], [], con74.args, con74.res, qc [qn 2, [.boxN 69 9 [.p (.int .u8), .p (.int .i64), .p (.int .i64), .p (.sl qY5), .p (.sl qY11), .p (.sl qY4), .p (.sl qY6), .p (.sl qY3), .p (.sl qY9)]], qi, qn 17], [], [], 0⟩
theorem comp74 : compFun prog 74 = some (afOf prog 74) := by kernel_rfl
theorem s74 : ∀ J a0, seg0 (tabL tab74) prog F74 (afOf prog 74) J (a0, ()) = ref33_New a0 := fun _ _ => by kernel_rfl
theorem cb74 : callable prog 74 = true := by kernel_rfl
theorem tok74 : TabOK prog tab74 := ⟨ok92p, cb92, trivial⟩
theorem ok74 : con74.ok prog 74 := fun a r h => fun_spec (f := F74) (tabL_ok tok74) (tabL_cb tok74) (by kernel_rfl) comp74 0 (a := a) ((s74 _ a.1).trans h)
def con75 : TCon := ⟨[.c (.bool)], [.a [.p (.int .u8), .p (.int .i64), .p (.int .i64), .p (.sl qY5), .p (.sl qY11), .p (.sl qY4), .p (.sl qY6), .p (.sl qY3), .p (.sl qY9)]], fun a => ref34_New a.1⟩
def tab75 : List (Nat × TCon) := []
def F75 : TFun := ⟨[], [], con75.args, con75.res, qc [qn 2, [.boxN 69 9 [.p (.int .u8), .p (.int .i64), .p (.int .i64), .p (.sl qY5), .p (.sl qY11), .p (.sl qY4), .p (.sl qY6), .p (.sl qY3), .p (.sl qY9)]], qn 5], [], [], 0⟩
theorem comp75 : compFun prog 75 = some (afOf prog 75) := by kernel_rfl
theorem s75 : ∀ J a0, seg0 (tabL tab75) prog F75 (afOf prog 75) J (a0, ()) = ref34_New a0 := fun _ _ => by kernel_rfl
theorem cb75 : callable prog 75 = true := by kernel_rfl
theorem tok75 : TabOK prog tab75 := trivial
theorem ok75 : con75.ok prog 75 := fun a r h => fun_spec (f := F75) (tabL_ok tok75) (tabL_cb tok75) (by kernel_rfl) comp75 0 (a := a) ((s75 _ a.1).trans h)
def con51 : TCon := ⟨[.a qY8, .c (.sl [.sl qY6]), .a qY10], [.a [.p (.int .u8), .p (.int .i64), .p (.int .i64), .p (.sl qY5), .p (.sl qY11), .p (.sl qY4), .p (.sl qY6), .p (.sl qY3), .p (.sl qY9)]], fun a => ref36_fresh a.1 a.2.1 a.2.2.1⟩
def tab51 : List (Nat × TCon) := [(70, con70p), (71, con71p), (72, con72), (73, con73), (74, con74), (75, con75)]
def F51 : TFun := ⟨[], [], con51.args, con51.res, qc [qn 6, [.boxN 69 9 [.p (.int .u8), .p (.int .i64), .p (.int .i64), .p (.sl qY5), .p (.sl qY11), .p (.sl qY4), .p (.sl qY6), .p (.sl qY3), .p (.sl qY9)]], qn 56], [], [], 0⟩
theorem comp51 : compFun prog 51 = some (afOf prog 51) := by kernel_rfl
theorem s51 : ∀ J a0 a1 a2, seg0 (tabL tab51) prog F51 (afOf prog 51) J (a0, a1, a2, ()) = ref36_fresh a0 a1 a2 := fun _ _ _ _ => by kernel_rfl
theorem cb51 : callable prog 51 = true := by kernel_rfl
theorem tok51 : TabOK prog tab51 := ⟨ok70p, cb70, ok71p, cb71, ok72, cb72, ok73, cb73, ok74, cb74, ok75, cb75, trivial⟩
theorem ok51 : con51.ok prog 51 := fun a r h => fun_spec (f := F51) (tabL_ok tok51) (tabL_cb tok51) (by kernel_rfl) comp51 0 (a := a) ((s51 _ a.1 a.2.1 a.2.2.1).trans h)
def con52 : TCon := ⟨[.c (.int .i64)], [.a [.p (.int .i64), .p (.sl qY7)], .c (.p (.int .i64))], fun a => ref26_New a.1⟩
def tab52 : List (Nat × TCon) := []
def F52 : TFun := ⟨[], [], con52.args, con52.res, qc [qn 2, [.boxN 80 2 [.p (.int .i64), .p (.sl qY7)]], qi, qn 9], [], [], 0⟩
theorem comp52 : compFun prog 52 = some (afOf prog 52) := by kernel_rfl
theorem s52 : ∀ J a0, seg0 (tabL tab52) prog F52 (afOf prog 52) J (a0, ()) = ref26_New a0 := fun _ _ => by kernel_rfl
theorem cb52 : callable prog 52 = true := by kernel_rfl
theorem tok52 : TabOK prog tab52 := trivial
theorem ok52 : con52.ok prog 52 := fun a r h => fun_spec (f := F52) (tabL_ok tok52) (tabL_cb tok52) (by kernel_rfl) comp52 0 (a := a) ((s52 _ a.1).trans h)
def con53 : TCon := ⟨[.c (.sl qY2), .c (.sl qY2)], [.c (.p (.bool))], fun a => ref04_Alike a.1 a.2.1⟩
def tab53 : List (Nat × TCon) := []
def F53 : TFun := ⟨[], [(6, qc [[.c (.p (.sl qY2))], [.c (.p (.sl qY2))], qn 3, qi, qn 26])], con53.args, con53.res, qc [qn 4, qb, qn 27], [], [], 0⟩
abbrev g53_6 (J : JT F53) := fun y0 y1 y2 => J 6 (y0, y1, y2, ())
theorem comp53 : compFun prog 53 = some (afOf prog 53) := by kernel_rfl
theorem s53 : ∀ J a0 a1, seg0 (tabL tab53) prog F53 (afOf prog 53) J (a0, a1, ()) = ref04_Alike_c (g53_6 J) a0 a1 := fun _ _ _ => by kernel_rfl
theorem s53_6 : ∀ J x0 x1 x2, seg (tabL tab53) prog F53 (afOf prog 53) J 6 (x0, x1, x2, ()) = ref04_Alike_c6 (g53_6 J) x0 x1 x2 := fun _ _ _ _ => by kernel_rfl
theorem i53 : ∀ n, ref04_Alike_i6 n = g53_6 (iter (tabL tab53) prog F53 (afOf prog 53) n)
  | 0 => rfl
  | n + 1 => by
    obtain h6 := i53 n
    exact by funext x0 x1 x2; exact ((s53_6 _ x0 x1 x2).trans (by show _ = ref04_Alike_c6 (ref04_Alike_i6 n) x0 x1 x2; rw [h6]; try rfl)).symm
theorem cb53 : callable prog 53 = true := by kernel_rfl
theorem tok53 : TabOK prog tab53 := trivial
theorem ok53 : con53.ok prog 53 := fun a r h => by
  obtain h6 := i53 fuel
  refine fun_spec (f := F53) (tabL_ok tok53) (tabL_cb tok53) (by kernel_rfl) comp53 fuel (a := a) ((s53 _ a.1 a.2.1).trans ?_)
  have h : ref04_Alike_c (ref04_Alike_i6 fuel) a.1 a.2.1 = some r := h
  rw [h6] at h
  exact h
def con54 : TCon := ⟨[.c (.sl qY11), .c (.sl qY11)], [.c (.p (.bool))], fun a => ref08_SameSources a.1 a.2.1⟩
def tab54 : List (Nat × TCon) := []
def F54 : TFun := ⟨[], [(6, qc [[.c (.p (.sl qY11))], [.c (.p (.sl qY11))], qn 3, qi, qn 20])], con54.args, con54.res, qc [qn 4, qb, qn 21], [], [], 0⟩
abbrev g54_6 (J : JT F54) := fun y0 y1 y2 => J 6 (y0, y1, y2, ())
theorem comp54 : compFun prog 54 = some (afOf prog 54) := by kernel_rfl
theorem s54 : ∀ J a0 a1, seg0 (tabL tab54) prog F54 (afOf prog 54) J (a0, a1, ()) = ref08_SameSources_c (g54_6 J) a0 a1 := fun _ _ _ => by kernel_rfl
theorem s54_6 : ∀ J x0 x1 x2, seg (tabL tab54) prog F54 (afOf prog 54) J 6 (x0, x1, x2, ()) = ref08_SameSources_c6 (g54_6 J) x0 x1 x2 := fun _ _ _ _ => by kernel_rfl
theorem i54 : ∀ n, ref08_SameSources_i6 n = g54_6 (iter (tabL tab54) prog F54 (afOf prog 54) n)
  | 0 => rfl
  | n + 1 => by
    obtain h6 := i54 n
    exact by funext x0 x1 x2; exact ((s54_6 _ x0 x1 x2).trans (by show _ = ref08_SameSources_c6 (ref08_SameSources_i6 n) x0 x1 x2; rw [h6]; try rfl)).symm
theorem cb54 : callable prog 54 = true := by kernel_rfl
theorem tok54 : TabOK prog tab54 := trivial
theorem ok54 : con54.ok prog 54 := fun a r h => by
  obtain h6 := i54 fuel
  refine fun_spec (f := F54) (tabL_ok tok54) (tabL_cb tok54) (by kernel_rfl) comp54 fuel (a := a) ((s54 _ a.1 a.2.1).trans ?_)
  have h : ref08_SameSources_c (ref08_SameSources_i6 fuel) a.1 a.2.1 = some r := h
  rw [h6] at h
  exact h
def con28 : TCon := ⟨[.a qY8, .a qY8], [.c (.p (.bool))], fun a => ref08_Alike a.1 a.2.1⟩
def tab28 : List (Nat × TCon) := [(53, con53), (54, con54)]
def F28 : TFun := ⟨[], [], con28.args, con28.res, qc [qn 4, qb, qn 54], [], [], 0⟩
theorem comp28 : compFun prog 28 = some (afOf prog 28) := by kernel_rfl
theorem s28 : ∀ J a0 a1, seg0 (tabL tab28) prog F28 (afOf prog 28) J (a0, a1, ()) = ref08_Alike a0 a1 := fun _ _ _ => by kernel_rfl
theorem cb28 : callable prog 28 = true := by kernel_rfl
theorem tok28 : TabOK prog tab28 := ⟨ok53, cb53, ok54, cb54, trivial⟩
theorem ok28 : con28.ok prog 28 := fun a r h => fun_spec (f := F28) (tabL_ok tok28) (tabL_cb tok28) (by kernel_rfl) comp28 0 (a := a) ((s28 _ a.1 a.2.1).trans h)
def con29 : TCon := ⟨[.a [.sl qY10, .sl qY3], .a [.sl qY10, .sl qY3]], [.c (.p (.bool))], fun a => ref24_Same a.1 a.2.1⟩
def tab29 : List (Nat × TCon) := []
def F29 : TFun := ⟨[4], [(4, qc [qn 2, [.boxN 33 2 [.any, .p (.sl qY3)]], [.boxN 33 2 [.any, .p (.sl qY3)]], qn 55]), (6, qc [qn 2, [.boxN 33 2 [.p (.sl qY10), .p (.sl qY3)]], [.boxN 33 2 [.p (.sl qY10), .p (.sl qY3)]], qn 1, qi, qn 53]), (14, qc [qn 2, [.boxN 33 2 [.any, .p (.sl qY3)]], [.boxN 33 2 [.any, .p (.sl qY3)]], qn 2, qi, qn 52])], con29.args, con29.res, qc [qn 4, qb, qn 54], [], [], 0⟩
abbrev g29_4 (J : JT F29) := fun y0 y1 => J 4 (y0, y1, ())
abbrev g29_6 (J : JT F29) := fun y0 y1 y2 y3 y4 => J 6 (y0, y1, y2, y3, y4, ())
abbrev g29_14 (J : JT F29) := fun y0 y1 y2 => J 14 (y0, y1, y2, ())
theorem comp29 : compFun prog 29 = some (afOf prog 29) := by kernel_rfl
theorem s29 : ∀ J a0 a1, seg0 (tabL tab29) prog F29 (afOf prog 29) J (a0, a1, ()) = ref24_Same_c (g29_4 J) (g29_6 J) (g29_14 J) a0 a1 := fun _ _ _ => by kernel_rfl
theorem s29_4 : ∀ J x0 x1, seg (tabL tab29) prog F29 (afOf prog 29) J 4 (x0, x1, ()) = ref24_Same_c4 (g29_4 J) (g29_6 J) (g29_14 J) x0 x1 := fun _ _ _ => by kernel_rfl
theorem s29_6 : ∀ J x0 x1 x2 x3 x4, seg (tabL tab29) prog F29 (afOf prog 29) J 6 (x0, x1, x2, x3, x4, ()) = ref24_Same_c6 (g29_4 J) (g29_6 J) (g29_14 J) x0 x1 x2 x3 x4 := fun _ _ _ _ _ _ => by kernel_rfl
theorem s29_14 : ∀ J x0 x1 x2, seg (tabL tab29) prog F29 (afOf prog 29) J 14 (x0, x1, x2, ()) = ref24_Same_c14 (g29_4 J) (g29_6 J) (g29_14 J) x0 x1 x2 := fun _ _ _ _ => by kernel_rfl
theorem i29 : ∀ n, ref24_Same_i4 n = g29_4 (iter (tabL tab29) prog F29 (afOf prog 29) n) ∧ ref24_Same_i6 n = g29_6 (iter (tabL tab29) prog F29 (afOf prog 29) n) ∧ ref24_Same_i14 n = g29_14 (iter (tabL tab29) prog F29 (afOf prog 29) n)
  | 0 => ⟨rfl, rfl, rfl⟩
  | n + 1 => by
    obtain ⟨h4, h6, h14⟩ := i29 n
    exact ⟨by funext x0 x1; exact ((s29_4 _ x0 x1).trans (by show _ = ref24_Same_c4 (ref24_Same_i4 n) (ref24_Same_i6 n) (ref24_Same_i14 n) x0 x1; rw [h4, h6, h14]; try rfl)).symm, by funext x0 x1 x2 x3 x4; exact ((s29_6 _ x0 x1 x2 x3 x4).trans (by show _ = ref24_Same_c6 (ref24_Same_i4 n) (ref24_Same_i6 n) (ref24_Same_i14 n) x0 x1 x2 x3 x4; rw [h4, h6, h14]; try rfl)).symm, by funext x0 x1 x2; exact ((s29_14 _ x0 x1 x2).trans (by show _ = ref24_Same_c14 (ref24_Same_i4 n) (ref24_Same_i6 n) (ref24_Same_i14 n) x0 x1 x2; rw [h4, h6, h14]; try rfl)).symm⟩
theorem cb29 : callable prog 29 = true := by kernel_rfl
theorem tok29 : TabOK prog tab29 := trivial
theorem ok29 : con29.ok prog 29 := fun a r h => by
  obtain ⟨h4, h6, h14⟩ := i29 fuel
  refine fun_spec (f := F29) (tabL_ok tok29) (tabL_cb tok29) (by kernel_rfl) comp29 fuel (a := a) ((s29 _ a.1 a.2.1).trans ?_)
  have h : ref24_Same_c (ref24_Same_i4 fuel) (ref24_Same_i6 fuel) (ref24_Same_i14 fuel) a.1 a.2.1 = some r := h
  rw [h4, h6, h14] at h
  exact h
def con93 : TCon := ⟨[.c (.sl qY7), .c (.sl qY7)], [.c (.p (.bool))], fun a => ref26_SameList a.1 a.2.1⟩
def tab93 : List (Nat × TCon) := []
def F93 : TFun := ⟨[], [(6, qc [[.c (.p (.sl qY7))], [.c (.p (.sl qY7))], qn 3, qi, qn 20])], con93.args, con93.res, qc [qn 4, qb, qn 21], [], [], 0⟩
abbrev g93_6 (J : JT F93) := fun y0 y1 y2 => J 6 (y0, y1, y2, ())
theorem comp93 : compFun prog 93 = some (afOf prog 93) := by kernel_rfl
theorem s93 : ∀ J a0 a1, seg0 (tabL tab93) prog F93 (afOf prog 93) J (a0, a1, ()) = ref26_SameList_c (g93_6 J) a0 a1 := fun _ _ _ => by kernel_rfl
theorem s93_6 : ∀ J x0 x1 x2, seg (tabL tab93) prog F93 (afOf prog 93) J 6 (x0, x1, x2, ()) = ref26_SameList_c6 (g93_6 J) x0 x1 x2 := fun _ _ _ _ => by kernel_rfl
theorem i93 : ∀ n, ref26_SameList_i6 n = g93_6 (iter (tabL tab93) prog F93 (afOf prog 93) n)
  | 0 => rfl
  | n + 1 => by
    obtain h6 := i93 n
    exact by funext x0 x1 x2; exact ((s93_6 _ x0 x1 x2).trans (by show _ = ref26_SameList_c6 (ref26_SameList_i6 n) x0 x1 x2; rw [h6]; try rfl)).symm
theorem cb93 : callable prog 93 = true := by kernel_rfl
theorem tok93 : TabOK prog tab93 := trivial
theorem ok93 : con93.ok prog 93 := fun a r h => by
  obtain h6 := i93 fuel
  refine fun_spec (f := F93) (tabL_ok tok93) (tabL_cb tok93) (by kernel_rfl) comp93 fuel (a := a) ((s93 _ a.1 a.2.1).trans ?_)
  have h : ref26_SameList_c (ref26_SameList_i6 fuel) a.1 a.2.1 = some r := h
  rw [h6] at h
  exact h
def con76 : TCon := ⟨[.a [.int .i64, .sl qY7], .a [.int .i64, .sl qY7]], [.c (.p (.bool))], fun a => ref26_Same a.1 a.2.1⟩
def tab76 : List (Nat × TCon) := [(93, con93)]
def F76 : TFun := ⟨[], [], con76.args, con76.res, qc [qn 4, qb, qn 12], [], [], 0⟩
theorem comp76 : compFun prog 76 = some (afOf prog 76) := by kernel_rfl
theorem s76 : ∀ J a0 a1, seg0 (tabL tab76) prog F76 (afOf prog 76) J (a0, a1, ()) = ref26_Same a0 a1 := fun _ _ _ => by kernel_rfl
theorem cb76 : callable prog 76 = true := by kernel_rfl
theorem tok76 : TabOK prog tab76 := ⟨ok93, cb93, trivial⟩
theorem ok76 : con76.ok prog 76 := fun a r h => fun_spec (f := F76) (tabL_ok tok76) (tabL_cb tok76) (by kernel_rfl) comp76 0 (a := a) ((s76 _ a.1 a.2.1).trans h)
def con55 : TCon := ⟨[.c (.sl [.int .i64, .sl qY7]), .c (.sl [.int .i64, .sl qY7])], [.c (.p (.bool))], fun a => ref26_SameAll a.1 a.2.1⟩
def tab55 : List (Nat × TCon) := [(76, con76)]
def F55 : TFun := ⟨[], [(6, qc [[.c (.p (.sl [.int .i64, .sl qY7]))], [.c (.p (.sl [.int .i64, .sl qY7]))], qn 3, qi, qn 21])], con55.args, con55.res, qc [qn 4, qb, qn 22], [], [], 0⟩
abbrev g55_6 (J : JT F55) := fun y0 y1 y2 => J 6 (y0, y1, y2, ())
theorem comp55 : compFun prog 55 = some (afOf prog 55) := by kernel_rfl
theorem s55 : ∀ J a0 a1, seg0 (tabL tab55) prog F55 (afOf prog 55) J (a0, a1, ()) = ref26_SameAll_c (g55_6 J) a0 a1 := fun _ _ _ => by kernel_rfl
theorem s55_6 : ∀ J x0 x1 x2, seg (tabL tab55) prog F55 (afOf prog 55) J 6 (x0, x1, x2, ()) = ref26_SameAll_c6 (g55_6 J) x0 x1 x2 := fun _ _ _ _ => by kernel_rfl
theorem i55 : ∀ n, ref26_SameAll_i6 n = g55_6 (iter (tabL tab55) prog F55 (afOf prog 55) n)
  | 0 => rfl
  | n + 1 => by
    obtain h6 := i55 n
    exact by funext x0 x1 x2; exact ((s55_6 _ x0 x1 x2).trans (by show _ = ref26_SameAll_c6 (ref26_SameAll_i6 n) x0 x1 x2; rw [h6]; try rfl)).symm
theorem cb55 : callable prog 55 = true := by kernel_rfl
theorem tok55 : TabOK prog tab55 := ⟨ok76, cb76, trivial⟩
theorem ok55 : con55.ok prog 55 := fun a r h => by
  obtain h6 := i55 fuel
  refine fun_spec (f := F55) (tabL_ok tok55) (tabL_cb tok55) (by kernel_rfl) comp55 fuel (a := a) ((s55 _ a.1 a.2.1).trans ?_)
  have h : ref26_SameAll_c (ref26_SameAll_i6 fuel) a.1 a.2.1 = some r := h
  rw [h6] at h
  exact h
def con77 : TCon := ⟨[.c (.sl qY5), .c (.sl qY5)], [.c (.p (.bool))], fun a => ref27_SameSends a.1 a.2.1⟩
def tab77 : List (Nat × TCon) := []
def F77 : TFun := ⟨[], [(6, qc [[.c (.p (.sl qY5))], [.c (.p (.sl qY5))], qn 3, qi, qn 20])], con77.args, con77.res, qc [qn 4, qb, qn 21], [], [], 0⟩
abbrev g77_6 (J : JT F77) := fun y0 y1 y2 => J 6 (y0, y1, y2, ())
theorem comp77 : compFun prog 77 = some (afOf prog 77) := by kernel_rfl
theorem s77 : ∀ J a0 a1, seg0 (tabL tab77) prog F77 (afOf prog 77) J (a0, a1, ()) = ref27_SameSends_c (g77_6 J) a0 a1 := fun _ _ _ => by kernel_rfl
theorem s77_6 : ∀ J x0 x1 x2, seg (tabL tab77) prog F77 (afOf prog 77) J 6 (x0, x1, x2, ()) = ref27_SameSends_c6 (g77_6 J) x0 x1 x2 := fun _ _ _ _ => by kernel_rfl
theorem i77 : ∀ n, ref27_SameSends_i6 n = g77_6 (iter (tabL tab77) prog F77 (afOf prog 77) n)
  | 0 => rfl
  | n + 1 => by
    obtain h6 := i77 n
    exact by funext x0 x1 x2; exact ((s77_6 _ x0 x1 x2).trans (by show _ = ref27_SameSends_c6 (ref27_SameSends_i6 n) x0 x1 x2; rw [h6]; try rfl)).symm
theorem cb77 : callable prog 77 = true := by kernel_rfl
theorem tok77 : TabOK prog tab77 := trivial
theorem ok77 : con77.ok prog 77 := fun a r h => by
  obtain h6 := i77 fuel
  refine fun_spec (f := F77) (tabL_ok tok77) (tabL_cb tok77) (by kernel_rfl) comp77 fuel (a := a) ((s77 _ a.1 a.2.1).trans ?_)
  have h : ref27_SameSends_c (ref27_SameSends_i6 fuel) a.1 a.2.1 = some r := h
  rw [h6] at h
  exact h
end Tg
