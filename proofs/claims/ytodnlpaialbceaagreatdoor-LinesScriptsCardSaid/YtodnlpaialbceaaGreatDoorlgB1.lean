import Derived.Test.YtodnlpaialbceaaGreatDoorAbsB6
import Derived.Test.YtodnlpaialbceaaGreatDoorlgA
import Derived.Test.YtodnlpaialbceaaGreatDoorlgT
import Derived.Test.YtodnlpaialbceaaGreatDoorGlT
import Derived.Test.YtodnlpaialbceaaGreatDoorLB
import Derived.Test.YtodnlpaialbceaaGreatDoorProg
import Derived.Test.YtodnlpaialbceaaGreatDoorlgB0
/- Contracts of functions, checked by the kernel. -/
set_option linter.unusedVariables false
set_option linter.unusedSimpArgs false
set_option maxRecDepth 100000
namespace Tg
open Go.Abs
open Go.Proofs.Tryz (prog)
def con10 : TCon := ⟨[.c (.str)], [.c (.s 56 2 qY2), .c (.p (.int .i64))], fun a => ref45_ReadScript a.1⟩
def tab10 : List (Nat × TCon) := [(28, con28), (29, con29), (23, con23), (24, con24)]
def F10 : TFun := ⟨[7], [(7, qc [[.c (.p (.str))], qn 3, [.c (.rowN 56 2 qY2)], qn 49]), (9, qc [[.c (.p (.str))], qn 3, [.c (.rowN 56 2 qY2)], [.c (.rowN 9 1 [.str])], qi, qn 47])], con10.args, con10.res, qc [qn 2, [.c (.rowN 56 2 qY2)], qi, qn 50], [], [], 0⟩
abbrev g10_7 (J : JT F10) := fun y0 y1 => J 7 (y0, y1, ())
abbrev g10_9 (J : JT F10) := fun y0 y1 y2 y3 => J 9 (y0, y1, y2, y3, ())
theorem comp10 : compFun prog 10 = some (afOf prog 10) := by kernel_rfl
theorem s10 : ∀ J a0, seg0 (tabL tab10) prog F10 (afOf prog 10) J (a0, ()) = ref45_ReadScript_c (g10_7 J) (g10_9 J) a0 := fun _ _ => by kernel_rfl
theorem s10_7 : ∀ J x0 x1, seg (tabL tab10) prog F10 (afOf prog 10) J 7 (x0, x1, ()) = ref45_ReadScript_c7 (g10_7 J) (g10_9 J) x0 x1 := fun _ _ _ => by kernel_rfl
theorem s10_9 : ∀ J x0 x1 x2 x3, seg (tabL tab10) prog F10 (afOf prog 10) J 9 (x0, x1, x2, x3, ()) = ref45_ReadScript_c9 (g10_7 J) (g10_9 J) x0 x1 x2 x3 := fun _ _ _ _ _ => by kernel_rfl
theorem i10 : ∀ n, ref45_ReadScript_i7 n = g10_7 (iter (tabL tab10) prog F10 (afOf prog 10) n) ∧ ref45_ReadScript_i9 n = g10_9 (iter (tabL tab10) prog F10 (afOf prog 10) n)
  | 0 => ⟨rfl, rfl⟩
  | n + 1 => by
    obtain ⟨h7, h9⟩ := i10 n
    exact ⟨by funext x0 x1; exact ((s10_7 _ x0 x1).trans (by show _ = ref45_ReadScript_c7 (ref45_ReadScript_i7 n) (ref45_ReadScript_i9 n) x0 x1; rw [h7, h9]; try rfl)).symm, by funext x0 x1 x2 x3; exact ((s10_9 _ x0 x1 x2 x3).trans (by show _ = ref45_ReadScript_c9 (ref45_ReadScript_i7 n) (ref45_ReadScript_i9 n) x0 x1 x2 x3; rw [h7, h9]; try rfl)).symm⟩
theorem cb10 : callable prog 10 = true := by kernel_rfl
theorem tok10 : TabOK prog tab10 := ⟨ok28, cb28, ok29, cb29, ok23, cb23, ok24, cb24, trivial⟩
theorem ok10 : con10.ok prog 10 := fun a r h => by
  obtain ⟨h7, h9⟩ := i10 fuel
  refine fun_spec (f := F10) (tabL_ok tok10) (tabL_cb tok10) (by kernel_rfl) comp10 fuel (a := a) ((s10 _ a.1).trans ?_)
  have h : ref45_ReadScript_c (ref45_ReadScript_i7 fuel) (ref45_ReadScript_i9 fuel) a.1 = some r := h
  rw [h7, h9] at h
  exact h
def con10p : TCon := ⟨[.c (.str)], [.c (.p (.sl qY2)), .c (.p (.int .i64))], fun a => ref45_ReadScript a.1⟩
theorem ok10p : con10p.ok prog 10 := fun a r h => TCon.frz (c := con10) ok10 rfl a r h
end Tg

/- Contracts of functions, checked by the kernel. -/
set_option linter.unusedVariables false
set_option linter.unusedSimpArgs false
set_option maxRecDepth 100000
namespace Tg
open Go.Abs
open Go.Proofs.Tryz (prog)
def con20 : TCon := ⟨[.c (.sl qY2)], [.c (.p (.int .i64))], fun a => run_Check a.1⟩
def tab20 : List (Nat × TCon) := []
def F20 : TFun := ⟨[], [(13, qc [[.c (.p (.sl qY2))], [.c (.fn 44 [])], qn 5, qi, qi, qn 27])], con20.args, con20.res, qc [qn 2, qi, qn 5], [(19, [44]), (9, [60]), (6, [43])], [(13, [9, 8])], 8⟩
abbrev g20_13 (J : JT F20) := fun y0 y1 y2 => J 13 (y0, y1, y2, ())
theorem comp20 : compFun prog 20 = some (afOf prog 20) := by kernel_rfl
theorem s20 : ∀ J a0, seg0 (tabL tab20) prog F20 (afOf prog 20) J (a0, ()) = run_Check_c (g20_13 J) a0 := fun _ _ => by kernel_rfl
theorem s20_13 : ∀ J x0 x1 x2, seg (tabL tab20) prog F20 (afOf prog 20) J 13 (x0, x1, x2, ()) = run_Check_c13 (g20_13 J) x0 x1 x2 := fun _ _ _ _ => by kernel_rfl
theorem i20 : ∀ n, run_Check_i13 n = g20_13 (iter (tabL tab20) prog F20 (afOf prog 20) n)
  | 0 => rfl
  | n + 1 => by
    obtain h13 := i20 n
    exact by funext x0 x1 x2; exact ((s20_13 _ x0 x1 x2).trans (by show _ = run_Check_c13 (run_Check_i13 n) x0 x1 x2; rw [h13]; try rfl)).symm
theorem cb20 : callable prog 20 = true := by kernel_rfl
theorem tok20 : TabOK prog tab20 := trivial
theorem ok20 : con20.ok prog 20 := fun a r h => by
  obtain h13 := i20 fuel
  refine fun_spec (f := F20) (tabL_ok tok20) (tabL_cb tok20) (by kernel_rfl) comp20 fuel (a := a) ((s20 _ a.1).trans ?_)
  have h : run_Check_c (run_Check_i13 fuel) a.1 = some r := h
  rw [h13] at h
  exact h
end Tg

/- Contracts of functions, checked by the kernel. -/
set_option linter.unusedVariables false
set_option linter.unusedSimpArgs false
set_option maxRecDepth 100000
namespace Tg
open Go.Abs
open Go.Proofs.Tryz (prog)
def con36 : TCon := ⟨[.a qY3], [.c (.s 9 1 [.str])], fun a => ref45_Drawn a.1⟩
def tab36 : List (Nat × TCon) := [(46, con46)]
def F36 : TFun := ⟨[3], [(3, qc [qn 1, [.boxN 26 2 [.any, .p (.sl qY1)]], qn 2, [.c (.rowN 9 1 [.str])], qn 71]), (5, qc [qn 1, [.boxN 26 2 [.p (.sl [.int .u8, .int .i64]), .p (.sl qY1)]], qn 1, [.c (.rowN 9 1 [.str])], [.c (.rowN 9 1 [.str])], qi, qn 70]), (11, qc [qn 1, [.boxN 26 2 [.any, .p (.sl qY1)]], qn 2, [.c (.rowN 9 1 [.str])], qn 1, qi, qn 69])], con36.args, con36.res, qc [qn 2, [.c (.rowN 9 1 [.str])], qn 73], [], [], 0⟩
abbrev g36_3 (J : JT F36) := fun y0 y1 => J 3 (y0, y1, ())
abbrev g36_5 (J : JT F36) := fun y0 y1 y2 y3 y4 => J 5 (y0, y1, y2, y3, y4, ())
abbrev g36_11 (J : JT F36) := fun y0 y1 y2 => J 11 (y0, y1, y2, ())
theorem comp36 : compFun prog 36 = some (afOf prog 36) := by kernel_rfl
theorem s36 : ∀ J a0, seg0 (tabL tab36) prog F36 (afOf prog 36) J (a0, ()) = ref45_Drawn_c (g36_3 J) (g36_5 J) (g36_11 J) a0 := fun _ _ => by kernel_rfl
theorem s36_3 : ∀ J x0 x1, seg (tabL tab36) prog F36 (afOf prog 36) J 3 (x0, x1, ()) = ref45_Drawn_c3 (g36_3 J) (g36_5 J) (g36_11 J) x0 x1 := fun _ _ _ => by kernel_rfl
theorem s36_5 : ∀ J x0 x1 x2 x3 x4, seg (tabL tab36) prog F36 (afOf prog 36) J 5 (x0, x1, x2, x3, x4, ()) = ref45_Drawn_c5 (g36_3 J) (g36_5 J) (g36_11 J) x0 x1 x2 x3 x4 := fun _ _ _ _ _ _ => by kernel_rfl
theorem s36_11 : ∀ J x0 x1 x2, seg (tabL tab36) prog F36 (afOf prog 36) J 11 (x0, x1, x2, ()) = ref45_Drawn_c11 (g36_3 J) (g36_5 J) (g36_11 J) x0 x1 x2 := fun _ _ _ _ => by kernel_rfl
theorem i36 : ∀ n, ref45_Drawn_i3 n = g36_3 (iter (tabL tab36) prog F36 (afOf prog 36) n) ∧ ref45_Drawn_i5 n = g36_5 (iter (tabL tab36) prog F36 (afOf prog 36) n) ∧ ref45_Drawn_i11 n = g36_11 (iter (tabL tab36) prog F36 (afOf prog 36) n)
  | 0 => ⟨rfl, rfl, rfl⟩
  | n + 1 => by
    obtain ⟨h3, h5, h11⟩ := i36 n
    exact ⟨by funext x0 x1; exact ((s36_3 _ x0 x1).trans (by show _ = ref45_Drawn_c3 (ref45_Drawn_i3 n) (ref45_Drawn_i5 n) (ref45_Drawn_i11 n) x0 x1; rw [h3, h5, h11]; try rfl)).symm, by funext x0 x1 x2 x3 x4; exact ((s36_5 _ x0 x1 x2 x3 x4).trans (by show _ = ref45_Drawn_c5 (ref45_Drawn_i3 n) (ref45_Drawn_i5 n) (ref45_Drawn_i11 n) x0 x1 x2 x3 x4; rw [h3, h5, h11]; try rfl)).symm, by funext x0 x1 x2; exact ((s36_11 _ x0 x1 x2).trans (by show _ = ref45_Drawn_c11 (ref45_Drawn_i3 n) (ref45_Drawn_i5 n) (ref45_Drawn_i11 n) x0 x1 x2; rw [h3, h5, h11]; try rfl)).symm⟩
theorem cb36 : callable prog 36 = true := by kernel_rfl
theorem tok36 : TabOK prog tab36 := ⟨ok46, cb46, trivial⟩
theorem ok36 : con36.ok prog 36 := fun a r h => by
  obtain ⟨h3, h5, h11⟩ := i36 fuel
  refine fun_spec (f := F36) (tabL_ok tok36) (tabL_cb tok36) (by kernel_rfl) comp36 fuel (a := a) ((s36 _ a.1).trans ?_)
  have h : ref45_Drawn_c (ref45_Drawn_i3 fuel) (ref45_Drawn_i5 fuel) (ref45_Drawn_i11 fuel) a.1 = some r := h
  rw [h3, h5, h11] at h
  exact h
def con36p : TCon := ⟨[.a qY3], [.c (.p (.sl [.str]))], fun a => ref45_Drawn a.1⟩
theorem ok36p : con36p.ok prog 36 := fun a r h => TCon.frz (c := con36) ok36 rfl a r h
end Tg
