import Derived.Test.YtodnlpaialbceaaGreatDoorAbsB6
import Derived.Test.YtodnlpaialbceaaGreatDoorlgA
import Derived.Test.YtodnlpaialbceaaGreatDoorlgT
import Derived.Test.YtodnlpaialbceaaGreatDoorGlT
import Derived.Test.YtodnlpaialbceaaGreatDoorLB
import Derived.Test.YtodnlpaialbceaaGreatDoorProg
import Derived.Test.YtodnlpaialbceaaGreatDoorlgB0
import Derived.Test.YtodnlpaialbceaaGreatDoorlgB1
import Derived.Test.YtodnlpaialbceaaGreatDoorLG
/- Contracts of functions, checked by the kernel. -/
set_option linter.unusedVariables false
set_option linter.unusedSimpArgs false
set_option maxRecDepth 100000
namespace Tg
open Go.Abs
open Go.Proofs.Tryz (prog)
def con7 : TCon := ⟨[.c (.sl qY2)], [.c (.p (.str)), .c (.p (.int .i64))], fun a => lines_Script a.1⟩
def tab7 : List (Nat × TCon) := [(20, con20), (21, con21), (22, con22)]
def F7 : TFun := ⟨[], [(9, qc [qn 5, [.c (.rowN 9 1 [.str])], qn 10, [.c (.p (.sl qY2))], qi, qi, qn 12])], con7.args, con7.res, qc [qn 2, [.c (.p (.str))], qi, qn 27], [], [], 0⟩
abbrev g7_9 (J : JT F7) := fun y0 y1 y2 y3 => J 9 (y0, y1, y2, y3, ())
theorem comp7 : compFun prog 7 = some (afOf prog 7) := by kernel_rfl
theorem s7 : ∀ J a0, seg0 (tabL tab7) prog F7 (afOf prog 7) J (a0, ()) = lines_Script_c (g7_9 J) a0 := fun _ _ => by kernel_rfl
theorem s7_9 : ∀ J x0 x1 x2 x3, seg (tabL tab7) prog F7 (afOf prog 7) J 9 (x0, x1, x2, x3, ()) = lines_Script_c9 (g7_9 J) x0 x1 x2 x3 := fun _ _ _ _ _ => by kernel_rfl
theorem i7 : ∀ n, lines_Script_i9 n = g7_9 (iter (tabL tab7) prog F7 (afOf prog 7) n)
  | 0 => rfl
  | n + 1 => by
    obtain h9 := i7 n
    exact by funext x0 x1 x2 x3; exact ((s7_9 _ x0 x1 x2 x3).trans (by show _ = lines_Script_c9 (lines_Script_i9 n) x0 x1 x2 x3; rw [h9]; try rfl)).symm
theorem cb7 : callable prog 7 = true := by kernel_rfl
theorem tok7 : TabOK prog tab7 := ⟨ok20, cb20, ok21, cb21, ok22, cb22, trivial⟩
theorem ok7 : con7.ok prog 7 := fun a r h => by
  obtain h9 := i7 fuel
  refine fun_spec (f := F7) (tabL_ok tok7) (tabL_cb tok7) (by kernel_rfl) comp7 fuel (a := a) ((s7 _ a.1).trans ?_)
  have h : lines_Script_c (lines_Script_i9 fuel) a.1 = some r := h
  rw [h9] at h
  exact h
def con12 : TCon := ⟨[.a qY3], [.c (.p (.str)), .c (.p (.int .i64))], fun a => ref45_Graph a.1⟩
def tab12 : List (Nat × TCon) := [(34, con34), (36, con36p), (35, con35)]
def F12 : TFun := ⟨[], [], con12.args, con12.res, qc [qn 2, [.c (.p (.str))], qi, qn 9], [], [], 0⟩
theorem comp12 : compFun prog 12 = some (afOf prog 12) := by kernel_rfl
theorem s12 : ∀ J a0, seg0 (tabL tab12) prog F12 (afOf prog 12) J (a0, ()) = ref45_Graph a0 := fun _ _ => by kernel_rfl
theorem cb12 : callable prog 12 = true := by kernel_rfl
theorem tok12 : TabOK prog tab12 := ⟨ok34, cb34, ok36p, cb36, ok35, cb35, trivial⟩
theorem ok12 : con12.ok prog 12 := fun a r h => fun_spec (f := F12) (tabL_ok tok12) (tabL_cb tok12) (by kernel_rfl) comp12 0 (a := a) ((s12 _ a.1).trans h)
end Tg

/- Contracts of functions, checked by the kernel. -/
set_option linter.unusedVariables false
set_option linter.unusedSimpArgs false
set_option maxRecDepth 100000
namespace Tg
open Go.Abs
open Go.Proofs.Tryz (prog)
def con9 : TCon := ⟨[.c (.str)], [.c (.s 56 2 qY2), .c (.p (.int .i64))], fun a => lines_ReadScript a.1⟩
def tab9 : List (Nat × TCon) := [(63, con63), (64, con64), (26, con26), (27, con27), (21, con21), (20, con20)]
def F9 : TFun := ⟨[44, 25, 64], [(25, qc [[.c (.yl)], qn 1, [.boxN 9 1 [.p (.str)]], qn 49, [.c (.k 0)], qn 2, [.boxN 22 1 [.nil]], [.boxN 29 1 [.any]], [.boxN 22 1 [.rowN 56 2 qY2]], qn 49]), (26, qc [[.c (.yl)], [.boxN 9 1 [.p (.str)]], [.boxN 9 1 [.p (.str)]], [.boxN 3 1 [.p (.int .i64)]], qn 48, [.c (.k 0)], qn 2, [.boxN 22 1 [.nil]], [.boxN 29 1 [.any]], [.boxN 22 1 [.rowN 56 2 qY2]], qn 49]), (44, qc [qn 2, [.boxN 22 1 [.nil]], [.boxN 29 1 [.any]], [.boxN 22 1 [.rowN 56 2 qY2]], [.c (.p (.str))], qn 3, [.boxN 56 2 [.p (.int .i64), .p (.int .i64)]], qn 44, [.c (.yl)], [.boxN 9 1 [.p (.str)]], [.boxN 9 1 [.p (.str)]], [.boxN 3 1 [.p (.int .i64)]], qn 3, qi, qn 44, [.c (.k 0)], qn 2, [.c (.ptr 0 0)], [.c (.ptr 1 0)], [.c (.ptr 2 0)], qn 49]), (64, qc [qn 2, [.boxN 22 1 [.nil]], [.boxN 29 1 [.any]], [.boxN 22 1 [.rowN 56 2 qY2]], [.c (.p (.str))], qn 3, [.boxN 56 2 [.p (.int .i64), .p (.int .i64)]], qn 96, [.c (.k 0)], qn 2, [.c (.ptr 0 0)], [.c (.ptr 1 0)], [.c (.ptr 2 0)], qn 49])], con9.args, con9.res, qc [qn 2, [.boxN 22 1 [.rowN 56 2 qY2]], [.boxN 29 1 [.p (.int .i64)]], qn 50], [(54, [4294967295]), (34, [4294967295]), (13, [62]), (10, [47]), (7, [25])], [(25, [1, 54]), (26, [1, 54]), (44, [52, 1, 54]), (64, [52, 1, 54])], 8⟩
abbrev g9_25 (J : JT F9) := fun y0 y1 => J 25 (y0, y1, ())
abbrev g9_26 (J : JT F9) := fun y0 y1 y2 y3 => J 26 (y0, y1, y2, y3, ())
abbrev g9_44 (J : JT F9) := fun y0 y1 y2 y3 y4 y5 y6 y7 => J 44 (y0, y1, y2, y3, y4, y5, y6, y7, ())
abbrev g9_64 (J : JT F9) := fun y0 y1 y2 y3 => J 64 (y0, y1, y2, y3, ())
theorem comp9 : compFun prog 9 = some (afOf prog 9) := by kernel_rfl
theorem s9 : ∀ J a0, seg0 (tabL tab9) prog F9 (afOf prog 9) J (a0, ()) = lines_ReadScript_c (g9_25 J) (g9_26 J) (g9_44 J) (g9_64 J) a0 := fun _ _ => by kernel_rfl
theorem s9_25 : ∀ J x0 x1, seg (tabL tab9) prog F9 (afOf prog 9) J 25 (x0, x1, ()) = lines_ReadScript_c25 (g9_25 J) (g9_26 J) (g9_44 J) (g9_64 J) x0 x1 := fun _ _ _ => by kernel_rfl
theorem s9_26 : ∀ J x0 x1 x2 x3, seg (tabL tab9) prog F9 (afOf prog 9) J 26 (x0, x1, x2, x3, ()) = lines_ReadScript_c26 (g9_25 J) (g9_26 J) (g9_44 J) (g9_64 J) x0 x1 x2 x3 := fun _ _ _ _ _ => by kernel_rfl
theorem s9_44 : ∀ J x0 x1 x2 x3 x4 x5 x6 x7, seg (tabL tab9) prog F9 (afOf prog 9) J 44 (x0, x1, x2, x3, x4, x5, x6, x7, ()) = lines_ReadScript_c44 (g9_25 J) (g9_26 J) (g9_44 J) (g9_64 J) x0 x1 x2 x3 x4 x5 x6 x7 := fun _ _ _ _ _ _ _ _ _ => by kernel_rfl
theorem s9_64 : ∀ J x0 x1 x2 x3, seg (tabL tab9) prog F9 (afOf prog 9) J 64 (x0, x1, x2, x3, ()) = lines_ReadScript_c64 (g9_25 J) (g9_26 J) (g9_44 J) (g9_64 J) x0 x1 x2 x3 := fun _ _ _ _ _ => by kernel_rfl
theorem i9 : ∀ n, lines_ReadScript_i25 n = g9_25 (iter (tabL tab9) prog F9 (afOf prog 9) n) ∧ lines_ReadScript_i26 n = g9_26 (iter (tabL tab9) prog F9 (afOf prog 9) n) ∧ lines_ReadScript_i44 n = g9_44 (iter (tabL tab9) prog F9 (afOf prog 9) n) ∧ lines_ReadScript_i64 n = g9_64 (iter (tabL tab9) prog F9 (afOf prog 9) n)
  | 0 => ⟨rfl, rfl, rfl, rfl⟩
  | n + 1 => by
    obtain ⟨h25, h26, h44, h64⟩ := i9 n
    exact ⟨by funext x0 x1; exact ((s9_25 _ x0 x1).trans (by show _ = lines_ReadScript_c25 (lines_ReadScript_i25 n) (lines_ReadScript_i26 n) (lines_ReadScript_i44 n) (lines_ReadScript_i64 n) x0 x1; rw [h25, h26, h44, h64]; try rfl)).symm, by funext x0 x1 x2 x3; exact ((s9_26 _ x0 x1 x2 x3).trans (by show _ = lines_ReadScript_c26 (lines_ReadScript_i25 n) (lines_ReadScript_i26 n) (lines_ReadScript_i44 n) (lines_ReadScript_i64 n) x0 x1 x2 x3; rw [h25, h26, h44, h64]; try rfl)).symm, by funext x0 x1 x2 x3 x4 x5 x6 x7; exact ((s9_44 _ x0 x1 x2 x3 x4 x5 x6 x7).trans (by show _ = lines_ReadScript_c44 (lines_ReadScript_i25 n) (lines_ReadScript_i26 n) (lines_ReadScript_i44 n) (lines_ReadScript_i64 n) x0 x1 x2 x3 x4 x5 x6 x7; rw [h25, h26, h44, h64]; try rfl)).symm, by funext x0 x1 x2 x3; exact ((s9_64 _ x0 x1 x2 x3).trans (by show _ = lines_ReadScript_c64 (lines_ReadScript_i25 n) (lines_ReadScript_i26 n) (lines_ReadScript_i44 n) (lines_ReadScript_i64 n) x0 x1 x2 x3; rw [h25, h26, h44, h64]; try rfl)).symm⟩
theorem cb9 : callable prog 9 = true := by kernel_rfl
theorem tok9 : TabOK prog tab9 := ⟨ok63, cb63, ok64, cb64, ok26, cb26, ok27, cb27, ok21, cb21, ok20, cb20, trivial⟩
theorem ok9 : con9.ok prog 9 := fun a r h => by
  obtain ⟨h25, h26, h44, h64⟩ := i9 fuel
  refine fun_spec (f := F9) (tabL_ok tok9) (tabL_cb tok9) (by kernel_rfl) comp9 fuel (a := a) ((s9 _ a.1).trans ?_)
  have h : lines_ReadScript_c (lines_ReadScript_i25 fuel) (lines_ReadScript_i26 fuel) (lines_ReadScript_i44 fuel) (lines_ReadScript_i64 fuel) a.1 = some r := h
  rw [h25, h26, h44, h64] at h
  exact h
def con9p : TCon := ⟨[.c (.str)], [.c (.p (.sl qY2)), .c (.p (.int .i64))], fun a => lines_ReadScript a.1⟩
theorem ok9p : con9p.ok prog 9 := fun a r h => TCon.frz (c := con9) ok9 rfl a r h
end Tg

/- Contracts of functions, checked by the kernel. -/
set_option linter.unusedVariables false
set_option linter.unusedSimpArgs false
set_option maxRecDepth 100000
namespace Tg
open Go.Abs
open Go.Proofs.Tryz (prog)
def con3 : TCon := ⟨[.c (.sl qY2), .c (.str), .a qY3], [.c (.p (.bool))], fun a => law45_LinesScripts a.1 a.2.1 a.2.2.1⟩
def tab3 : List (Nat × TCon) := [(5, con5), (6, con6), (7, con7), (8, con8), (9, con9p), (10, con10p), (11, con11), (12, con12), (13, con13)]
def F3 : TFun := ⟨[], [], con3.args, con3.res, qc [qn 6, qb, qn 81], [], [], 0⟩
theorem comp3 : compFun prog 3 = some (afOf prog 3) := by kernel_rfl
theorem s3 : ∀ J a0 a1 a2, seg0 (tabL tab3) prog F3 (afOf prog 3) J (a0, a1, a2, ()) = law45_LinesScripts a0 a1 a2 := fun _ _ _ _ => by kernel_rfl
theorem cb3 : callable prog 3 = true := by kernel_rfl
theorem tok3 : TabOK prog tab3 := ⟨ok5, cb5, ok6, cb6, ok7, cb7, ok8, cb8, ok9p, cb9, ok10p, cb10, ok11, cb11, ok12, cb12, ok13, cb13, trivial⟩
theorem ok3 : con3.ok prog 3 := fun a r h => fun_spec (f := F3) (tabL_ok tok3) (tabL_cb tok3) (by kernel_rfl) comp3 0 (a := a) ((s3 _ a.1 a.2.1 a.2.2.1).trans h)
end Tg
