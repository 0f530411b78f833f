import Derived.Test.YtodnlpaialbceaaGreatDoorlgB0
/- Contracts of functions, checked by the kernel. -/
set_option linter.unusedVariables false
set_option linter.unusedSimpArgs false
set_option maxRecDepth 100000
namespace Tg
open Go.Abs
open Go.Proofs.Tryz (prog)
def con7 : TCon := ⟨[.c (.sl qY2)], [.c (.p (.str)), .c (.p (.int .i64))], fun a => lines_Script a.1⟩
def tab7 : List (Nat × TCon) := [(20, con20), (21, con21), (22, con22)]
def F7 : TFun := ⟨[], [(9, qc [qn 5, [.c (.rowN 9 1 [.str])], qn 10, [.c (.p (.sl qY2))], qi, qi, qn 12])], con7.args, con7.res, qc [qn 2, [.c (.p (.str))], qi, qn 27], [], [], 0⟩
abbrev g7_9 (J : JT F7) := fun y0 y1 y2 y3 => J 9 (y0, y1, y2, y3, ())
theorem comp7 : compFun prog 7 = some (afOf prog 7) := by kernel_rfl
theorem s7 : ∀ J a0, seg0 (tabL tab7) prog F7 (afOf prog 7) J (a0, ()) = lines_Script_c (g7_9 J) a0 := fun _ _ => by kernel_rfl
theorem s7_9 : ∀ J x0 x1 x2 x3, seg (tabL tab7) prog F7 (afOf prog 7) J 9 (x0, x1, x2, x3, ()) = lines_Script_c9 (g7_9 J) x0 x1 x2 x3 := fun _ _ _ _ _ => by kernel_rfl
theorem i7 : ∀ n, lines_Script_i9 n = g7_9 (iter (tabL tab7) prog F7 (afOf prog 7) n)
 | 0 => rfl
 | n + 1 => by
  obtain h9 := i7 n
  exact by funext x0 x1 x2 x3; exact ((s7_9 _ x0 x1 x2 x3).trans (by show _ = lines_Script_c9 (lines_Script_i9 n) x0 x1 x2 x3; rw [h9]; try rfl)).symm
theorem cb7 : callable prog 7 = true := by kernel_rfl
theorem tok7 : TabOK prog tab7 := ⟨ok20, cb20, ok21, cb21, ok22, cb22, trivial⟩
theorem ok7 : con7.ok prog 7 := fun a r h => by
 obtain h9 := i7 fuel
 refine fun_spec (f := F7) (tabL_ok tok7) (tabL_cb tok7) (by kernel_rfl) comp7 fuel (a := a) ((s7 _ a.1).trans ?_)
 have h : lines_Script_c (lines_Script_i9 fuel) a.1 = some r := h
 rw [h9] at h
 exact h
end Tg

/- Contracts of functions, checked by the kernel. -/
set_option linter.unusedVariables false
set_option linter.unusedSimpArgs false
set_option maxRecDepth 100000
namespace Tg
open Go.Abs
open Go.Proofs.Tryz (prog)
def con9 : TCon := ⟨[.c (.str)], [.c (.s 56 2 qY2), .c (.p (.int .i64))], fun a => lines_ReadScript a.1⟩
def tab9 : List (Nat × TCon) := [(63, con63), (64, con64), (26, con26), (27, con27), (21, con21), (20, con20)]
def F9 : TFun := ⟨[44, 25, 64], [(25, qc [[.c (.yl)], qn 1, [.boxN 9 1 [.p (.str)]], qn 49, [.c (.k 0)], qn 2, [.boxN 22 1 [.nil]], [.boxN 29 1 [.any]], [.boxN 22 1 [.rowN 56 2 qY2]], qn 49]), (26, qc [[.c (.yl)], [.boxN 9 1 [.p (.str)]], [.boxN 9 1 [.p (.str)]], [.boxN 3 1 [.p (.int .i64)]], qn 48, [.c (.k 0)], qn 2, [.boxN 22 1 [.nil]], [.boxN 29 1 [.any]], [.boxN 22 1 [.rowN 56 2 qY2]], qn 49]), (44, qc [qn 2, [.boxN 22 1 [.nil]], [.boxN 29 1 [.any]], [.boxN 22 1 [.rowN 56 2 qY2]], [.c (.p (.str))], qn 3, [.boxN 56 2 [.p (.int .i64), .p (.int .i64)]], qn 44, [.c (.yl)], [.boxN 9 1 [.p (.str)]], [.boxN 9 1 [.p (.str)]], [.boxN 3 1 [.p (.int .i64)]], qn 3, qi, qn 44, [.c (.k 0)], qn 2, [.c (.ptr 0 0)], [.c (.ptr 1 0)], [.c (.ptr 2 0)], qn 49]), (64, qc [qn 2, [.boxN 22 1 [.nil]], [.boxN 29 1 [.any]], [.boxN 22 1 [.rowN 56 2 qY2]], [.c (.p (.str))], qn 3, [.boxN 56 2 [.p (.int .i64), .p (.int .i64)]], qn 96, [.c (.k 0)], qn 2, [.c (.ptr 0 0)], [.c (.ptr 1 0)], [.c (.ptr 2 0)], qn 49])], con9.args, con9.res, qc [qn 2, [.boxN 22 1 [.rowN 56 2 qY2]], [.boxN 29 1 [.p (.int .i64)]], qn 50], [(54, [4294967295]), (34, [4294967295]), (13, [62]), (10, [47]), (7, [25])], [(25, [1, 54]), (26, [1, 54]), (44, [52, 1, 54]), (64, [52, 1, 54])], 8⟩
abbrev g9_25 (J : JT F9) := fun y0 y1 => J 25 (y0, y1, ())
abbrev g9_26 (J : JT F9) := fun y0 y1 y2 y3 => J 26 (y0, y1, y2, y3, ())
abbrev g9_44 (J : JT F9) := fun y0 y1 y2 y3 y4 y5 y6 y7 => J 44 (y0, y1, y2, y3, y4, y5, y6, y7, ())
abbrev g9_64 (J : JT F9) := fun y0 y1 y2 y3 => J 64 (y0, y1, y2, y3, ())
theorem comp9 : compFun prog 9 = some (afOf prog 9) := by kernel_rfl
theorem s9 : ∀ J a0, seg0 (tabL tab9) prog F9 (afOf prog 9) J (a0, ()) = lines_ReadScript_c (g9_25 J) (g9_26 J) (g9_44 J) (g9_64 J) a0 := fun _ _ => by kernel_rfl
theorem s9_25 : ∀ J x0 x1, seg (tabL tab9) prog F9 (afOf prog 9) J 25 (x0, x1, ()) = lines_ReadScript_c25 (g9_25 J) (g9_26 J) (g9_44 J) (g9_64 J) x0 x1 := fun _ _ _ => by kernel_rfl
theorem s9_26 : ∀ J x0 x1 x2 x3, seg (tabL tab9) prog F9 (afOf prog 9) J 26 (x0, x1, x2, x3, ()) = lines_ReadScript_c26 (g9_25 J) (g9_26 J) (g9_44 J) (g9_64 J) x0 x1 x2 x3 := fun _ _ _ _ _ => by kernel_rfl
theorem s9_44 : ∀ J x0 x1 x2 x3 x4 x5 x6 x7, seg (tabL tab9) prog F9 (afOf prog 9) J 44 (x0, x1, x2, x3, x4, x5, x6, x7, ()) = lines_ReadScript_c44 (g9_25 J) (g9_26 J) (g9_44 J) (g9_64 J) x0 x1 x2 x3 x4 x5 x6 x7 := fun _ _ _ _ _ _ _ _ _ => by kernel_rfl
theorem s9_64 : ∀ J x0 x1 x2 x3, seg (tabL tab9) prog F9 (afOf prog 9) J 64 (x0, x1, x2, x3, ()) = lines_ReadScript_c64 (g9_25 J) (g9_26 J) (g9_44 J) (g9_64 J) x0 x1 x2 x3 := fun _ _ _ _ _ => by kernel_rfl
theorem i9 : ∀ n, lines_ReadScript_i25 n = g9_25 (iter (tabL tab9) prog F9 (afOf prog 9) n) ∧ lines_ReadScript_i26 n = g9_26 (iter (tabL tab9) prog F9 (afOf prog 9) n) ∧ lines_ReadScript_i44 n = g9_44 (iter (tabL tab9) prog F9 (afOf prog 9) n) ∧ lines_ReadScript_i64 n = g9_64 (iter (tabL tab9) prog F9 (afOf prog 9) n)
 | 0 => ⟨rfl, rfl, rfl, rfl⟩
 | n + 1 => by
  obtain ⟨h25, h26, h44, h64⟩ := i9 n
  exact ⟨by funext x0 x1; exact ((s9_25 _ x0 x1).trans (by show _ = lines_ReadScript_c25 (lines_ReadScript_i25 n) (lines_ReadScript_i26 n) (lines_ReadScript_i44 n) (lines_ReadScript_i64 n) x0 x1; rw [h25, h26, h44, h64]; try rfl)).symm, by funext x0 x1 x2 x3; exact ((s9_26 _ x0 x1 x2 x3).trans (by show _ = lines_ReadScript_c26 (lines_ReadScript_i25 n) (lines_ReadScript_i26 n) (lines_ReadScript_i44 n) (lines_ReadScript_i64 n) x0 x1 x2 x3; rw [h25, h26, h44, h64]; try rfl)).symm, by funext x0 x1 x2 x3 x4 x5 x6 x7; exact ((s9_44 _ x0 x1 x2 x3 x4 x5 x6 x7).trans (by show _ = lines_ReadScript_c44 (lines_ReadScript_i25 n) (lines_ReadScript_i26 n) (lines_ReadScript_i44 n) (lines_ReadScript_i64 n) x0 x1 x2 x3 x4 x5 x6 x7; rw [h25, h26, h44, h64]; try rfl)).symm, by funext x0 x1 x2 x3; exact ((s9_64 _ x0 x1 x2 x3).trans (by show _ = lines_ReadScript_c64 (lines_ReadScript_i25 n) (lines_ReadScript_i26 n) (lines_ReadScript_i44 n) (lines_ReadScript_i64 n) x0 x1 x2 x3; rw [h25, h26, h44, h64]; try rfl)).symm⟩
theorem cb9 : callable prog 9 = true := by kernel_rfl
theorem tok9 : TabOK prog tab9 := ⟨ok63, cb63, ok64, cb64, ok26, cb26, ok27, cb27, ok21, cb21, ok20, cb20, trivial⟩
theorem ok9 : con9.ok prog 9 := fun a r h => by
 obtain ⟨h25, h26, h44, h64⟩ := i9 fuel
 refine fun_spec (f := F9) (tabL_ok tok9) (tabL_cb tok9) (by kernel_rfl) comp9 fuel (a := a) ((s9 _ a.1).trans ?_)
 have h : lines_ReadScript_c (lines_ReadScript_i25 fuel) (lines_ReadScript_i26 fuel) (lines_ReadScript_i44 fuel) (lines_ReadScript_i64 fuel) a.1 = some r := h
 rw [h25, h26, h44, h64] at h
 exact h
end Tg
