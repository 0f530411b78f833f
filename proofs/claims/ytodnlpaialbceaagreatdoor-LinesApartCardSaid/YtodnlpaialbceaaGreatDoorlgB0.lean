import Derived.Test.YtodnlpaialbceaaGreatDoorLB
/- Contracts of functions, checked by the kernel. -/
set_option linter.unusedVariables false
set_option linter.unusedSimpArgs false
set_option maxRecDepth 100000
namespace Tg
open Go.Abs
open Go.Proofs.Tryz (prog)
def con6 : TCon := ⟨[.a qY3], [.c (.p (.bool))], fun a => ref24_Great a.1⟩
def tab6 : List (Nat × TCon) := []
def F6 : TFun := ⟨[], [], con6.args, con6.res, qc [qn 2, qb, qn 10], [], [], 0⟩
theorem comp6 : compFun prog 6 = some (afOf prog 6) := by kernel_rfl
theorem s6 : ∀ J a0, seg0 (tabL tab6) prog F6 (afOf prog 6) J (a0, ()) = ref24_Great a0 := fun _ _ => by kernel_rfl
theorem cb6 : callable prog 6 = true := by kernel_rfl
theorem tok6 : TabOK prog tab6 := trivial
theorem ok6 : con6.ok prog 6 := fun a r h => fun_spec (f := F6) (tabL_ok tok6) (tabL_cb tok6) (by kernel_rfl) comp6 0 (a := a) ((s6 _ a.1).trans h)
def con5 : TCon := ⟨[.c (.sl qY2)], [.c (.p (.bool))], fun a => ref37_Many a.1⟩
def tab5 : List (Nat × TCon) := []
def F5 : TFun := ⟨[], [], con5.args, con5.res, qc [qn 2, qb, qn 13], [], [], 0⟩
theorem comp5 : compFun prog 5 = some (afOf prog 5) := by kernel_rfl
theorem s5 : ∀ J a0, seg0 (tabL tab5) prog F5 (afOf prog 5) J (a0, ()) = ref37_Many a0 := fun _ _ => by kernel_rfl
theorem cb5 : callable prog 5 = true := by kernel_rfl
theorem tok5 : TabOK prog tab5 := trivial
theorem ok5 : con5.ok prog 5 := fun a r h => fun_spec (f := F5) (tabL_ok tok5) (tabL_cb tok5) (by kernel_rfl) comp5 0 (a := a) ((s5 _ a.1).trans h)
def con13 : TCon := ⟨[.c (.sl qY2), .c (.sl qY2)], [.c (.p (.bool))], fun a => ref45_SamePicks a.1 a.2.1⟩
def tab13 : List (Nat × TCon) := []
def F13 : TFun := ⟨[], [(6, qc [[.c (.p (.sl qY2))], [.c (.p (.sl qY2))], qn 3, qi, qn 20])], con13.args, con13.res, qc [qn 4, qb, qn 21], [], [], 0⟩
abbrev g13_6 (J : JT F13) := fun y0 y1 y2 => J 6 (y0, y1, y2, ())
theorem comp13 : compFun prog 13 = some (afOf prog 13) := by kernel_rfl
theorem s13 : ∀ J a0 a1, seg0 (tabL tab13) prog F13 (afOf prog 13) J (a0, a1, ()) = ref45_SamePicks_c (g13_6 J) a0 a1 := fun _ _ _ => by kernel_rfl
theorem s13_6 : ∀ J x0 x1 x2, seg (tabL tab13) prog F13 (afOf prog 13) J 6 (x0, x1, x2, ()) = ref45_SamePicks_c6 (g13_6 J) x0 x1 x2 := fun _ _ _ _ => by kernel_rfl
theorem i13 : ∀ n, ref45_SamePicks_i6 n = g13_6 (iter (tabL tab13) prog F13 (afOf prog 13) n)
 | 0 => rfl
 | n + 1 => by
  obtain h6 := i13 n
  exact by funext x0 x1 x2; exact ((s13_6 _ x0 x1 x2).trans (by show _ = ref45_SamePicks_c6 (ref45_SamePicks_i6 n) x0 x1 x2; rw [h6]; try rfl)).symm
theorem cb13 : callable prog 13 = true := by kernel_rfl
theorem tok13 : TabOK prog tab13 := trivial
theorem ok13 : con13.ok prog 13 := fun a r h => by
 obtain h6 := i13 fuel
 refine fun_spec (f := F13) (tabL_ok tok13) (tabL_cb tok13) (by kernel_rfl) comp13 fuel (a := a) ((s13 _ a.1 a.2.1).trans ?_)
 have h : ref45_SamePicks_c (ref45_SamePicks_i6 fuel) a.1 a.2.1 = some r := h
 rw [h6] at h
 exact h
def con18 : TCon := ⟨[.c (.str)], [.c (.p (.int .i64))], fun a => law45_count a.1⟩
def tab18 : List (Nat × TCon) := []
def F18 : TFun := ⟨[], [(4, qc [[.c (.p (.str))], qn 2, qi, qi, qn 13])], con18.args, con18.res, qc [qn 2, qi, qn 15], [], [], 0⟩
abbrev g18_4 (J : JT F18) := fun y0 y1 y2 => J 4 (y0, y1, y2, ())
theorem comp18 : compFun prog 18 = some (afOf prog 18) := by kernel_rfl
theorem s18 : ∀ J a0, seg0 (tabL tab18) prog F18 (afOf prog 18) J (a0, ()) = law45_count_c (g18_4 J) a0 := fun _ _ => by kernel_rfl
theorem s18_4 : ∀ J x0 x1 x2, seg (tabL tab18) prog F18 (afOf prog 18) J 4 (x0, x1, x2, ()) = law45_count_c4 (g18_4 J) x0 x1 x2 := fun _ _ _ _ => by kernel_rfl
theorem i18 : ∀ n, law45_count_i4 n = g18_4 (iter (tabL tab18) prog F18 (afOf prog 18) n)
 | 0 => rfl
 | n + 1 => by
  obtain h4 := i18 n
  exact by funext x0 x1 x2; exact ((s18_4 _ x0 x1 x2).trans (by show _ = law45_count_c4 (law45_count_i4 n) x0 x1 x2; rw [h4]; try rfl)).symm
theorem cb18 : callable prog 18 = true := by kernel_rfl
theorem tok18 : TabOK prog tab18 := trivial
theorem ok18 : con18.ok prog 18 := fun a r h => by
 obtain h4 := i18 fuel
 refine fun_spec (f := F18) (tabL_ok tok18) (tabL_cb tok18) (by kernel_rfl) comp18 fuel (a := a) ((s18 _ a.1).trans ?_)
 have h : law45_count_c (law45_count_i4 fuel) a.1 = some r := h
 rw [h4] at h
 exact h
def con19 : TCon := ⟨[.a qY3, .a qY3], [.c (.p (.bool))], fun a => ref24_Same a.1 a.2.1⟩
def tab19 : List (Nat × TCon) := []
def F19 : TFun := ⟨[4], [(4, qc [qn 2, [.boxN 26 2 [.any, .p (.sl qY1)]], [.boxN 26 2 [.any, .p (.sl qY1)]], qn 55]), (6, qc [qn 2, [.boxN 26 2 [.p (.sl [.int .u8, .int .i64]), .p (.sl qY1)]], [.boxN 26 2 [.p (.sl [.int .u8, .int .i64]), .p (.sl qY1)]], qn 1, qi, qn 53]), (14, qc [qn 2, [.boxN 26 2 [.any, .p (.sl qY1)]], [.boxN 26 2 [.any, .p (.sl qY1)]], qn 2, qi, qn 52])], con19.args, con19.res, qc [qn 4, qb, qn 54], [], [], 0⟩
abbrev g19_4 (J : JT F19) := fun y0 y1 => J 4 (y0, y1, ())
abbrev g19_6 (J : JT F19) := fun y0 y1 y2 y3 y4 => J 6 (y0, y1, y2, y3, y4, ())
abbrev g19_14 (J : JT F19) := fun y0 y1 y2 => J 14 (y0, y1, y2, ())
theorem comp19 : compFun prog 19 = some (afOf prog 19) := by kernel_rfl
theorem s19 : ∀ J a0 a1, seg0 (tabL tab19) prog F19 (afOf prog 19) J (a0, a1, ()) = ref24_Same_c (g19_4 J) (g19_6 J) (g19_14 J) a0 a1 := fun _ _ _ => by kernel_rfl
theorem s19_4 : ∀ J x0 x1, seg (tabL tab19) prog F19 (afOf prog 19) J 4 (x0, x1, ()) = ref24_Same_c4 (g19_4 J) (g19_6 J) (g19_14 J) x0 x1 := fun _ _ _ => by kernel_rfl
theorem s19_6 : ∀ J x0 x1 x2 x3 x4, seg (tabL tab19) prog F19 (afOf prog 19) J 6 (x0, x1, x2, x3, x4, ()) = ref24_Same_c6 (g19_4 J) (g19_6 J) (g19_14 J) x0 x1 x2 x3 x4 := fun _ _ _ _ _ _ => by kernel_rfl
theorem s19_14 : ∀ J x0 x1 x2, seg (tabL tab19) prog F19 (afOf prog 19) J 14 (x0, x1, x2, ()) = ref24_Same_c14 (g19_4 J) (g19_6 J) (g19_14 J) x0 x1 x2 := fun _ _ _ _ => by kernel_rfl
theorem i19 : ∀ n, ref24_Same_i4 n = g19_4 (iter (tabL tab19) prog F19 (afOf prog 19) n) ∧ ref24_Same_i6 n = g19_6 (iter (tabL tab19) prog F19 (afOf prog 19) n) ∧ ref24_Same_i14 n = g19_14 (iter (tabL tab19) prog F19 (afOf prog 19) n)
 | 0 => ⟨rfl, rfl, rfl⟩
 | n + 1 => by
  obtain ⟨h4, h6, h14⟩ := i19 n
  exact ⟨by funext x0 x1; exact ((s19_4 _ x0 x1).trans (by show _ = ref24_Same_c4 (ref24_Same_i4 n) (ref24_Same_i6 n) (ref24_Same_i14 n) x0 x1; rw [h4, h6, h14]; try rfl)).symm, by funext x0 x1 x2 x3 x4; exact ((s19_6 _ x0 x1 x2 x3 x4).trans (by show _ = ref24_Same_c6 (ref24_Same_i4 n) (ref24_Same_i6 n) (ref24_Same_i14 n) x0 x1 x2 x3 x4; rw [h4, h6, h14]; try rfl)).symm, by funext x0 x1 x2; exact ((s19_14 _ x0 x1 x2).trans (by show _ = ref24_Same_c14 (ref24_Same_i4 n) (ref24_Same_i6 n) (ref24_Same_i14 n) x0 x1 x2; rw [h4, h6, h14]; try rfl)).symm⟩
theorem cb19 : callable prog 19 = true := by kernel_rfl
theorem tok19 : TabOK prog tab19 := trivial
theorem ok19 : con19.ok prog 19 := fun a r h => by
 obtain ⟨h4, h6, h14⟩ := i19 fuel
 refine fun_spec (f := F19) (tabL_ok tok19) (tabL_cb tok19) (by kernel_rfl) comp19 fuel (a := a) ((s19 _ a.1 a.2.1).trans ?_)
 have h : ref24_Same_c (ref24_Same_i4 fuel) (ref24_Same_i6 fuel) (ref24_Same_i14 fuel) a.1 a.2.1 = some r := h
 rw [h4, h6, h14] at h
 exact h
def con76 : TCon := ⟨[.a qY3, .c (.int .i64)], [.c (.p (.int .i64))], fun a => ref24_Outputs a.1 a.2.1⟩
def tab76 : List (Nat × TCon) := []
def F76 : TFun := ⟨[], [(4, qc [qn 1, qi, [.boxN 26 2 [.any, .p (.sl qY1)]], qn 2, qi, qi, qn 18])], con76.args, con76.res, qc [qn 4, qi, qn 20], [], [], 0⟩
abbrev g76_4 (J : JT F76) := fun y0 y1 y2 y3 => J 4 (y0, y1, y2, y3, ())
theorem s76_4 : ∀ J x0 x1 x2 x3, seg (tabL tab76) prog F76 (afOf prog 76) J 4 (x0, x1, x2, x3, ()) = ref24_Outputs_c4 (g76_4 J) x0 x1 x2 x3 := fun _ _ _ _ _ => by kernel_rfl
theorem i76 : ∀ n, ref24_Outputs_i4 n = g76_4 (iter (tabL tab76) prog F76 (afOf prog 76) n)
 | 0 => rfl
 | n + 1 => by
  obtain h4 := i76 n
  exact by funext x0 x1 x2 x3; exact ((s76_4 _ x0 x1 x2 x3).trans (by show _ = ref24_Outputs_c4 (ref24_Outputs_i4 n) x0 x1 x2 x3; rw [h4]; try rfl)).symm
def con75 : TCon := ⟨[.a qY3, .c (.int .i64)], [.c (.p (.bool))], fun a => ref24_apart a.1 a.2.1⟩
def tab75 : List (Nat × TCon) := []
def F75 : TFun := ⟨[], [(4, qc [qn 1, qi, [.boxN 26 2 [.any, .p (.sl qY1)]], qn 2, [.boxN 81 5 [.p (.int .i64), .p (.int .i64), .p (.int .i64), .p (.int .i64), .any]], qi, qn 49])], con75.args, con75.res, qc [qn 4, qb, qn 51], [], [], 0⟩
abbrev g75_4 (J : JT F75) := fun y0 y1 y2 y3 y4 y5 y6 => J 4 (y0, y1, y2, y3, y4, y5, y6, ())
theorem s75_4 : ∀ J x0 x1 x2 x3 x4 x5 x6, seg (tabL tab75) prog F75 (afOf prog 75) J 4 (x0, x1, x2, x3, x4, x5, x6, ()) = ref24_apart_c4 (g75_4 J) x0 x1 x2 x3 x4 x5 x6 := fun _ _ _ _ _ _ _ _ => by kernel_rfl
theorem i75 : ∀ n, ref24_apart_i4 n = g75_4 (iter (tabL tab75) prog F75 (afOf prog 75) n)
 | 0 => rfl
 | n + 1 => by
  obtain h4 := i75 n
  exact by funext x0 x1 x2 x3 x4 x5 x6; exact ((s75_4 _ x0 x1 x2 x3 x4 x5 x6).trans (by show _ = ref24_apart_c4 (ref24_apart_i4 n) x0 x1 x2 x3 x4 x5 x6; rw [h4]; try rfl)).symm
def con38 : TCon := ⟨[], [.a [.p (.int .i64), .p (.int .i64), .p (.int .i64), .p (.int .i64), .p (.int .i64)]], fun _ => law45_row⟩
def tab38 : List (Nat × TCon) := []
def F38 : TFun := ⟨[], [], con38.args, con38.res, qc [[.boxN 91 5 [.p (.int .i64), .p (.int .i64), .p (.int .i64), .p (.int .i64), .p (.int .i64)]], qn 3], [], [], 0⟩
theorem comp38 : compFun prog 38 = some (afOf prog 38) := by kernel_rfl
theorem s38 : ∀ J, seg0 (tabL tab38) prog F38 (afOf prog 38) J () = law45_row := fun _ => by kernel_rfl
theorem cb38 : callable prog 38 = true := by kernel_rfl
theorem tok38 : TabOK prog tab38 := trivial
theorem ok38 : con38.ok prog 38 := fun a r h => fun_spec (f := F38) (tabL_ok tok38) (tabL_cb tok38) (by kernel_rfl) comp38 0 (a := a) ((s38 _).trans h)
def con15 : TCon := ⟨[.a [.sl qY1, .sl [.int .i64, .int .i64, .int .i64]]], [.c (.p (.bool))], fun a => ref40_Great a.1⟩
def tab15 : List (Nat × TCon) := []
def F15 : TFun := ⟨[], [], con15.args, con15.res, qc [qn 2, qb, qn 34], [], [], 0⟩
theorem comp15 : compFun prog 15 = some (afOf prog 15) := by kernel_rfl
theorem s15 : ∀ J a0, seg0 (tabL tab15) prog F15 (afOf prog 15) J (a0, ()) = ref40_Great a0 := fun _ _ => by kernel_rfl
theorem cb15 : callable prog 15 = true := by kernel_rfl
theorem tok15 : TabOK prog tab15 := trivial
theorem ok15 : con15.ok prog 15 := fun a r h => fun_spec (f := F15) (tabL_ok tok15) (tabL_cb tok15) (by kernel_rfl) comp15 0 (a := a) ((s15 _ a.1).trans h)
def con21 : TCon := ⟨[.a qY2], [.c (.p (.str))], fun a => lines_pick a.1⟩
def tab21 : List (Nat × TCon) := [(32, con32)]
def F21 : TFun := ⟨[], [], con21.args, con21.res, qc [qn 2, [.c (.p (.str))], qn 14], [], [], 0⟩
theorem comp21 : compFun prog 21 = some (afOf prog 21) := by kernel_rfl
theorem s21 : ∀ J a0, seg0 (tabL tab21) prog F21 (afOf prog 21) J (a0, ()) = lines_pick a0 := fun _ _ => by kernel_rfl
theorem cb21 : callable prog 21 = true := by kernel_rfl
theorem tok21 : TabOK prog tab21 := ⟨ok32, cb32, trivial⟩
theorem ok21 : con21.ok prog 21 := fun a r h => fun_spec (f := F21) (tabL_ok tok21) (tabL_cb tok21) (by kernel_rfl) comp21 0 (a := a) ((s21 _ a.1).trans h)
end Tg

/- Contracts of functions, checked by the kernel. -/
set_option linter.unusedVariables false
set_option linter.unusedSimpArgs false
set_option maxRecDepth 100000
namespace Tg
open Go.Abs
open Go.Proofs.Tryz (prog)
def con20 : TCon := ⟨[.c (.sl qY2)], [.c (.p (.int .i64))], fun a => run_Check a.1⟩
def tab20 : List (Nat × TCon) := []
def F20 : TFun := ⟨[], [(13, qc [[.c (.p (.sl qY2))], [.c (.fn 44 [])], qn 5, qi, qi, qn 27])], con20.args, con20.res, qc [qn 2, qi, qn 5], [(19, [44]), (9, [60]), (6, [43])], [(13, [9, 8])], 8⟩
abbrev g20_13 (J : JT F20) := fun y0 y1 y2 => J 13 (y0, y1, y2, ())
theorem comp20 : compFun prog 20 = some (afOf prog 20) := by kernel_rfl
theorem s20 : ∀ J a0, seg0 (tabL tab20) prog F20 (afOf prog 20) J (a0, ()) = run_Check_c (g20_13 J) a0 := fun _ _ => by kernel_rfl
theorem s20_13 : ∀ J x0 x1 x2, seg (tabL tab20) prog F20 (afOf prog 20) J 13 (x0, x1, x2, ()) = run_Check_c13 (g20_13 J) x0 x1 x2 := fun _ _ _ _ => by kernel_rfl
theorem i20 : ∀ n, run_Check_i13 n = g20_13 (iter (tabL tab20) prog F20 (afOf prog 20) n)
 | 0 => rfl
 | n + 1 => by
  obtain h13 := i20 n
  exact by funext x0 x1 x2; exact ((s20_13 _ x0 x1 x2).trans (by show _ = run_Check_c13 (run_Check_i13 n) x0 x1 x2; rw [h13]; try rfl)).symm
theorem cb20 : callable prog 20 = true := by kernel_rfl
theorem tok20 : TabOK prog tab20 := trivial
theorem ok20 : con20.ok prog 20 := fun a r h => by
 obtain h13 := i20 fuel
 refine fun_spec (f := F20) (tabL_ok tok20) (tabL_cb tok20) (by kernel_rfl) comp20 fuel (a := a) ((s20 _ a.1).trans ?_)
 have h : run_Check_c (run_Check_i13 fuel) a.1 = some r := h
 rw [h13] at h
 exact h
end Tg

/- Contracts of functions, checked by the kernel. -/
set_option linter.unusedVariables false
set_option linter.unusedSimpArgs false
set_option maxRecDepth 100000
namespace Tg
open Go.Abs
open Go.Proofs.Tryz (prog)
end Tg
