import Derived.Test.YtodnlpaialbceaaGreatDoorAbsB6
import Derived.Test.YtodnlpaialbceaaGreatDoorlgA
import Derived.Test.YtodnlpaialbceaaGreatDoorlgT
import Derived.Test.YtodnlpaialbceaaGreatDoorGlT
import Derived.Test.YtodnlpaialbceaaGreatDoorLB
import Derived.Test.YtodnlpaialbceaaGreatDoorProg
/- Contracts of functions, checked by the kernel. -/
set_option linter.unusedVariables false
set_option linter.unusedSimpArgs false
set_option maxRecDepth 100000
namespace Tg
open Go.Abs
open Go.Proofs.Tryz (prog)
def con6 : TCon := ⟨[.a qY3], [.c (.p (.bool))], fun a => ref24_Great a.1⟩
def tab6 : List (Nat × TCon) := []
def F6 : TFun := ⟨[], [], con6.args, con6.res, qc [qn 2, qb, qn 10], [], [], 0⟩
theorem comp6 : compFun prog 6 = some (afOf prog 6) := by kernel_rfl
theorem s6 : ∀ J a0, seg0 (tabL tab6) prog F6 (afOf prog 6) J (a0, ()) = ref24_Great a0 := fun _ _ => by kernel_rfl
theorem cb6 : callable prog 6 = true := by kernel_rfl
theorem tok6 : TabOK prog tab6 := trivial
theorem ok6 : con6.ok prog 6 := fun a r h => fun_spec (f := F6) (tabL_ok tok6) (tabL_cb tok6) (by kernel_rfl) comp6 0 (a := a) ((s6 _ a.1).trans h)
def con5 : TCon := ⟨[.c (.sl qY2)], [.c (.p (.bool))], fun a => ref37_Many a.1⟩
def tab5 : List (Nat × TCon) := []
def F5 : TFun := ⟨[], [], con5.args, con5.res, qc [qn 2, qb, qn 13], [], [], 0⟩
theorem comp5 : compFun prog 5 = some (afOf prog 5) := by kernel_rfl
theorem s5 : ∀ J a0, seg0 (tabL tab5) prog F5 (afOf prog 5) J (a0, ()) = ref37_Many a0 := fun _ _ => by kernel_rfl
theorem cb5 : callable prog 5 = true := by kernel_rfl
theorem tok5 : TabOK prog tab5 := trivial
theorem ok5 : con5.ok prog 5 := fun a r h => fun_spec (f := F5) (tabL_ok tok5) (tabL_cb tok5) (by kernel_rfl) comp5 0 (a := a) ((s5 _ a.1).trans h)
def con13 : TCon := ⟨[.c (.sl qY2), .c (.sl qY2)], [.c (.p (.bool))], fun a => ref45_SamePicks a.1 a.2.1⟩
def tab13 : List (Nat × TCon) := []
def F13 : TFun := ⟨[], [(6, qc [[.c (.p (.sl qY2))], [.c (.p (.sl qY2))], qn 3, qi, qn 20])], con13.args, con13.res, qc [qn 4, qb, qn 21], [], [], 0⟩
abbrev g13_6 (J : JT F13) := fun y0 y1 y2 => J 6 (y0, y1, y2, ())
theorem comp13 : compFun prog 13 = some (afOf prog 13) := by kernel_rfl
theorem s13 : ∀ J a0 a1, seg0 (tabL tab13) prog F13 (afOf prog 13) J (a0, a1, ()) = ref45_SamePicks_c (g13_6 J) a0 a1 := fun _ _ _ => by kernel_rfl
theorem s13_6 : ∀ J x0 x1 x2, seg (tabL tab13) prog F13 (afOf prog 13) J 6 (x0, x1, x2, ()) = ref45_SamePicks_c6 (g13_6 J) x0 x1 x2 := fun _ _ _ _ => by kernel_rfl
theorem i13 : ∀ n, ref45_SamePicks_i6 n = g13_6 (iter (tabL tab13) prog F13 (afOf prog 13) n)
  | 0 => rfl
  | n + 1 => by
    obtain h6 := i13 n
    exact by funext x0 x1 x2; exact ((s13_6 _ x0 x1 x2).trans (by show _ = ref45_SamePicks_c6 (ref45_SamePicks_i6 n) x0 x1 x2; rw [h6]; try rfl)).symm
theorem cb13 : callable prog 13 = true := by kernel_rfl
theorem tok13 : TabOK prog tab13 := trivial
theorem ok13 : con13.ok prog 13 := fun a r h => by
  obtain h6 := i13 fuel
  refine fun_spec (f := F13) (tabL_ok tok13) (tabL_cb tok13) (by kernel_rfl) comp13 fuel (a := a) ((s13 _ a.1 a.2.1).trans ?_)
  have h : ref45_SamePicks_c (ref45_SamePicks_i6 fuel) a.1 a.2.1 = some r := h
  rw [h6] at h
  exact h
def con18 : TCon := ⟨[.c (.str)], [.c (.p (.int .i64))], fun a => law45_count a.1⟩
def tab18 : List (Nat × TCon) := []
def F18 : TFun := ⟨[], [(4, qc [[.c (.p (.str))], qn 2, qi, qi, qn 13])], con18.args, con18.res, qc [qn 2, qi, qn 15], [], [], 0⟩
abbrev g18_4 (J : JT F18) := fun y0 y1 y2 => J 4 (y0, y1, y2, ())
theorem comp18 : compFun prog 18 = some (afOf prog 18) := by kernel_rfl
theorem s18 : ∀ J a0, seg0 (tabL tab18) prog F18 (afOf prog 18) J (a0, ()) = law45_count_c (g18_4 J) a0 := fun _ _ => by kernel_rfl
theorem s18_4 : ∀ J x0 x1 x2, seg (tabL tab18) prog F18 (afOf prog 18) J 4 (x0, x1, x2, ()) = law45_count_c4 (g18_4 J) x0 x1 x2 := fun _ _ _ _ => by kernel_rfl
theorem i18 : ∀ n, law45_count_i4 n = g18_4 (iter (tabL tab18) prog F18 (afOf prog 18) n)
  | 0 => rfl
  | n + 1 => by
    obtain h4 := i18 n
    exact by funext x0 x1 x2; exact ((s18_4 _ x0 x1 x2).trans (by show _ = law45_count_c4 (law45_count_i4 n) x0 x1 x2; rw [h4]; try rfl)).symm
theorem cb18 : callable prog 18 = true := by kernel_rfl
theorem tok18 : TabOK prog tab18 := trivial
theorem ok18 : con18.ok prog 18 := fun a r h => by
  obtain h4 := i18 fuel
  refine fun_spec (f := F18) (tabL_ok tok18) (tabL_cb tok18) (by kernel_rfl) comp18 fuel (a := a) ((s18 _ a.1).trans ?_)
  have h : law45_count_c (law45_count_i4 fuel) a.1 = some r := h
  rw [h4] at h
  exact h
def con19 : TCon := ⟨[.a qY3, .a qY3], [.c (.p (.bool))], fun a => ref24_Same a.1 a.2.1⟩
def tab19 : List (Nat × TCon) := []
def F19 : TFun := ⟨[4], [(4, qc [qn 2, [.boxN 26 2 [.any, .p (.sl qY1)]], [.boxN 26 2 [.any, .p (.sl qY1)]], qn 55]), (6, qc [qn 2, [.boxN 26 2 [.p (.sl [.int .u8, .int .i64]), .p (.sl qY1)]], [.boxN 26 2 [.p (.sl [.int .u8, .int .i64]), .p (.sl qY1)]], qn 1, qi, qn 53]), (14, qc [qn 2, [.boxN 26 2 [.any, .p (.sl qY1)]], [.boxN 26 2 [.any, .p (.sl qY1)]], qn 2, qi, qn 52])], con19.args, con19.res, qc [qn 4, qb, qn 54], [], [], 0⟩
abbrev g19_4 (J : JT F19) := fun y0 y1 => J 4 (y0, y1, ())
abbrev g19_6 (J : JT F19) := fun y0 y1 y2 y3 y4 => J 6 (y0, y1, y2, y3, y4, ())
abbrev g19_14 (J : JT F19) := fun y0 y1 y2 => J 14 (y0, y1, y2, ())
theorem comp19 : compFun prog 19 = some (afOf prog 19) := by kernel_rfl
theorem s19 : ∀ J a0 a1, seg0 (tabL tab19) prog F19 (afOf prog 19) J (a0, a1, ()) = ref24_Same_c (g19_4 J) (g19_6 J) (g19_14 J) a0 a1 := fun _ _ _ => by kernel_rfl
theorem s19_4 : ∀ J x0 x1, seg (tabL tab19) prog F19 (afOf prog 19) J 4 (x0, x1, ()) = ref24_Same_c4 (g19_4 J) (g19_6 J) (g19_14 J) x0 x1 := fun _ _ _ => by kernel_rfl
theorem s19_6 : ∀ J x0 x1 x2 x3 x4, seg (tabL tab19) prog F19 (afOf prog 19) J 6 (x0, x1, x2, x3, x4, ()) = ref24_Same_c6 (g19_4 J) (g19_6 J) (g19_14 J) x0 x1 x2 x3 x4 := fun _ _ _ _ _ _ => by kernel_rfl
theorem s19_14 : ∀ J x0 x1 x2, seg (tabL tab19) prog F19 (afOf prog 19) J 14 (x0, x1, x2, ()) = ref24_Same_c14 (g19_4 J) (g19_6 J) (g19_14 J) x0 x1 x2 := fun _ _ _ _ => by kernel_rfl
theorem i19 : ∀ n, ref24_Same_i4 n = g19_4 (iter (tabL tab19) prog F19 (afOf prog 19) n) ∧ ref24_Same_i6 n = g19_6 (iter (tabL tab19) prog F19 (afOf prog 19) n) ∧ ref24_Same_i14 n = g19_14 (iter (tabL tab19) prog F19 (afOf prog 19) n)
  | 0 => ⟨rfl, rfl, rfl⟩
  | n + 1 => by
    obtain ⟨h4, h6, h14⟩ := i19 n
    exact ⟨by funext x0 x1; exact ((s19_4 _ x0 x1).trans (by show _ = ref24_Same_c4 (ref24_Same_i4 n) (ref24_Same_i6 n) (ref24_Same_i14 n) x0 x1; rw [h4, h6, h14]; try rfl)).symm, by funext x0 x1 x2 x3 x4; exact ((s19_6 _ x0 x1 x2 x3 x4).trans (by show _ = ref24_Same_c6 (ref24_Same_i4 n) (ref24_Same_i6 n) (ref24_Same_i14 n) x0 x1 x2 x3 x4; rw [h4, h6, h14]; try rfl)).symm, by funext x0 x1 x2; exact ((s19_14 _ x0 x1 x2).trans (by show _ = ref24_Same_c14 (ref24_Same_i4 n) (ref24_Same_i6 n) (ref24_Same_i14 n) x0 x1 x2; rw [h4, h6, h14]; try rfl)).symm⟩
theorem cb19 : callable prog 19 = true := by kernel_rfl
theorem tok19 : TabOK prog tab19 := trivial
theorem ok19 : con19.ok prog 19 := fun a r h => by
  obtain ⟨h4, h6, h14⟩ := i19 fuel
  refine fun_spec (f := F19) (tabL_ok tok19) (tabL_cb tok19) (by kernel_rfl) comp19 fuel (a := a) ((s19 _ a.1 a.2.1).trans ?_)
  have h : ref24_Same_c (ref24_Same_i4 fuel) (ref24_Same_i6 fuel) (ref24_Same_i14 fuel) a.1 a.2.1 = some r := h
  rw [h4, h6, h14] at h
  exact h
def con23 : TCon := ⟨[.c (.sl qY2)], [.c (.p (.int .i64))], fun a => ref37_Check a.1⟩
def tab23 : List (Nat × TCon) := []
def F23 : TFun := ⟨[], [(6, qc [[.c (.p (.sl qY2))], qn 2, qi, qn 39])], con23.args, con23.res, qc [qn 2, qi, qn 40], [], [], 0⟩
abbrev g23_6 (J : JT F23) := fun y0 y1 => J 6 (y0, y1, ())
theorem comp23 : compFun prog 23 = some (afOf prog 23) := by kernel_rfl
theorem s23 : ∀ J a0, seg0 (tabL tab23) prog F23 (afOf prog 23) J (a0, ()) = ref37_Check_c (g23_6 J) a0 := fun _ _ => by kernel_rfl
theorem s23_6 : ∀ J x0 x1, seg (tabL tab23) prog F23 (afOf prog 23) J 6 (x0, x1, ()) = ref37_Check_c6 (g23_6 J) x0 x1 := fun _ _ _ => by kernel_rfl
theorem i23 : ∀ n, ref37_Check_i6 n = g23_6 (iter (tabL tab23) prog F23 (afOf prog 23) n)
  | 0 => rfl
  | n + 1 => by
    obtain h6 := i23 n
    exact by funext x0 x1; exact ((s23_6 _ x0 x1).trans (by show _ = ref37_Check_c6 (ref37_Check_i6 n) x0 x1; rw [h6]; try rfl)).symm
theorem cb23 : callable prog 23 = true := by kernel_rfl
theorem tok23 : TabOK prog tab23 := trivial
theorem ok23 : con23.ok prog 23 := fun a r h => by
  obtain h6 := i23 fuel
  refine fun_spec (f := F23) (tabL_ok tok23) (tabL_cb tok23) (by kernel_rfl) comp23 fuel (a := a) ((s23 _ a.1).trans ?_)
  have h : ref37_Check_c (ref37_Check_i6 fuel) a.1 = some r := h
  rw [h6] at h
  exact h
def con28 : TCon := ⟨[.c (.str), .c (.int .u8)], [.c (.s 9 1 [.str])], fun a => ref45_Split a.1 a.2.1⟩
def tab28 : List (Nat × TCon) := []
def F28 : TFun := ⟨[], [(5, qc [[.c (.p (.str))], [.c (.p (.int .u8))], qn 3, [.c (.rowN 9 1 [.str])], qi, qi, qn 21])], con28.args, con28.res, qc [qn 4, [.c (.rowN 9 1 [.str])], qn 24], [], [], 0⟩
abbrev g28_5 (J : JT F28) := fun y0 y1 y2 y3 y4 => J 5 (y0, y1, y2, y3, y4, ())
theorem comp28 : compFun prog 28 = some (afOf prog 28) := by kernel_rfl
theorem s28 : ∀ J a0 a1, seg0 (tabL tab28) prog F28 (afOf prog 28) J (a0, a1, ()) = ref45_Split_c (g28_5 J) a0 a1 := fun _ _ _ => by kernel_rfl
theorem s28_5 : ∀ J x0 x1 x2 x3 x4, seg (tabL tab28) prog F28 (afOf prog 28) J 5 (x0, x1, x2, x3, x4, ()) = ref45_Split_c5 (g28_5 J) x0 x1 x2 x3 x4 := fun _ _ _ _ _ _ => by kernel_rfl
theorem i28 : ∀ n, ref45_Split_i5 n = g28_5 (iter (tabL tab28) prog F28 (afOf prog 28) n)
  | 0 => rfl
  | n + 1 => by
    obtain h5 := i28 n
    exact by funext x0 x1 x2 x3 x4; exact ((s28_5 _ x0 x1 x2 x3 x4).trans (by show _ = ref45_Split_c5 (ref45_Split_i5 n) x0 x1 x2 x3 x4; rw [h5]; try rfl)).symm
theorem cb28 : callable prog 28 = true := by kernel_rfl
theorem tok28 : TabOK prog tab28 := trivial
theorem ok28 : con28.ok prog 28 := fun a r h => by
  obtain h5 := i28 fuel
  refine fun_spec (f := F28) (tabL_ok tok28) (tabL_cb tok28) (by kernel_rfl) comp28 fuel (a := a) ((s28 _ a.1 a.2.1).trans ?_)
  have h : ref45_Split_c (ref45_Split_i5 fuel) a.1 a.2.1 = some r := h
  rw [h5] at h
  exact h
def con28p : TCon := ⟨[.c (.str), .c (.int .u8)], [.c (.p (.sl [.str]))], fun a => ref45_Split a.1 a.2.1⟩
theorem ok28p : con28p.ok prog 28 := fun a r h => TCon.frz (c := con28) ok28 rfl a r h
def con29 : TCon := ⟨[.c (.str)], [.c (.p (.int .i64))], fun a => ref45_small a.1⟩
def tab29 : List (Nat × TCon) := []
def F29 : TFun := ⟨[], [(4, qc [[.c (.p (.str))], qn 2, qi, qi, qn 19])], con29.args, con29.res, qc [qn 2, qi, qn 21], [], [], 0⟩
abbrev g29_4 (J : JT F29) := fun y0 y1 y2 => J 4 (y0, y1, y2, ())
theorem comp29 : compFun prog 29 = some (afOf prog 29) := by kernel_rfl
theorem s29 : ∀ J a0, seg0 (tabL tab29) prog F29 (afOf prog 29) J (a0, ()) = ref45_small_c (g29_4 J) a0 := fun _ _ => by kernel_rfl
theorem s29_4 : ∀ J x0 x1 x2, seg (tabL tab29) prog F29 (afOf prog 29) J 4 (x0, x1, x2, ()) = ref45_small_c4 (g29_4 J) x0 x1 x2 := fun _ _ _ _ => by kernel_rfl
theorem i29 : ∀ n, ref45_small_i4 n = g29_4 (iter (tabL tab29) prog F29 (afOf prog 29) n)
  | 0 => rfl
  | n + 1 => by
    obtain h4 := i29 n
    exact by funext x0 x1 x2; exact ((s29_4 _ x0 x1 x2).trans (by show _ = ref45_small_c4 (ref45_small_i4 n) x0 x1 x2; rw [h4]; try rfl)).symm
theorem cb29 : callable prog 29 = true := by kernel_rfl
theorem tok29 : TabOK prog tab29 := trivial
theorem ok29 : con29.ok prog 29 := fun a r h => by
  obtain h4 := i29 fuel
  refine fun_spec (f := F29) (tabL_ok tok29) (tabL_cb tok29) (by kernel_rfl) comp29 fuel (a := a) ((s29 _ a.1).trans ?_)
  have h : ref45_small_c (ref45_small_i4 fuel) a.1 = some r := h
  rw [h4] at h
  exact h
def con35 : TCon := ⟨[.c (.sl [.str])], [.c (.p (.str))], fun a => ref45_Joined a.1⟩
def tab35 : List (Nat × TCon) := []
def F35 : TFun := ⟨[], [(4, qc [[.c (.p (.sl [.str]))], qn 2, [.c (.p (.str))], qi, qn 14])], con35.args, con35.res, qc [qn 2, [.c (.p (.str))], qn 16], [], [], 0⟩
abbrev g35_4 (J : JT F35) := fun y0 y1 y2 => J 4 (y0, y1, y2, ())
theorem comp35 : compFun prog 35 = some (afOf prog 35) := by kernel_rfl
theorem s35 : ∀ J a0, seg0 (tabL tab35) prog F35 (afOf prog 35) J (a0, ()) = ref45_Joined_c (g35_4 J) a0 := fun _ _ => by kernel_rfl
theorem s35_4 : ∀ J x0 x1 x2, seg (tabL tab35) prog F35 (afOf prog 35) J 4 (x0, x1, x2, ()) = ref45_Joined_c4 (g35_4 J) x0 x1 x2 := fun _ _ _ _ => by kernel_rfl
theorem i35 : ∀ n, ref45_Joined_i4 n = g35_4 (iter (tabL tab35) prog F35 (afOf prog 35) n)
  | 0 => rfl
  | n + 1 => by
    obtain h4 := i35 n
    exact by funext x0 x1 x2; exact ((s35_4 _ x0 x1 x2).trans (by show _ = ref45_Joined_c4 (ref45_Joined_i4 n) x0 x1 x2; rw [h4]; try rfl)).symm
theorem cb35 : callable prog 35 = true := by kernel_rfl
theorem tok35 : TabOK prog tab35 := trivial
theorem ok35 : con35.ok prog 35 := fun a r h => by
  obtain h4 := i35 fuel
  refine fun_spec (f := F35) (tabL_ok tok35) (tabL_cb tok35) (by kernel_rfl) comp35 fuel (a := a) ((s35 _ a.1).trans ?_)
  have h : ref45_Joined_c (ref45_Joined_i4 fuel) a.1 = some r := h
  rw [h4] at h
  exact h
def con99 : TCon := ⟨[.c (.int .i64), .c (.int .i64), .c (.int .i64)], [.c (.p (.bool))], fun a => ref24_between a.1 a.2.1 a.2.2.1⟩
def tab99 : List (Nat × TCon) := []
def F99 : TFun := ⟨[], [], con99.args, con99.res, qc [qn 6, qb, qn 8], [], [], 0⟩
theorem comp99 : compFun prog 99 = some (afOf prog 99) := by kernel_rfl
theorem s99 : ∀ J a0 a1 a2, seg0 (tabL tab99) prog F99 (afOf prog 99) J (a0, a1, a2, ()) = ref24_between a0 a1 a2 := fun _ _ _ _ => by kernel_rfl
theorem cb99 : callable prog 99 = true := by kernel_rfl
theorem tok99 : TabOK prog tab99 := trivial
theorem ok99 : con99.ok prog 99 := fun a r h => fun_spec (f := F99) (tabL_ok tok99) (tabL_cb tok99) (by kernel_rfl) comp99 0 (a := a) ((s99 _ a.1 a.2.1 a.2.2.1).trans h)
def con78 : TCon := ⟨[.c (.int .u8), .c (.int .i64), .c (.int .i64)], [.c (.p (.bool))], fun a => ref24_Many a.1 a.2.1 a.2.2.1⟩
def tab78 : List (Nat × TCon) := [(99, con99)]
def F78 : TFun := ⟨[], [], con78.args, con78.res, qc [qn 6, qb, qn 59], [], [], 0⟩
theorem comp78 : compFun prog 78 = some (afOf prog 78) := by kernel_rfl
theorem s78 : ∀ J a0 a1 a2, seg0 (tabL tab78) prog F78 (afOf prog 78) J (a0, a1, a2, ()) = ref24_Many a0 a1 a2 := fun _ _ _ _ => by kernel_rfl
theorem cb78 : callable prog 78 = true := by kernel_rfl
theorem tok78 : TabOK prog tab78 := ⟨ok99, cb99, trivial⟩
theorem ok78 : con78.ok prog 78 := fun a r h => fun_spec (f := F78) (tabL_ok tok78) (tabL_cb tok78) (by kernel_rfl) comp78 0 (a := a) ((s78 _ a.1 a.2.1 a.2.2.1).trans h)
def con77 : TCon := ⟨[.a qY3, .c (.int .i64)], [.c (.p (.int .i64))], fun a => ref24_Inputs a.1 a.2.1⟩
def tab77 : List (Nat × TCon) := []
def F77 : TFun := ⟨[], [(4, qc [qn 1, qi, [.boxN 26 2 [.any, .p (.sl qY1)]], qn 2, qi, qi, qn 18])], con77.args, con77.res, qc [qn 4, qi, qn 20], [], [], 0⟩
abbrev g77_4 (J : JT F77) := fun y0 y1 y2 y3 => J 4 (y0, y1, y2, y3, ())
theorem comp77 : compFun prog 77 = some (afOf prog 77) := by kernel_rfl
theorem s77 : ∀ J a0 a1, seg0 (tabL tab77) prog F77 (afOf prog 77) J (a0, a1, ()) = ref24_Inputs_c (g77_4 J) a0 a1 := fun _ _ _ => by kernel_rfl
theorem s77_4 : ∀ J x0 x1 x2 x3, seg (tabL tab77) prog F77 (afOf prog 77) J 4 (x0, x1, x2, x3, ()) = ref24_Inputs_c4 (g77_4 J) x0 x1 x2 x3 := fun _ _ _ _ _ => by kernel_rfl
theorem i77 : ∀ n, ref24_Inputs_i4 n = g77_4 (iter (tabL tab77) prog F77 (afOf prog 77) n)
  | 0 => rfl
  | n + 1 => by
    obtain h4 := i77 n
    exact by funext x0 x1 x2 x3; exact ((s77_4 _ x0 x1 x2 x3).trans (by show _ = ref24_Inputs_c4 (ref24_Inputs_i4 n) x0 x1 x2 x3; rw [h4]; try rfl)).symm
theorem cb77 : callable prog 77 = true := by kernel_rfl
theorem tok77 : TabOK prog tab77 := trivial
theorem ok77 : con77.ok prog 77 := fun a r h => by
  obtain h4 := i77 fuel
  refine fun_spec (f := F77) (tabL_ok tok77) (tabL_cb tok77) (by kernel_rfl) comp77 fuel (a := a) ((s77 _ a.1 a.2.1).trans ?_)
  have h : ref24_Inputs_c (ref24_Inputs_i4 fuel) a.1 a.2.1 = some r := h
  rw [h4] at h
  exact h
def con76 : TCon := ⟨[.a qY3, .c (.int .i64)], [.c (.p (.int .i64))], fun a => ref24_Outputs a.1 a.2.1⟩
def tab76 : List (Nat × TCon) := []
def F76 : TFun := ⟨[], [(4, qc [qn 1, qi, [.boxN 26 2 [.any, .p (.sl qY1)]], qn 2, qi, qi, qn 18])], con76.args, con76.res, qc [qn 4, qi, qn 20], [], [], 0⟩
abbrev g76_4 (J : JT F76) := fun y0 y1 y2 y3 => J 4 (y0, y1, y2, y3, ())
theorem comp76 : compFun prog 76 = some (afOf prog 76) := by kernel_rfl
theorem s76 : ∀ J a0 a1, seg0 (tabL tab76) prog F76 (afOf prog 76) J (a0, a1, ()) = ref24_Outputs_c (g76_4 J) a0 a1 := fun _ _ _ => by kernel_rfl
theorem s76_4 : ∀ J x0 x1 x2 x3, seg (tabL tab76) prog F76 (afOf prog 76) J 4 (x0, x1, x2, x3, ()) = ref24_Outputs_c4 (g76_4 J) x0 x1 x2 x3 := fun _ _ _ _ _ => by kernel_rfl
theorem i76 : ∀ n, ref24_Outputs_i4 n = g76_4 (iter (tabL tab76) prog F76 (afOf prog 76) n)
  | 0 => rfl
  | n + 1 => by
    obtain h4 := i76 n
    exact by funext x0 x1 x2 x3; exact ((s76_4 _ x0 x1 x2 x3).trans (by show _ = ref24_Outputs_c4 (ref24_Outputs_i4 n) x0 x1 x2 x3; rw [h4]; try rfl)).symm
theorem cb76 : callable prog 76 = true := by kernel_rfl
theorem tok76 : TabOK prog tab76 := trivial
theorem ok76 : con76.ok prog 76 := fun a r h => by
  obtain h4 := i76 fuel
  refine fun_spec (f := F76) (tabL_ok tok76) (tabL_cb tok76) (by kernel_rfl) comp76 fuel (a := a) ((s76 _ a.1 a.2.1).trans ?_)
  have h : ref24_Outputs_c (ref24_Outputs_i4 fuel) a.1 a.2.1 = some r := h
  rw [h4] at h
  exact h
def con75 : TCon := ⟨[.a qY3, .c (.int .i64)], [.c (.p (.bool))], fun a => ref24_apart a.1 a.2.1⟩
def tab75 : List (Nat × TCon) := []
def F75 : TFun := ⟨[], [(4, qc [qn 1, qi, [.boxN 26 2 [.any, .p (.sl qY1)]], qn 2, [.boxN 81 5 [.p (.int .i64), .p (.int .i64), .p (.int .i64), .p (.int .i64), .any]], qi, qn 49])], con75.args, con75.res, qc [qn 4, qb, qn 51], [], [], 0⟩
abbrev g75_4 (J : JT F75) := fun y0 y1 y2 y3 y4 y5 y6 => J 4 (y0, y1, y2, y3, y4, y5, y6, ())
theorem comp75 : compFun prog 75 = some (afOf prog 75) := by kernel_rfl
theorem s75 : ∀ J a0 a1, seg0 (tabL tab75) prog F75 (afOf prog 75) J (a0, a1, ()) = ref24_apart_c (g75_4 J) a0 a1 := fun _ _ _ => by kernel_rfl
theorem s75_4 : ∀ J x0 x1 x2 x3 x4 x5 x6, seg (tabL tab75) prog F75 (afOf prog 75) J 4 (x0, x1, x2, x3, x4, x5, x6, ()) = ref24_apart_c4 (g75_4 J) x0 x1 x2 x3 x4 x5 x6 := fun _ _ _ _ _ _ _ _ => by kernel_rfl
theorem i75 : ∀ n, ref24_apart_i4 n = g75_4 (iter (tabL tab75) prog F75 (afOf prog 75) n)
  | 0 => rfl
  | n + 1 => by
    obtain h4 := i75 n
    exact by funext x0 x1 x2 x3 x4 x5 x6; exact ((s75_4 _ x0 x1 x2 x3 x4 x5 x6).trans (by show _ = ref24_apart_c4 (ref24_apart_i4 n) x0 x1 x2 x3 x4 x5 x6; rw [h4]; try rfl)).symm
theorem cb75 : callable prog 75 = true := by kernel_rfl
theorem tok75 : TabOK prog tab75 := trivial
theorem ok75 : con75.ok prog 75 := fun a r h => by
  obtain h4 := i75 fuel
  refine fun_spec (f := F75) (tabL_ok tok75) (tabL_cb tok75) (by kernel_rfl) comp75 fuel (a := a) ((s75 _ a.1 a.2.1).trans ?_)
  have h : ref24_apart_c (ref24_apart_i4 fuel) a.1 a.2.1 = some r := h
  rw [h4] at h
  exact h
def con79 : TCon := ⟨[.a qY3, .c (.int .i64)], [.c (.s 4 1 [.bool])], fun a => ref24_Reaches a.1 a.2.1⟩
def tab79 : List (Nat × TCon) := []
def F79 : TFun := ⟨[], [(4, qc [qn 1, qi, [.boxN 26 2 [.p (.sl [.int .u8, .int .i64]), .p (.sl qY1)]], qn 2, [.c (.rowN 4 1 [.bool])], qi, qn 41]), (9, qc [qn 1, qi, [.boxN 26 2 [.p (.sl [.int .u8, .int .i64]), .p (.sl qY1)]], qn 2, [.c (.rowN 4 1 [.bool])], qi, qi, qn 40])], con79.args, con79.res, qc [qn 4, [.c (.rowN 4 1 [.bool])], qn 43], [], [], 0⟩
abbrev g79_4 (J : JT F79) := fun y0 y1 y2 y3 y4 => J 4 (y0, y1, y2, y3, y4, ())
abbrev g79_9 (J : JT F79) := fun y0 y1 y2 y3 y4 y5 => J 9 (y0, y1, y2, y3, y4, y5, ())
theorem comp79 : compFun prog 79 = some (afOf prog 79) := by kernel_rfl
theorem s79 : ∀ J a0 a1, seg0 (tabL tab79) prog F79 (afOf prog 79) J (a0, a1, ()) = ref24_Reaches_c (g79_4 J) (g79_9 J) a0 a1 := fun _ _ _ => by kernel_rfl
theorem s79_4 : ∀ J x0 x1 x2 x3 x4, seg (tabL tab79) prog F79 (afOf prog 79) J 4 (x0, x1, x2, x3, x4, ()) = ref24_Reaches_c4 (g79_4 J) (g79_9 J) x0 x1 x2 x3 x4 := fun _ _ _ _ _ _ => by kernel_rfl
theorem s79_9 : ∀ J x0 x1 x2 x3 x4 x5, seg (tabL tab79) prog F79 (afOf prog 79) J 9 (x0, x1, x2, x3, x4, x5, ()) = ref24_Reaches_c9 (g79_4 J) (g79_9 J) x0 x1 x2 x3 x4 x5 := fun _ _ _ _ _ _ _ => by kernel_rfl
theorem i79 : ∀ n, ref24_Reaches_i4 n = g79_4 (iter (tabL tab79) prog F79 (afOf prog 79) n) ∧ ref24_Reaches_i9 n = g79_9 (iter (tabL tab79) prog F79 (afOf prog 79) n)
  | 0 => ⟨rfl, rfl⟩
  | n + 1 => by
    obtain ⟨h4, h9⟩ := i79 n
    exact ⟨by funext x0 x1 x2 x3 x4; exact ((s79_4 _ x0 x1 x2 x3 x4).trans (by show _ = ref24_Reaches_c4 (ref24_Reaches_i4 n) (ref24_Reaches_i9 n) x0 x1 x2 x3 x4; rw [h4, h9]; try rfl)).symm, by funext x0 x1 x2 x3 x4 x5; exact ((s79_9 _ x0 x1 x2 x3 x4 x5).trans (by show _ = ref24_Reaches_c9 (ref24_Reaches_i4 n) (ref24_Reaches_i9 n) x0 x1 x2 x3 x4 x5; rw [h4, h9]; try rfl)).symm⟩
theorem cb79 : callable prog 79 = true := by kernel_rfl
theorem tok79 : TabOK prog tab79 := trivial
theorem ok79 : con79.ok prog 79 := fun a r h => by
  obtain ⟨h4, h9⟩ := i79 fuel
  refine fun_spec (f := F79) (tabL_ok tok79) (tabL_cb tok79) (by kernel_rfl) comp79 fuel (a := a) ((s79 _ a.1 a.2.1).trans ?_)
  have h : ref24_Reaches_c (ref24_Reaches_i4 fuel) (ref24_Reaches_i9 fuel) a.1 a.2.1 = some r := h
  rw [h4, h9] at h
  exact h
def con79p : TCon := ⟨[.a qY3, .c (.int .i64)], [.c (.p (.sl [.bool]))], fun a => ref24_Reaches a.1 a.2.1⟩
theorem ok79p : con79p.ok prog 79 := fun a r h => TCon.frz (c := con79) ok79 rfl a r h
def con55 : TCon := ⟨[.a qY3], [.c (.p (.bool))], fun a => ref24_Valid a.1⟩
def tab55 : List (Nat × TCon) := [(75, con75), (76, con76), (77, con77), (78, con78), (79, con79p)]
def F55 : TFun := ⟨[1, 10], [(1, qc [qn 1, [.boxN 26 2 [.p (.sl [.int .u8, .int .i64]), .p (.sl qY1)]], qn 137]), (3, qc [qn 1, [.boxN 26 2 [.p (.sl [.int .u8, .int .i64]), .p (.sl qY1)]], qn 1, qi, qn 135]), (10, qc [qn 1, [.boxN 26 2 [.p (.sl [.int .u8, .int .i64]), .p (.sl qY1)]], qn 137]), (12, qc [qn 1, [.boxN 26 2 [.p (.sl [.int .u8, .int .i64]), .p (.sl qY1)]], qn 3, qi, qn 133]), (21, qc [qn 1, [.boxN 26 2 [.p (.sl [.int .u8, .int .i64]), .p (.sl qY1)]], qn 5, qi, qn 131])], con55.args, con55.res, qc [qn 2, qb, qn 136], [], [], 0⟩
abbrev g55_1 (J : JT F55) := fun y0 y1 => J 1 (y0, y1, ())
abbrev g55_3 (J : JT F55) := fun y0 y1 y2 => J 3 (y0, y1, y2, ())
abbrev g55_10 (J : JT F55) := fun y0 y1 => J 10 (y0, y1, ())
abbrev g55_12 (J : JT F55) := fun y0 y1 y2 => J 12 (y0, y1, y2, ())
abbrev g55_21 (J : JT F55) := fun y0 y1 y2 => J 21 (y0, y1, y2, ())
theorem comp55 : compFun prog 55 = some (afOf prog 55) := by kernel_rfl
theorem s55 : ∀ J a0, seg0 (tabL tab55) prog F55 (afOf prog 55) J (a0, ()) = ref24_Valid_c (g55_1 J) (g55_3 J) (g55_10 J) (g55_12 J) (g55_21 J) a0 := fun _ _ => by kernel_rfl
theorem s55_1 : ∀ J x0 x1, seg (tabL tab55) prog F55 (afOf prog 55) J 1 (x0, x1, ()) = ref24_Valid_c1 (g55_1 J) (g55_3 J) (g55_10 J) (g55_12 J) (g55_21 J) x0 x1 := fun _ _ _ => by kernel_rfl
theorem s55_3 : ∀ J x0 x1 x2, seg (tabL tab55) prog F55 (afOf prog 55) J 3 (x0, x1, x2, ()) = ref24_Valid_c3 (g55_1 J) (g55_3 J) (g55_10 J) (g55_12 J) (g55_21 J) x0 x1 x2 := fun _ _ _ _ => by kernel_rfl
theorem s55_10 : ∀ J x0 x1, seg (tabL tab55) prog F55 (afOf prog 55) J 10 (x0, x1, ()) = ref24_Valid_c10 (g55_1 J) (g55_3 J) (g55_10 J) (g55_12 J) (g55_21 J) x0 x1 := fun _ _ _ => by kernel_rfl
theorem s55_12 : ∀ J x0 x1 x2, seg (tabL tab55) prog F55 (afOf prog 55) J 12 (x0, x1, x2, ()) = ref24_Valid_c12 (g55_1 J) (g55_3 J) (g55_10 J) (g55_12 J) (g55_21 J) x0 x1 x2 := fun _ _ _ _ => by kernel_rfl
theorem s55_21 : ∀ J x0 x1 x2, seg (tabL tab55) prog F55 (afOf prog 55) J 21 (x0, x1, x2, ()) = ref24_Valid_c21 (g55_1 J) (g55_3 J) (g55_10 J) (g55_12 J) (g55_21 J) x0 x1 x2 := fun _ _ _ _ => by kernel_rfl
theorem i55 : ∀ n, ref24_Valid_i1 n = g55_1 (iter (tabL tab55) prog F55 (afOf prog 55) n) ∧ ref24_Valid_i3 n = g55_3 (iter (tabL tab55) prog F55 (afOf prog 55) n) ∧ ref24_Valid_i10 n = g55_10 (iter (tabL tab55) prog F55 (afOf prog 55) n) ∧ ref24_Valid_i12 n = g55_12 (iter (tabL tab55) prog F55 (afOf prog 55) n) ∧ ref24_Valid_i21 n = g55_21 (iter (tabL tab55) prog F55 (afOf prog 55) n)
  | 0 => ⟨rfl, rfl, rfl, rfl, rfl⟩
  | n + 1 => by
    obtain ⟨h1, h3, h10, h12, h21⟩ := i55 n
    exact ⟨by funext x0 x1; exact ((s55_1 _ x0 x1).trans (by show _ = ref24_Valid_c1 (ref24_Valid_i1 n) (ref24_Valid_i3 n) (ref24_Valid_i10 n) (ref24_Valid_i12 n) (ref24_Valid_i21 n) x0 x1; rw [h1, h3, h10, h12, h21]; try rfl)).symm, by funext x0 x1 x2; exact ((s55_3 _ x0 x1 x2).trans (by show _ = ref24_Valid_c3 (ref24_Valid_i1 n) (ref24_Valid_i3 n) (ref24_Valid_i10 n) (ref24_Valid_i12 n) (ref24_Valid_i21 n) x0 x1 x2; rw [h1, h3, h10, h12, h21]; try rfl)).symm, by funext x0 x1; exact ((s55_10 _ x0 x1).trans (by show _ = ref24_Valid_c10 (ref24_Valid_i1 n) (ref24_Valid_i3 n) (ref24_Valid_i10 n) (ref24_Valid_i12 n) (ref24_Valid_i21 n) x0 x1; rw [h1, h3, h10, h12, h21]; try rfl)).symm, by funext x0 x1 x2; exact ((s55_12 _ x0 x1 x2).trans (by show _ = ref24_Valid_c12 (ref24_Valid_i1 n) (ref24_Valid_i3 n) (ref24_Valid_i10 n) (ref24_Valid_i12 n) (ref24_Valid_i21 n) x0 x1 x2; rw [h1, h3, h10, h12, h21]; try rfl)).symm, by funext x0 x1 x2; exact ((s55_21 _ x0 x1 x2).trans (by show _ = ref24_Valid_c21 (ref24_Valid_i1 n) (ref24_Valid_i3 n) (ref24_Valid_i10 n) (ref24_Valid_i12 n) (ref24_Valid_i21 n) x0 x1 x2; rw [h1, h3, h10, h12, h21]; try rfl)).symm⟩
theorem cb55 : callable prog 55 = true := by kernel_rfl
theorem tok55 : TabOK prog tab55 := ⟨ok75, cb75, ok76, cb76, ok77, cb77, ok78, cb78, ok79p, cb79, trivial⟩
theorem ok55 : con55.ok prog 55 := fun a r h => by
  obtain ⟨h1, h3, h10, h12, h21⟩ := i55 fuel
  refine fun_spec (f := F55) (tabL_ok tok55) (tabL_cb tok55) (by kernel_rfl) comp55 fuel (a := a) ((s55 _ a.1).trans ?_)
  have h : ref24_Valid_c (ref24_Valid_i1 fuel) (ref24_Valid_i3 fuel) (ref24_Valid_i10 fuel) (ref24_Valid_i12 fuel) (ref24_Valid_i21 fuel) a.1 = some r := h
  rw [h1, h3, h10, h12, h21] at h
  exact h
def con34 : TCon := ⟨[.a qY3], [.c (.p (.int .i64))], fun a => ref24_Check a.1⟩
def tab34 : List (Nat × TCon) := [(55, con55)]
def F34 : TFun := ⟨[], [], con34.args, con34.res, qc [qn 2, qi, qn 13], [], [], 0⟩
theorem comp34 : compFun prog 34 = some (afOf prog 34) := by kernel_rfl
theorem s34 : ∀ J a0, seg0 (tabL tab34) prog F34 (afOf prog 34) J (a0, ()) = ref24_Check a0 := fun _ _ => by kernel_rfl
theorem cb34 : callable prog 34 = true := by kernel_rfl
theorem tok34 : TabOK prog tab34 := ⟨ok55, cb55, trivial⟩
theorem ok34 : con34.ok prog 34 := fun a r h => fun_spec (f := F34) (tabL_ok tok34) (tabL_cb tok34) (by kernel_rfl) comp34 0 (a := a) ((s34 _ a.1).trans h)
def con38 : TCon := ⟨[], [.a [.p (.int .i64), .p (.int .i64), .p (.int .i64), .p (.int .i64), .p (.int .i64)]], fun _ => law45_row⟩
def tab38 : List (Nat × TCon) := []
def F38 : TFun := ⟨[], [], con38.args, con38.res, qc [[.boxN 91 5 [.p (.int .i64), .p (.int .i64), .p (.int .i64), .p (.int .i64), .p (.int .i64)]], qn 3], [], [], 0⟩
theorem comp38 : compFun prog 38 = some (afOf prog 38) := by kernel_rfl
theorem s38 : ∀ J, seg0 (tabL tab38) prog F38 (afOf prog 38) J () = law45_row := fun _ => by kernel_rfl
theorem cb38 : callable prog 38 = true := by kernel_rfl
theorem tok38 : TabOK prog tab38 := trivial
theorem ok38 : con38.ok prog 38 := fun a r h => fun_spec (f := F38) (tabL_ok tok38) (tabL_cb tok38) (by kernel_rfl) comp38 0 (a := a) ((s38 _).trans h)
def con15 : TCon := ⟨[.a [.sl qY1, .sl [.int .i64, .int .i64, .int .i64]]], [.c (.p (.bool))], fun a => ref40_Great a.1⟩
def tab15 : List (Nat × TCon) := []
def F15 : TFun := ⟨[], [], con15.args, con15.res, qc [qn 2, qb, qn 34], [], [], 0⟩
theorem comp15 : compFun prog 15 = some (afOf prog 15) := by kernel_rfl
theorem s15 : ∀ J a0, seg0 (tabL tab15) prog F15 (afOf prog 15) J (a0, ()) = ref40_Great a0 := fun _ _ => by kernel_rfl
theorem cb15 : callable prog 15 = true := by kernel_rfl
theorem tok15 : TabOK prog tab15 := trivial
theorem ok15 : con15.ok prog 15 := fun a r h => fun_spec (f := F15) (tabL_ok tok15) (tabL_cb tok15) (by kernel_rfl) comp15 0 (a := a) ((s15 _ a.1).trans h)
def con21 : TCon := ⟨[.a qY2], [.c (.p (.str))], fun a => lines_pick a.1⟩
def tab21 : List (Nat × TCon) := [(32, con32)]
def F21 : TFun := ⟨[], [], con21.args, con21.res, qc [qn 2, [.c (.p (.str))], qn 14], [], [], 0⟩
theorem comp21 : compFun prog 21 = some (afOf prog 21) := by kernel_rfl
theorem s21 : ∀ J a0, seg0 (tabL tab21) prog F21 (afOf prog 21) J (a0, ()) = lines_pick a0 := fun _ _ => by kernel_rfl
theorem cb21 : callable prog 21 = true := by kernel_rfl
theorem tok21 : TabOK prog tab21 := ⟨ok32, cb32, trivial⟩
theorem ok21 : con21.ok prog 21 := fun a r h => fun_spec (f := F21) (tabL_ok tok21) (tabL_cb tok21) (by kernel_rfl) comp21 0 (a := a) ((s21 _ a.1).trans h)
def con24 : TCon := ⟨[.c (.sl qY2)], [.c (.p (.str))], fun a => ref45_Picked a.1⟩
def tab24 : List (Nat × TCon) := [(46, con46)]
def F24 : TFun := ⟨[8], [(4, qc [[.c (.p (.sl qY2))], qn 2, [.c (.p (.str))], qi, qn 34]), (8, qc [[.c (.p (.sl qY2))], qn 2, [.c (.p (.str))], qi, qn 34])], con24.args, con24.res, qc [qn 2, [.c (.p (.str))], qn 36], [], [], 0⟩
abbrev g24_4 (J : JT F24) := fun y0 y1 y2 => J 4 (y0, y1, y2, ())
abbrev g24_8 (J : JT F24) := fun y0 y1 y2 => J 8 (y0, y1, y2, ())
theorem comp24 : compFun prog 24 = some (afOf prog 24) := by kernel_rfl
theorem s24 : ∀ J a0, seg0 (tabL tab24) prog F24 (afOf prog 24) J (a0, ()) = ref45_Picked_c (g24_4 J) (g24_8 J) a0 := fun _ _ => by kernel_rfl
theorem s24_4 : ∀ J x0 x1 x2, seg (tabL tab24) prog F24 (afOf prog 24) J 4 (x0, x1, x2, ()) = ref45_Picked_c4 (g24_4 J) (g24_8 J) x0 x1 x2 := fun _ _ _ _ => by kernel_rfl
theorem s24_8 : ∀ J x0 x1 x2, seg (tabL tab24) prog F24 (afOf prog 24) J 8 (x0, x1, x2, ()) = ref45_Picked_c8 (g24_4 J) (g24_8 J) x0 x1 x2 := fun _ _ _ _ => by kernel_rfl
theorem i24 : ∀ n, ref45_Picked_i4 n = g24_4 (iter (tabL tab24) prog F24 (afOf prog 24) n) ∧ ref45_Picked_i8 n = g24_8 (iter (tabL tab24) prog F24 (afOf prog 24) n)
  | 0 => ⟨rfl, rfl⟩
  | n + 1 => by
    obtain ⟨h4, h8⟩ := i24 n
    exact ⟨by funext x0 x1 x2; exact ((s24_4 _ x0 x1 x2).trans (by show _ = ref45_Picked_c4 (ref45_Picked_i4 n) (ref45_Picked_i8 n) x0 x1 x2; rw [h4, h8]; try rfl)).symm, by funext x0 x1 x2; exact ((s24_8 _ x0 x1 x2).trans (by show _ = ref45_Picked_c8 (ref45_Picked_i4 n) (ref45_Picked_i8 n) x0 x1 x2; rw [h4, h8]; try rfl)).symm⟩
theorem cb24 : callable prog 24 = true := by kernel_rfl
theorem tok24 : TabOK prog tab24 := ⟨ok46, cb46, trivial⟩
theorem ok24 : con24.ok prog 24 := fun a r h => by
  obtain ⟨h4, h8⟩ := i24 fuel
  refine fun_spec (f := F24) (tabL_ok tok24) (tabL_cb tok24) (by kernel_rfl) comp24 fuel (a := a) ((s24 _ a.1).trans ?_)
  have h : ref45_Picked_c (ref45_Picked_i4 fuel) (ref45_Picked_i8 fuel) a.1 = some r := h
  rw [h4, h8] at h
  exact h
def con8 : TCon := ⟨[.c (.sl qY2)], [.c (.p (.str)), .c (.p (.int .i64))], fun a => ref45_Script a.1⟩
def tab8 : List (Nat × TCon) := [(23, con23), (24, con24)]
def F8 : TFun := ⟨[], [], con8.args, con8.res, qc [qn 2, [.c (.p (.str))], qi, qn 8], [], [], 0⟩
theorem comp8 : compFun prog 8 = some (afOf prog 8) := by kernel_rfl
theorem s8 : ∀ J a0, seg0 (tabL tab8) prog F8 (afOf prog 8) J (a0, ()) = ref45_Script a0 := fun _ _ => by kernel_rfl
theorem cb8 : callable prog 8 = true := by kernel_rfl
theorem tok8 : TabOK prog tab8 := ⟨ok23, cb23, ok24, cb24, trivial⟩
theorem ok8 : con8.ok prog 8 := fun a r h => fun_spec (f := F8) (tabL_ok tok8) (tabL_cb tok8) (by kernel_rfl) comp8 0 (a := a) ((s8 _ a.1).trans h)
end Tg
