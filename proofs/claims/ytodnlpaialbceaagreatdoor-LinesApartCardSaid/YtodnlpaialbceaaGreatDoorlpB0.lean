import Derived.Test.YtodnlpaialbceaaGreatDoorlgB2
/- Contracts of functions, checked by the kernel. -/
set_option linter.unusedVariables false
set_option linter.unusedSimpArgs false
set_option maxRecDepth 100000
namespace Tg
open Go.Abs
open Go.Proofs.Tryz (prog)
def con83 : TCon := ⟨[.c (.int .i64)], [.c (.p (.bool))], fun a => message_isTime a.1⟩
def tab83 : List (Nat × TCon) := []
def F83 : TFun := ⟨[], [], con83.args, con83.res, qc [qn 2, qb, qn 6], [], [], 0⟩
theorem comp83 : compFun prog 83 = some (afOf prog 83) := by kernel_rfl
theorem s83 : ∀ J a0, seg0 (tabL tab83) prog F83 (afOf prog 83) J (a0, ()) = message_isTime a0 := fun _ _ => by kernel_rfl
theorem cb83 : callable prog 83 = true := by kernel_rfl
theorem tok83 : TabOK prog tab83 := trivial
theorem ok83 : con83.ok prog 83 := fun a r h => fun_spec (f := F83) (tabL_ok tok83) (tabL_cb tok83) (by kernel_rfl) comp83 0 (a := a) ((s83 _ a.1).trans h)
def con84 : TCon := ⟨[.c (.int .i64)], [.c (.p (.bool))], fun a => message_isMark a.1⟩
def tab84 : List (Nat × TCon) := [(83, con83)]
def F84 : TFun := ⟨[], [], con84.args, con84.res, qc [qn 2, qb, qn 6], [], [], 0⟩
theorem comp84 : compFun prog 84 = some (afOf prog 84) := by kernel_rfl
theorem s84 : ∀ J a0, seg0 (tabL tab84) prog F84 (afOf prog 84) J (a0, ()) = message_isMark a0 := fun _ _ => by kernel_rfl
theorem cb84 : callable prog 84 = true := by kernel_rfl
theorem tok84 : TabOK prog tab84 := ⟨ok83, cb83, trivial⟩
theorem ok84 : con84.ok prog 84 := fun a r h => fun_spec (f := F84) (tabL_ok tok84) (tabL_cb tok84) (by kernel_rfl) comp84 0 (a := a) ((s84 _ a.1).trans h)
def con41 : TCon := ⟨[.c (.sl qX1), .c (.sl qX1)], [.c (.p (.bool))], fun a => ref34_SameRows a.1 a.2.1⟩
def tab41 : List (Nat × TCon) := []
def F41 : TFun := ⟨[], [(6, qc [[.c (.p (.sl qX1))], [.c (.p (.sl qX1))], qn 3, qi, qn 20])], con41.args, con41.res, qc [qn 4, qb, qn 21], [], [], 0⟩
abbrev g41_6 (J : JT F41) := fun y0 y1 y2 => J 6 (y0, y1, y2, ())
theorem comp41 : compFun prog 41 = some (afOf prog 41) := by kernel_rfl
theorem s41 : ∀ J a0 a1, seg0 (tabL tab41) prog F41 (afOf prog 41) J (a0, a1, ()) = ref34_SameRows_c (g41_6 J) a0 a1 := fun _ _ _ => by kernel_rfl
theorem s41_6 : ∀ J x0 x1 x2, seg (tabL tab41) prog F41 (afOf prog 41) J 6 (x0, x1, x2, ()) = ref34_SameRows_c6 (g41_6 J) x0 x1 x2 := fun _ _ _ _ => by kernel_rfl
theorem i41 : ∀ n, ref34_SameRows_i6 n = g41_6 (iter (tabL tab41) prog F41 (afOf prog 41) n)
 | 0 => rfl
 | n + 1 => by
  obtain h6 := i41 n
  exact by funext x0 x1 x2; exact ((s41_6 _ x0 x1 x2).trans (by show _ = ref34_SameRows_c6 (ref34_SameRows_i6 n) x0 x1 x2; rw [h6]; try rfl)).symm
theorem cb41 : callable prog 41 = true := by kernel_rfl
theorem tok41 : TabOK prog tab41 := trivial
theorem ok41 : con41.ok prog 41 := fun a r h => by
 obtain h6 := i41 fuel
 refine fun_spec (f := F41) (tabL_ok tok41) (tabL_cb tok41) (by kernel_rfl) comp41 fuel (a := a) ((s41 _ a.1 a.2.1).trans ?_)
 have h : ref34_SameRows_c (ref34_SameRows_i6 fuel) a.1 a.2.1 = some r := h
 rw [h6] at h
 exact h
def con42 : TCon := ⟨[.c (.sl qX2), .c (.sl qX2)], [.c (.p (.bool))], fun a => ref34_SameRecords a.1 a.2.1⟩
def tab42 : List (Nat × TCon) := []
def F42 : TFun := ⟨[], [(6, qc [[.c (.p (.sl qX2))], [.c (.p (.sl qX2))], qn 3, qi, qn 20])], con42.args, con42.res, qc [qn 4, qb, qn 21], [], [], 0⟩
abbrev g42_6 (J : JT F42) := fun y0 y1 y2 => J 6 (y0, y1, y2, ())
theorem comp42 : compFun prog 42 = some (afOf prog 42) := by kernel_rfl
theorem s42 : ∀ J a0 a1, seg0 (tabL tab42) prog F42 (afOf prog 42) J (a0, a1, ()) = ref34_SameRecords_c (g42_6 J) a0 a1 := fun _ _ _ => by kernel_rfl
theorem s42_6 : ∀ J x0 x1 x2, seg (tabL tab42) prog F42 (afOf prog 42) J 6 (x0, x1, x2, ()) = ref34_SameRecords_c6 (g42_6 J) x0 x1 x2 := fun _ _ _ _ => by kernel_rfl
theorem i42 : ∀ n, ref34_SameRecords_i6 n = g42_6 (iter (tabL tab42) prog F42 (afOf prog 42) n)
 | 0 => rfl
 | n + 1 => by
  obtain h6 := i42 n
  exact by funext x0 x1 x2; exact ((s42_6 _ x0 x1 x2).trans (by show _ = ref34_SameRecords_c6 (ref34_SameRecords_i6 n) x0 x1 x2; rw [h6]; try rfl)).symm
theorem cb42 : callable prog 42 = true := by kernel_rfl
theorem tok42 : TabOK prog tab42 := trivial
theorem ok42 : con42.ok prog 42 := fun a r h => by
 obtain h6 := i42 fuel
 refine fun_spec (f := F42) (tabL_ok tok42) (tabL_cb tok42) (by kernel_rfl) comp42 fuel (a := a) ((s42 _ a.1 a.2.1).trans ?_)
 have h : ref34_SameRecords_c (ref34_SameRecords_i6 fuel) a.1 a.2.1 = some r := h
 rw [h6] at h
 exact h
def con17 : TCon := ⟨[.a [.sl qX1, .sl qX2], .a [.sl qX1, .sl qX2]], [.c (.p (.bool))], fun a => ref40_Equal a.1 a.2.1⟩
def tab17 : List (Nat × TCon) := [(41, con41), (42, con42)]
def F17 : TFun := ⟨[], [], con17.args, con17.res, qc [qn 4, qb, qn 12], [], [], 0⟩
theorem comp17 : compFun prog 17 = some (afOf prog 17) := by kernel_rfl
theorem s17 : ∀ J a0 a1, seg0 (tabL tab17) prog F17 (afOf prog 17) J (a0, a1, ()) = ref40_Equal a0 a1 := fun _ _ _ => by kernel_rfl
theorem cb17 : callable prog 17 = true := by kernel_rfl
theorem tok17 : TabOK prog tab17 := ⟨ok41, cb41, ok42, cb42, trivial⟩
theorem ok17 : con17.ok prog 17 := fun a r h => fun_spec (f := F17) (tabL_ok tok17) (tabL_cb tok17) (by kernel_rfl) comp17 0 (a := a) ((s17 _ a.1 a.2.1).trans h)
/- internal/stringslite.HasSuffix -/
def con118 : TCon := ⟨[.c (.str), .c (.str)], [.c (.p (.bool))], fun a => internal_stringslite_HasSuffix a.1 a.2.1⟩
def tab118 : List (Nat × TCon) := []
def F118 : TFun := ⟨[], [], con118.args, con118.res, qc [qn 4, qb, qn 16], [], [], 0⟩
theorem comp118 : compFun prog 118 = some (afOf prog 118) := by kernel_rfl
theorem s118 : ∀ J a0 a1, seg0 (tabL tab118) prog F118 (afOf prog 118) J (a0, a1, ()) = internal_stringslite_HasSuffix a0 a1 := fun _ _ _ => by kernel_rfl
theorem cb118 : callable prog 118 = true := by kernel_rfl
theorem tok118 : TabOK prog tab118 := trivial
theorem ok118 : con118.ok prog 118 := fun a r h => fun_spec (f := F118) (tabL_ok tok118) (tabL_cb tok118) (by kernel_rfl) comp118 0 (a := a) ((s118 _ a.1 a.2.1).trans h)
/- internal/stringslite.TrimSuffix -/
def con104 : TCon := ⟨[.c (.str), .c (.str)], [.c (.p (.str))], fun a => internal_stringslite_TrimSuffix a.1 a.2.1⟩
def tab104 : List (Nat × TCon) := [(118, con118)]
def F104 : TFun := ⟨[], [], con104.args, con104.res, qc [qn 4, [.c (.p (.str))], qn 11], [], [], 0⟩
theorem comp104 : compFun prog 104 = some (afOf prog 104) := by kernel_rfl
theorem s104 : ∀ J a0 a1, seg0 (tabL tab104) prog F104 (afOf prog 104) J (a0, a1, ()) = internal_stringslite_TrimSuffix a0 a1 := fun _ _ _ => by kernel_rfl
theorem cb104 : callable prog 104 = true := by kernel_rfl
theorem tok104 : TabOK prog tab104 := ⟨ok118, cb118, trivial⟩
theorem ok104 : con104.ok prog 104 := fun a r h => fun_spec (f := F104) (tabL_ok tok104) (tabL_cb tok104) (by kernel_rfl) comp104 0 (a := a) ((s104 _ a.1 a.2.1).trans h)
/- strings.TrimSuffix -/
def con82 : TCon := ⟨[.c (.str), .c (.str)], [.c (.p (.str))], fun a => strings_TrimSuffix a.1 a.2.1⟩
def tab82 : List (Nat × TCon) := [(104, con104)]
def F82 : TFun := ⟨[], [], con82.args, con82.res, qc [qn 4, [.c (.p (.str))], qn 3], [], [], 0⟩
theorem comp82 : compFun prog 82 = some (afOf prog 82) := by kernel_rfl
theorem s82 : ∀ J a0 a1, seg0 (tabL tab82) prog F82 (afOf prog 82) J (a0, a1, ()) = strings_TrimSuffix a0 a1 := fun _ _ _ => by kernel_rfl
theorem cb82 : callable prog 82 = true := by kernel_rfl
theorem tok82 : TabOK prog tab82 := ⟨ok104, cb104, trivial⟩
theorem ok82 : con82.ok prog 82 := fun a r h => fun_spec (f := F82) (tabL_ok tok82) (tabL_cb tok82) (by kernel_rfl) comp82 0 (a := a) ((s82 _ a.1 a.2.1).trans h)
def con39 : TCon := ⟨[.c (.sl [.int .i64, .int .i64]), .c (.str)], [.c (.p (.bool))], fun a => law45_picks a.1 a.2.1⟩
def tab39 : List (Nat × TCon) := [(7, con7), (9, con9), (13, con13)]
def F39 : TFun := ⟨[], [], con39.args, con39.res, qc [qn 4, qb, qn 30], [], [], 0⟩
theorem comp39 : compFun prog 39 = some (afOf prog 39) := by kernel_rfl
theorem s39 : ∀ J a0 a1, seg0 (tabL tab39) prog F39 (afOf prog 39) J (a0, a1, ()) = law45_picks a0 a1 := fun _ _ _ => by kernel_rfl
theorem cb39 : callable prog 39 = true := by kernel_rfl
theorem tok39 : TabOK prog tab39 := ⟨ok7, cb7, ok9, cb9, ok13, cb13, trivial⟩
theorem ok39 : con39.ok prog 39 := fun a r h => fun_spec (f := F39) (tabL_ok tok39) (tabL_cb tok39) (by kernel_rfl) comp39 0 (a := a) ((s39 _ a.1 a.2.1).trans h)
end Tg

/- Contracts of functions, checked by the kernel. -/
set_option linter.unusedVariables false
set_option linter.unusedSimpArgs false
set_option maxRecDepth 100000
namespace Tg
open Go.Abs
open Go.Proofs.Tryz (prog)
def con57 : TCon := ⟨[.a [.int .u8, .int .i64, .int .i64, .int .i64, .int .i64, .int .i64, .int .i64, .int .i64, .int .i64, .int .i64]], [.c (.p (.int .i64))], fun a => message_Check a.1⟩
def tab57 : List (Nat × TCon) := [(83, con83), (84, con84)]
def F57 : TFun := ⟨[5, 3], [(3, qc [qn 1, [.boxN 98 10 [.p (.int .u8), .p (.int .i64), .p (.int .i64), .p (.int .i64), .p (.int .i64), .p (.int .i64), .p (.int .i64), .p (.int .i64), .p (.int .i64), .p (.int .i64)]], qn 1, qb, [.boxN 98 10 [.p (.int .u8), .p (.int .i64), .p (.int .i64), .p (.int .i64), .p (.int .i64), .p (.int .i64), .p (.int .i64), .p (.int .i64), .p (.int .i64), .p (.int .i64)]], qn 54]), (5, qc [qn 1, [.boxN 98 10 [.p (.int .u8), .p (.int .i64), .p (.int .i64), .p (.int .i64), .p (.int .i64), .p (.int .i64), .p (.int .i64), .p (.int .i64), .p (.int .i64), .p (.int .i64)]], qn 1, qb, [.boxN 98 10 [.p (.int .u8), .p (.int .i64), .p (.int .i64), .p (.int .i64), .p (.int .i64), .p (.int .i64), .p (.int .i64), .p (.int .i64), .p (.int .i64), .p (.int .i64)]], qn 5, [.c (.p (.int .u8))], qb, qn 47])], con57.args, con57.res, qc [qn 2, qi, qn 56], [], [], 0⟩
abbrev g57_3 (J : JT F57) := fun y0 y1 y2 y3 y4 y5 y6 y7 y8 y9 y10 y11 y12 y13 y14 y15 y16 y17 y18 y19 y20 => J 3 (y0, y1, y2, y3, y4, y5, y6, y7, y8, y9, y10, y11, y12, y13, y14, y15, y16, y17, y18, y19, y20, ())
abbrev g57_5 (J : JT F57) := fun y0 y1 y2 y3 y4 y5 y6 y7 y8 y9 y10 y11 y12 y13 y14 y15 y16 y17 y18 y19 y20 y21 y22 => J 5 (y0, y1, y2, y3, y4, y5, y6, y7, y8, y9, y10, y11, y12, y13, y14, y15, y16, y17, y18, y19, y20, y21, y22, ())
theorem comp57 : compFun prog 57 = some (afOf prog 57) := by kernel_rfl
theorem s57 : ∀ J a0, seg0 (tabL tab57) prog F57 (afOf prog 57) J (a0, ()) = message_Check_c (g57_3 J) (g57_5 J) a0 := fun _ _ => by kernel_rfl
theorem s57_3 : ∀ J x0 x1 x2 x3 x4 x5 x6 x7 x8 x9 x10 x11 x12 x13 x14 x15 x16 x17 x18 x19 x20, seg (tabL tab57) prog F57 (afOf prog 57) J 3 (x0, x1, x2, x3, x4, x5, x6, x7, x8, x9, x10, x11, x12, x13, x14, x15, x16, x17, x18, x19, x20, ()) = message_Check_c3 (g57_3 J) (g57_5 J) x0 x1 x2 x3 x4 x5 x6 x7 x8 x9 x10 x11 x12 x13 x14 x15 x16 x17 x18 x19 x20 := fun _ _ _ _ _ _ _ _ _ _ _ _ _ _ _ _ _ _ _ _ _ _ => by kernel_rfl
theorem s57_5 : ∀ J x0 x1 x2 x3 x4 x5 x6 x7 x8 x9 x10 x11 x12 x13 x14 x15 x16 x17 x18 x19 x20 x21 x22, seg (tabL tab57) prog F57 (afOf prog 57) J 5 (x0, x1, x2, x3, x4, x5, x6, x7, x8, x9, x10, x11, x12, x13, x14, x15, x16, x17, x18, x19, x20, x21, x22, ()) = message_Check_c5 (g57_3 J) (g57_5 J) x0 x1 x2 x3 x4 x5 x6 x7 x8 x9 x10 x11 x12 x13 x14 x15 x16 x17 x18 x19 x20 x21 x22 := fun _ _ _ _ _ _ _ _ _ _ _ _ _ _ _ _ _ _ _ _ _ _ _ _ => by kernel_rfl
theorem i57 : ∀ n, message_Check_i3 n = g57_3 (iter (tabL tab57) prog F57 (afOf prog 57) n) ∧ message_Check_i5 n = g57_5 (iter (tabL tab57) prog F57 (afOf prog 57) n)
 | 0 => ⟨rfl, rfl⟩
 | n + 1 => by
  obtain ⟨h3, h5⟩ := i57 n
  exact ⟨by funext x0 x1 x2 x3 x4 x5 x6 x7 x8 x9 x10 x11 x12 x13 x14 x15 x16 x17 x18 x19 x20; exact ((s57_3 _ x0 x1 x2 x3 x4 x5 x6 x7 x8 x9 x10 x11 x12 x13 x14 x15 x16 x17 x18 x19 x20).trans (by show _ = message_Check_c3 (message_Check_i3 n) (message_Check_i5 n) x0 x1 x2 x3 x4 x5 x6 x7 x8 x9 x10 x11 x12 x13 x14 x15 x16 x17 x18 x19 x20; rw [h3, h5]; try rfl)).symm, by funext x0 x1 x2 x3 x4 x5 x6 x7 x8 x9 x10 x11 x12 x13 x14 x15 x16 x17 x18 x19 x20 x21 x22; exact ((s57_5 _ x0 x1 x2 x3 x4 x5 x6 x7 x8 x9 x10 x11 x12 x13 x14 x15 x16 x17 x18 x19 x20 x21 x22).trans (by show _ = message_Check_c5 (message_Check_i3 n) (message_Check_i5 n) x0 x1 x2 x3 x4 x5 x6 x7 x8 x9 x10 x11 x12 x13 x14 x15 x16 x17 x18 x19 x20 x21 x22; rw [h3, h5]; try rfl)).symm⟩
theorem cb57 : callable prog 57 = true := by kernel_rfl
theorem tok57 : TabOK prog tab57 := ⟨ok83, cb83, ok84, cb84, trivial⟩
theorem ok57 : con57.ok prog 57 := fun a r h => by
 obtain ⟨h3, h5⟩ := i57 fuel
 refine fun_spec (f := F57) (tabL_ok tok57) (tabL_cb tok57) (by kernel_rfl) comp57 fuel (a := a) ((s57 _ a.1).trans ?_)
 have h : message_Check_c (message_Check_i3 fuel) (message_Check_i5 fuel) a.1 = some r := h
 rw [h3, h5] at h
 exact h
end Tg

/- Contracts of functions, checked by the kernel. -/
set_option linter.unusedVariables false
set_option linter.unusedSimpArgs false
set_option maxRecDepth 100000
namespace Tg
open Go.Abs
open Go.Proofs.Tryz (prog)
def con103 : TCon := ⟨[.c (.sl [.str]), .c (.int .i64)], [.c (.s 2 1 [.int .i64]), .c (.p (.bool))], fun a => message_numbers a.1 a.2.1⟩
def tab103 : List (Nat × TCon) := [(117, con117), (59, con59)]
def F103 : TFun := ⟨[], [(7, qc [qn 6, [.c (.rowN 2 1 [.int .i64])], qn 8, [.c (.p (.sl [.str]))], qi, qi, qn 22])], con103.args, con103.res, qc [qn 4, [.c (.rowN 2 1 [.int .i64])], qb, qn 34], [], [], 0⟩
abbrev g103_7 (J : JT F103) := fun y0 y1 y2 y3 => J 7 (y0, y1, y2, y3, ())
theorem comp103 : compFun prog 103 = some (afOf prog 103) := by kernel_rfl
theorem s103 : ∀ J a0 a1, seg0 (tabL tab103) prog F103 (afOf prog 103) J (a0, a1, ()) = message_numbers_c (g103_7 J) a0 a1 := fun _ _ _ => by kernel_rfl
theorem s103_7 : ∀ J x0 x1 x2 x3, seg (tabL tab103) prog F103 (afOf prog 103) J 7 (x0, x1, x2, x3, ()) = message_numbers_c7 (g103_7 J) x0 x1 x2 x3 := fun _ _ _ _ _ => by kernel_rfl
theorem i103 : ∀ n, message_numbers_i7 n = g103_7 (iter (tabL tab103) prog F103 (afOf prog 103) n)
 | 0 => rfl
 | n + 1 => by
  obtain h7 := i103 n
  exact by funext x0 x1 x2 x3; exact ((s103_7 _ x0 x1 x2 x3).trans (by show _ = message_numbers_c7 (message_numbers_i7 n) x0 x1 x2 x3; rw [h7]; try rfl)).symm
theorem cb103 : callable prog 103 = true := by kernel_rfl
theorem tok103 : TabOK prog tab103 := ⟨ok117, cb117, ok59, cb59, trivial⟩
theorem ok103 : con103.ok prog 103 := fun a r h => by
 obtain h7 := i103 fuel
 refine fun_spec (f := F103) (tabL_ok tok103) (tabL_cb tok103) (by kernel_rfl) comp103 fuel (a := a) ((s103 _ a.1 a.2.1).trans ?_)
 have h : message_numbers_c (message_numbers_i7 fuel) a.1 a.2.1 = some r := h
 rw [h7] at h
 exact h
def con103p : TCon := ⟨[.c (.sl [.str]), .c (.int .i64)], [.c (.p (.sl [.int .i64])), .c (.p (.bool))], fun a => message_numbers a.1 a.2.1⟩
theorem ok103p : con103p.ok prog 103 := fun a r h => TCon.frz (c := con103) ok103 rfl a r h
end Tg

/- Contracts of functions, checked by the kernel. -/
set_option linter.unusedVariables false
set_option linter.unusedSimpArgs false
set_option maxRecDepth 100000
namespace Tg
open Go.Abs
open Go.Proofs.Tryz (prog)
def con81 : TCon := ⟨[.c (.str)], [.a [.p (.int .u8), .p (.int .i64), .p (.int .i64), .p (.int .i64), .p (.int .i64), .p (.int .i64), .p (.int .i64), .p (.int .i64), .p (.int .i64), .p (.int .i64)], .c (.p (.int .i64))], fun a => message_Read a.1⟩
def tab81 : List (Nat × TCon) := [(102, con102p), (103, con103p), (57, con57)]
def F81 : TFun := ⟨[5, 16], [(5, qc [qn 2, [.boxN 98 10 [.any, .any, .any, .any, .any, .any, .any, .any, .any, .any]], qn 1, [.c (.p (.sl [.str]))], [.boxN 98 10 [.p (.int .u8), .p (.int .i64), .p (.int .i64), .p (.int .i64), .p (.int .i64), .p (.int .i64), .p (.int .i64), .p (.int .i64), .p (.int .i64), .p (.int .i64)]], qi, qn 74]), (16, qc [qn 2, [.boxN 98 10 [.any, .any, .any, .any, .any, .any, .any, .any, .any, .any]], qn 2, [.boxN 98 10 [.p (.int .u8), .p (.int .i64), .p (.int .i64), .p (.int .i64), .p (.int .i64), .p (.int .i64), .p (.int .i64), .p (.int .i64), .p (.int .i64), .p (.int .i64)]], qn 75])], con81.args, con81.res, qc [qn 2, [.boxN 98 10 [.p (.int .u8), .p (.int .i64), .p (.int .i64), .p (.int .i64), .p (.int .i64), .p (.int .i64), .p (.int .i64), .p (.int .i64), .p (.int .i64), .p (.int .i64)]], qi, qn 77], [], [], 0⟩
abbrev g81_5 (J : JT F81) := fun y0 y1 y2 y3 y4 y5 y6 y7 y8 y9 y10 y11 => J 5 (y0, y1, y2, y3, y4, y5, y6, y7, y8, y9, y10, y11, ())
abbrev g81_16 (J : JT F81) := fun y0 y1 y2 y3 y4 y5 y6 y7 y8 y9 => J 16 (y0, y1, y2, y3, y4, y5, y6, y7, y8, y9, ())
theorem comp81 : compFun prog 81 = some (afOf prog 81) := by kernel_rfl
theorem s81 : ∀ J a0, seg0 (tabL tab81) prog F81 (afOf prog 81) J (a0, ()) = message_Read_c (g81_5 J) (g81_16 J) a0 := fun _ _ => by kernel_rfl
theorem s81_5 : ∀ J x0 x1 x2 x3 x4 x5 x6 x7 x8 x9 x10 x11, seg (tabL tab81) prog F81 (afOf prog 81) J 5 (x0, x1, x2, x3, x4, x5, x6, x7, x8, x9, x10, x11, ()) = message_Read_c5 (g81_5 J) (g81_16 J) x0 x1 x2 x3 x4 x5 x6 x7 x8 x9 x10 x11 := fun _ _ _ _ _ _ _ _ _ _ _ _ _ => by kernel_rfl
theorem s81_16 : ∀ J x0 x1 x2 x3 x4 x5 x6 x7 x8 x9, seg (tabL tab81) prog F81 (afOf prog 81) J 16 (x0, x1, x2, x3, x4, x5, x6, x7, x8, x9, ()) = message_Read_c16 (g81_5 J) (g81_16 J) x0 x1 x2 x3 x4 x5 x6 x7 x8 x9 := fun _ _ _ _ _ _ _ _ _ _ _ => by kernel_rfl
theorem i81 : ∀ n, message_Read_i5 n = g81_5 (iter (tabL tab81) prog F81 (afOf prog 81) n) ∧ message_Read_i16 n = g81_16 (iter (tabL tab81) prog F81 (afOf prog 81) n)
 | 0 => ⟨rfl, rfl⟩
 | n + 1 => by
  obtain ⟨h5, h16⟩ := i81 n
  exact ⟨by funext x0 x1 x2 x3 x4 x5 x6 x7 x8 x9 x10 x11; exact ((s81_5 _ x0 x1 x2 x3 x4 x5 x6 x7 x8 x9 x10 x11).trans (by show _ = message_Read_c5 (message_Read_i5 n) (message_Read_i16 n) x0 x1 x2 x3 x4 x5 x6 x7 x8 x9 x10 x11; rw [h5, h16]; try rfl)).symm, by funext x0 x1 x2 x3 x4 x5 x6 x7 x8 x9; exact ((s81_16 _ x0 x1 x2 x3 x4 x5 x6 x7 x8 x9).trans (by show _ = message_Read_c16 (message_Read_i5 n) (message_Read_i16 n) x0 x1 x2 x3 x4 x5 x6 x7 x8 x9; rw [h5, h16]; try rfl)).symm⟩
theorem cb81 : callable prog 81 = true := by kernel_rfl
theorem tok81 : TabOK prog tab81 := ⟨ok102p, cb102, ok103p, cb103, ok57, cb57, trivial⟩
theorem ok81 : con81.ok prog 81 := fun a r h => by
 obtain ⟨h5, h16⟩ := i81 fuel
 refine fun_spec (f := F81) (tabL_ok tok81) (tabL_cb tok81) (by kernel_rfl) comp81 fuel (a := a) ((s81 _ a.1).trans ?_)
 have h : message_Read_c (message_Read_i5 fuel) (message_Read_i16 fuel) a.1 = some r := h
 rw [h5, h16] at h
 exact h
end Tg
