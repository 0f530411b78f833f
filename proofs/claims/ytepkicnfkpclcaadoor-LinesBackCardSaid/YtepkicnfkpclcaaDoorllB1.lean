import Derived.Test.YtepkicnfkpclcaaDoorAbsB6
import Derived.Test.YtepkicnfkpclcaaDoorllA
import Derived.Test.YtepkicnfkpclcaaDoorllT
import Derived.Test.YtepkicnfkpclcaaDoorGlT
import Derived.Test.YtepkicnfkpclcaaDoorLB
import Derived.Test.YtepkicnfkpclcaaDoorProg
import Derived.Test.YtepkicnfkpclcaaDoorllB0
/- Contracts of functions, checked by the kernel. -/
set_option linter.unusedVariables false
set_option linter.unusedSimpArgs false
set_option maxRecDepth 100000
namespace Tg
open Go.Abs
open Go.Proofs.Tryd (prog)
def con42 : TCon := ⟨[.a qY4], [.c (.p (.int .i64))], fun a => message_Check a.1⟩
def tab42 : List (Nat × TCon) := [(62, con62), (63, con63)]
def F42 : TFun := ⟨[5, 3], [(3, qc [qn 1, [.boxN 56 10 [.p (.int .u8), .p (.int .i64), .p (.int .i64), .p (.int .i64), .p (.int .i64), .p (.int .i64), .p (.int .i64), .p (.int .i64), .p (.int .i64), .p (.int .i64)]], qn 1, qb, [.boxN 56 10 [.p (.int .u8), .p (.int .i64), .p (.int .i64), .p (.int .i64), .p (.int .i64), .p (.int .i64), .p (.int .i64), .p (.int .i64), .p (.int .i64), .p (.int .i64)]], qn 54]), (5, qc [qn 1, [.boxN 56 10 [.p (.int .u8), .p (.int .i64), .p (.int .i64), .p (.int .i64), .p (.int .i64), .p (.int .i64), .p (.int .i64), .p (.int .i64), .p (.int .i64), .p (.int .i64)]], qn 1, qb, [.boxN 56 10 [.p (.int .u8), .p (.int .i64), .p (.int .i64), .p (.int .i64), .p (.int .i64), .p (.int .i64), .p (.int .i64), .p (.int .i64), .p (.int .i64), .p (.int .i64)]], qn 5, [.c (.p (.int .u8))], qb, qn 47])], con42.args, con42.res, qc [qn 2, qi, qn 56], [], [], 0⟩
abbrev g42_3 (J : JT F42) := fun y0 y1 y2 y3 y4 y5 y6 y7 y8 y9 y10 y11 y12 y13 y14 y15 y16 y17 y18 y19 y20 => J 3 (y0, y1, y2, y3, y4, y5, y6, y7, y8, y9, y10, y11, y12, y13, y14, y15, y16, y17, y18, y19, y20, ())
abbrev g42_5 (J : JT F42) := fun y0 y1 y2 y3 y4 y5 y6 y7 y8 y9 y10 y11 y12 y13 y14 y15 y16 y17 y18 y19 y20 y21 y22 => J 5 (y0, y1, y2, y3, y4, y5, y6, y7, y8, y9, y10, y11, y12, y13, y14, y15, y16, y17, y18, y19, y20, y21, y22, ())
theorem comp42 : compFun prog 42 = some (afOf prog 42) := by kernel_rfl
theorem s42 : ∀ J a0, seg0 (tabL tab42) prog F42 (afOf prog 42) J (a0, ()) = message_Check_c (g42_3 J) (g42_5 J) a0 := fun _ _ => by kernel_rfl
theorem s42_3 : ∀ J x0 x1 x2 x3 x4 x5 x6 x7 x8 x9 x10 x11 x12 x13 x14 x15 x16 x17 x18 x19 x20, seg (tabL tab42) prog F42 (afOf prog 42) J 3 (x0, x1, x2, x3, x4, x5, x6, x7, x8, x9, x10, x11, x12, x13, x14, x15, x16, x17, x18, x19, x20, ()) = message_Check_c3 (g42_3 J) (g42_5 J) x0 x1 x2 x3 x4 x5 x6 x7 x8 x9 x10 x11 x12 x13 x14 x15 x16 x17 x18 x19 x20 := fun _ _ _ _ _ _ _ _ _ _ _ _ _ _ _ _ _ _ _ _ _ _ => by kernel_rfl
theorem s42_5 : ∀ J x0 x1 x2 x3 x4 x5 x6 x7 x8 x9 x10 x11 x12 x13 x14 x15 x16 x17 x18 x19 x20 x21 x22, seg (tabL tab42) prog F42 (afOf prog 42) J 5 (x0, x1, x2, x3, x4, x5, x6, x7, x8, x9, x10, x11, x12, x13, x14, x15, x16, x17, x18, x19, x20, x21, x22, ()) = message_Check_c5 (g42_3 J) (g42_5 J) x0 x1 x2 x3 x4 x5 x6 x7 x8 x9 x10 x11 x12 x13 x14 x15 x16 x17 x18 x19 x20 x21 x22 := fun _ _ _ _ _ _ _ _ _ _ _ _ _ _ _ _ _ _ _ _ _ _ _ _ => by kernel_rfl
theorem i42 : ∀ n, message_Check_i3 n = g42_3 (iter (tabL tab42) prog F42 (afOf prog 42) n) ∧ message_Check_i5 n = g42_5 (iter (tabL tab42) prog F42 (afOf prog 42) n)
  | 0 => ⟨rfl, rfl⟩
  | n + 1 => by
    obtain ⟨h3, h5⟩ := i42 n
    exact ⟨by funext x0 x1 x2 x3 x4 x5 x6 x7 x8 x9 x10 x11 x12 x13 x14 x15 x16 x17 x18 x19 x20; exact ((s42_3 _ x0 x1 x2 x3 x4 x5 x6 x7 x8 x9 x10 x11 x12 x13 x14 x15 x16 x17 x18 x19 x20).trans (by show _ = message_Check_c3 (message_Check_i3 n) (message_Check_i5 n) x0 x1 x2 x3 x4 x5 x6 x7 x8 x9 x10 x11 x12 x13 x14 x15 x16 x17 x18 x19 x20; rw [h3, h5]; try rfl)).symm, by funext x0 x1 x2 x3 x4 x5 x6 x7 x8 x9 x10 x11 x12 x13 x14 x15 x16 x17 x18 x19 x20 x21 x22; exact ((s42_5 _ x0 x1 x2 x3 x4 x5 x6 x7 x8 x9 x10 x11 x12 x13 x14 x15 x16 x17 x18 x19 x20 x21 x22).trans (by show _ = message_Check_c5 (message_Check_i3 n) (message_Check_i5 n) x0 x1 x2 x3 x4 x5 x6 x7 x8 x9 x10 x11 x12 x13 x14 x15 x16 x17 x18 x19 x20 x21 x22; rw [h3, h5]; try rfl)).symm⟩
theorem cb42 : callable prog 42 = true := by kernel_rfl
theorem tok42 : TabOK prog tab42 := ⟨ok62, cb62, ok63, cb63, trivial⟩
theorem ok42 : con42.ok prog 42 := fun a r h => by
  obtain ⟨h3, h5⟩ := i42 fuel
  refine fun_spec (f := F42) (tabL_ok tok42) (tabL_cb tok42) (by kernel_rfl) comp42 fuel (a := a) ((s42 _ a.1).trans ?_)
  have h : message_Check_c (message_Check_i3 fuel) (message_Check_i5 fuel) a.1 = some r := h
  rw [h3, h5] at h
  exact h
end Tg

/- Contracts of functions, checked by the kernel. -/
set_option linter.unusedVariables false
set_option linter.unusedSimpArgs false
set_option maxRecDepth 100000
namespace Tg
open Go.Abs
open Go.Proofs.Tryd (prog)
def con53 : TCon := ⟨[.a qY4], [.c (.p (.bool))], fun a => ref25_Valid a.1⟩
def tab53 : List (Nat × TCon) := [(37, con37), (71, con71), (36, con36)]
def F53 : TFun := ⟨[3], [(3, qc [qn 1, [.boxN 56 10 [.p (.int .u8), .p (.int .i64), .p (.int .i64), .p (.int .i64), .p (.int .i64), .p (.int .i64), .p (.int .i64), .p (.int .i64), .p (.int .i64), .p (.int .i64)]], qn 2, [.c (.p (.int .u8))], qb, qn 42])], con53.args, con53.res, qc [qn 2, qb, qn 45], [], [], 0⟩
abbrev g53_3 (J : JT F53) := fun y0 y1 y2 y3 y4 y5 y6 y7 y8 y9 y10 y11 => J 3 (y0, y1, y2, y3, y4, y5, y6, y7, y8, y9, y10, y11, ())
theorem comp53 : compFun prog 53 = some (afOf prog 53) := by kernel_rfl
theorem s53 : ∀ J a0, seg0 (tabL tab53) prog F53 (afOf prog 53) J (a0, ()) = ref25_Valid_c (g53_3 J) a0 := fun _ _ => by kernel_rfl
theorem s53_3 : ∀ J x0 x1 x2 x3 x4 x5 x6 x7 x8 x9 x10 x11, seg (tabL tab53) prog F53 (afOf prog 53) J 3 (x0, x1, x2, x3, x4, x5, x6, x7, x8, x9, x10, x11, ()) = ref25_Valid_c3 (g53_3 J) x0 x1 x2 x3 x4 x5 x6 x7 x8 x9 x10 x11 := fun _ _ _ _ _ _ _ _ _ _ _ _ _ => by kernel_rfl
theorem i53 : ∀ n, ref25_Valid_i3 n = g53_3 (iter (tabL tab53) prog F53 (afOf prog 53) n)
  | 0 => rfl
  | n + 1 => by
    obtain h3 := i53 n
    exact by funext x0 x1 x2 x3 x4 x5 x6 x7 x8 x9 x10 x11; exact ((s53_3 _ x0 x1 x2 x3 x4 x5 x6 x7 x8 x9 x10 x11).trans (by show _ = ref25_Valid_c3 (ref25_Valid_i3 n) x0 x1 x2 x3 x4 x5 x6 x7 x8 x9 x10 x11; rw [h3]; try rfl)).symm
theorem cb53 : callable prog 53 = true := by kernel_rfl
theorem tok53 : TabOK prog tab53 := ⟨ok37, cb37, ok71, cb71, ok36, cb36, trivial⟩
theorem ok53 : con53.ok prog 53 := fun a r h => by
  obtain h3 := i53 fuel
  refine fun_spec (f := F53) (tabL_ok tok53) (tabL_cb tok53) (by kernel_rfl) comp53 fuel (a := a) ((s53 _ a.1).trans ?_)
  have h : ref25_Valid_c (ref25_Valid_i3 fuel) a.1 = some r := h
  rw [h3] at h
  exact h
end Tg

/- Contracts of functions, checked by the kernel. -/
set_option linter.unusedVariables false
set_option linter.unusedSimpArgs false
set_option maxRecDepth 100000
namespace Tg
open Go.Abs
open Go.Proofs.Tryd (prog)
def con19 : TCon := ⟨[.c (.str)], [.c (.s 83 2 qY3), .c (.p (.int .i64))], fun a => lines_ReadScript a.1⟩
def tab19 : List (Nat × TCon) := [(76, con76), (77, con77), (40, con40), (41, con41), (34, con34), (33, con33)]
def F19 : TFun := ⟨[44, 25, 64], [(25, qc [[.c (.yl)], qn 1, [.boxN 9 1 [.p (.str)]], qn 49, [.c (.k 0)], qn 2, [.boxN 38 1 [.nil]], [.boxN 27 1 [.any]], [.boxN 38 1 [.rowN 83 2 qY3]], qn 49]), (26, qc [[.c (.yl)], [.boxN 9 1 [.p (.str)]], [.boxN 9 1 [.p (.str)]], [.boxN 3 1 [.p (.int .i64)]], qn 48, [.c (.k 0)], qn 2, [.boxN 38 1 [.nil]], [.boxN 27 1 [.any]], [.boxN 38 1 [.rowN 83 2 qY3]], qn 49]), (44, qc [qn 2, [.boxN 38 1 [.nil]], [.boxN 27 1 [.any]], [.boxN 38 1 [.rowN 83 2 qY3]], [.c (.p (.str))], qn 3, [.boxN 83 2 [.p (.int .i64), .p (.int .i64)]], qn 44, [.c (.yl)], [.boxN 9 1 [.p (.str)]], [.boxN 9 1 [.p (.str)]], [.boxN 3 1 [.p (.int .i64)]], qn 3, qi, qn 44, [.c (.k 0)], qn 2, [.c (.ptr 0 0)], [.c (.ptr 1 0)], [.c (.ptr 2 0)], qn 49]), (64, qc [qn 2, [.boxN 38 1 [.nil]], [.boxN 27 1 [.any]], [.boxN 38 1 [.rowN 83 2 qY3]], [.c (.p (.str))], qn 3, [.boxN 83 2 [.p (.int .i64), .p (.int .i64)]], qn 96, [.c (.k 0)], qn 2, [.c (.ptr 0 0)], [.c (.ptr 1 0)], [.c (.ptr 2 0)], qn 49])], con19.args, con19.res, qc [qn 2, [.boxN 38 1 [.rowN 83 2 qY3]], [.boxN 27 1 [.p (.int .i64)]], qn 50], [(54, [4294967295]), (34, [4294967295]), (13, [75]), (10, [58]), (7, [39])], [(25, [1, 54]), (26, [1, 54]), (44, [52, 1, 54]), (64, [52, 1, 54])], 8⟩
abbrev g19_25 (J : JT F19) := fun y0 y1 => J 25 (y0, y1, ())
abbrev g19_26 (J : JT F19) := fun y0 y1 y2 y3 => J 26 (y0, y1, y2, y3, ())
abbrev g19_44 (J : JT F19) := fun y0 y1 y2 y3 y4 y5 y6 y7 => J 44 (y0, y1, y2, y3, y4, y5, y6, y7, ())
abbrev g19_64 (J : JT F19) := fun y0 y1 y2 y3 => J 64 (y0, y1, y2, y3, ())
theorem comp19 : compFun prog 19 = some (afOf prog 19) := by kernel_rfl
theorem s19 : ∀ J a0, seg0 (tabL tab19) prog F19 (afOf prog 19) J (a0, ()) = lines_ReadScript_c (g19_25 J) (g19_26 J) (g19_44 J) (g19_64 J) a0 := fun _ _ => by kernel_rfl
theorem s19_25 : ∀ J x0 x1, seg (tabL tab19) prog F19 (afOf prog 19) J 25 (x0, x1, ()) = lines_ReadScript_c25 (g19_25 J) (g19_26 J) (g19_44 J) (g19_64 J) x0 x1 := fun _ _ _ => by kernel_rfl
theorem s19_26 : ∀ J x0 x1 x2 x3, seg (tabL tab19) prog F19 (afOf prog 19) J 26 (x0, x1, x2, x3, ()) = lines_ReadScript_c26 (g19_25 J) (g19_26 J) (g19_44 J) (g19_64 J) x0 x1 x2 x3 := fun _ _ _ _ _ => by kernel_rfl
theorem s19_44 : ∀ J x0 x1 x2 x3 x4 x5 x6 x7, seg (tabL tab19) prog F19 (afOf prog 19) J 44 (x0, x1, x2, x3, x4, x5, x6, x7, ()) = lines_ReadScript_c44 (g19_25 J) (g19_26 J) (g19_44 J) (g19_64 J) x0 x1 x2 x3 x4 x5 x6 x7 := fun _ _ _ _ _ _ _ _ _ => by kernel_rfl
theorem s19_64 : ∀ J x0 x1 x2 x3, seg (tabL tab19) prog F19 (afOf prog 19) J 64 (x0, x1, x2, x3, ()) = lines_ReadScript_c64 (g19_25 J) (g19_26 J) (g19_44 J) (g19_64 J) x0 x1 x2 x3 := fun _ _ _ _ _ => by kernel_rfl
theorem i19 : ∀ n, lines_ReadScript_i25 n = g19_25 (iter (tabL tab19) prog F19 (afOf prog 19) n) ∧ lines_ReadScript_i26 n = g19_26 (iter (tabL tab19) prog F19 (afOf prog 19) n) ∧ lines_ReadScript_i44 n = g19_44 (iter (tabL tab19) prog F19 (afOf prog 19) n) ∧ lines_ReadScript_i64 n = g19_64 (iter (tabL tab19) prog F19 (afOf prog 19) n)
  | 0 => ⟨rfl, rfl, rfl, rfl⟩
  | n + 1 => by
    obtain ⟨h25, h26, h44, h64⟩ := i19 n
    exact ⟨by funext x0 x1; exact ((s19_25 _ x0 x1).trans (by show _ = lines_ReadScript_c25 (lines_ReadScript_i25 n) (lines_ReadScript_i26 n) (lines_ReadScript_i44 n) (lines_ReadScript_i64 n) x0 x1; rw [h25, h26, h44, h64]; try rfl)).symm, by funext x0 x1 x2 x3; exact ((s19_26 _ x0 x1 x2 x3).trans (by show _ = lines_ReadScript_c26 (lines_ReadScript_i25 n) (lines_ReadScript_i26 n) (lines_ReadScript_i44 n) (lines_ReadScript_i64 n) x0 x1 x2 x3; rw [h25, h26, h44, h64]; try rfl)).symm, by funext x0 x1 x2 x3 x4 x5 x6 x7; exact ((s19_44 _ x0 x1 x2 x3 x4 x5 x6 x7).trans (by show _ = lines_ReadScript_c44 (lines_ReadScript_i25 n) (lines_ReadScript_i26 n) (lines_ReadScript_i44 n) (lines_ReadScript_i64 n) x0 x1 x2 x3 x4 x5 x6 x7; rw [h25, h26, h44, h64]; try rfl)).symm, by funext x0 x1 x2 x3; exact ((s19_64 _ x0 x1 x2 x3).trans (by show _ = lines_ReadScript_c64 (lines_ReadScript_i25 n) (lines_ReadScript_i26 n) (lines_ReadScript_i44 n) (lines_ReadScript_i64 n) x0 x1 x2 x3; rw [h25, h26, h44, h64]; try rfl)).symm⟩
theorem cb19 : callable prog 19 = true := by kernel_rfl
theorem tok19 : TabOK prog tab19 := ⟨ok76, cb76, ok77, cb77, ok40, cb40, ok41, cb41, ok34, cb34, ok33, cb33, trivial⟩
theorem ok19 : con19.ok prog 19 := fun a r h => by
  obtain ⟨h25, h26, h44, h64⟩ := i19 fuel
  refine fun_spec (f := F19) (tabL_ok tok19) (tabL_cb tok19) (by kernel_rfl) comp19 fuel (a := a) ((s19 _ a.1).trans ?_)
  have h : lines_ReadScript_c (lines_ReadScript_i25 fuel) (lines_ReadScript_i26 fuel) (lines_ReadScript_i44 fuel) (lines_ReadScript_i64 fuel) a.1 = some r := h
  rw [h25, h26, h44, h64] at h
  exact h
def con19p : TCon := ⟨[.c (.str)], [.c (.p (.sl qY3)), .c (.p (.int .i64))], fun a => lines_ReadScript a.1⟩
theorem ok19p : con19p.ok prog 19 := fun a r h => TCon.frz (c := con19) ok19 rfl a r h
end Tg
