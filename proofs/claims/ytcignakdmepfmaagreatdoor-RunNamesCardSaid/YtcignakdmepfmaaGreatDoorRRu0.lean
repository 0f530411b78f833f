import Derived.Test.YtcignakdmepfmaaGreatDoorRNC
/- Closed facts of one run, each by the kernel. -/
set_option linter.unusedVariables false
namespace Tn.Ru
open Go Go.Abs Tn
abbrev i (n : Int) : PV := .int .i64 n
abbrev y (n : Int) : PV := .int .u8 n
abbrev bt : PV := .bool true
abbrev bf : PV := .bool false
abbrev s (l : List UInt8) : PV := .str l
abbrev l (es : List (List PV)) : PV := .sl es
abbrev e : PV := .sl []
def tb0 : List (FuncId × List PA × List RA) := []
theorem tk0 : TOK Go.Proofs.Tryz.prog tb0 := trivial
def p0 : List PA := [.c (y 115)]
def r0 : List RA := [.c (.c (y 3))]
theorem g0 : vcall (VN tb0) rounds 6 134 p0 = some r0 := by kernel_rfl
theorem s0 : Spec Go.Proofs.Tryz.prog 134 p0 r0 := fact tk0 g0
def p1 : List PA := [.c (y 101)]
def r1 : List RA := [.c (.c (y 3))]
theorem g1 : vcall (VN tb0) rounds 6 134 p1 = some r1 := by kernel_rfl
theorem s1 : Spec Go.Proofs.Tryz.prog 134 p1 r1 := fact tk0 g1
def p2 : List PA := [.c (y 108)]
def r2 : List RA := [.c (.c (y 3))]
theorem g2 : vcall (VN tb0) rounds 6 134 p2 = some r2 := by kernel_rfl
theorem s2 : Spec Go.Proofs.Tryz.prog 134 p2 r2 := fact tk0 g2
def p3 : List PA := [.c (y 99)]
def r3 : List RA := [.c (.c (y 3))]
theorem g3 : vcall (VN tb0) rounds 6 134 p3 = some r3 := by kernel_rfl
theorem s3 : Spec Go.Proofs.Tryz.prog 134 p3 r3 := fact tk0 g3
def p4 : List PA := [.c (y 116)]
def r4 : List RA := [.c (.c (y 3))]
theorem g4 : vcall (VN tb0) rounds 6 134 p4 = some r4 := by kernel_rfl
theorem s4 : Spec Go.Proofs.Tryz.prog 134 p4 r4 := fact tk0 g4
def p5 : List PA := [.c (y 32)]
def r5 : List RA := [.c (.c (y 1))]
theorem g5 : vcall (VN tb0) rounds 6 134 p5 = some r5 := by kernel_rfl
theorem s5 : Spec Go.Proofs.Tryz.prog 134 p5 r5 := fact tk0 g5
def p7 : List PA := [.c (s [115, 101, 108, 101, 99, 116])]
def r7 : List RA := [.c (.c bt)]
theorem g7 : vcall (VN tb0) rounds 6 173 p7 = some r7 := by kernel_rfl
theorem s7 : Spec Go.Proofs.Tryz.prog 173 p7 r7 := fact tk0 g7
def p8 : List PA := [.c (y 111)]
def r8 : List RA := [.c (.c (y 3))]
theorem g8 : vcall (VN tb0) rounds 6 134 p8 = some r8 := by kernel_rfl
theorem s8 : Spec Go.Proofs.Tryz.prog 134 p8 r8 := fact tk0 g8
def p9 : List PA := [.c (y 117)]
def r9 : List RA := [.c (.c (y 3))]
theorem g9 : vcall (VN tb0) rounds 6 134 p9 = some r9 := by kernel_rfl
theorem s9 : Spec Go.Proofs.Tryz.prog 134 p9 r9 := fact tk0 g9
def p10 : List PA := [.c (y 110)]
def r10 : List RA := [.c (.c (y 3))]
theorem g10 : vcall (VN tb0) rounds 6 134 p10 = some r10 := by kernel_rfl
theorem s10 : Spec Go.Proofs.Tryz.prog 134 p10 r10 := fact tk0 g10
def p11 : List PA := [.c (y 40)]
def r11 : List RA := [.c (.c (y 4))]
theorem g11 : vcall (VN tb0) rounds 6 134 p11 = some r11 := by kernel_rfl
theorem s11 : Spec Go.Proofs.Tryz.prog 134 p11 r11 := fact tk0 g11
def p13 : List PA := [.c (s [99, 111, 117, 110, 116])]
def r13 : List RA := [.c (.c bt)]
theorem g13 : vcall (VN tb0) rounds 6 173 p13 = some r13 := by kernel_rfl
theorem s13 : Spec Go.Proofs.Tryz.prog 173 p13 r13 := fact tk0 g13
def p17 : List PA := [.c (y 42)]
def r17 : List RA := [.c (.c (y 4))]
theorem g17 : vcall (VN tb0) rounds 6 134 p17 = some r17 := by kernel_rfl
theorem s17 : Spec Go.Proofs.Tryz.prog 134 p17 r17 := fact tk0 g17
def p21 : List PA := [.c (y 41)]
def r21 : List RA := [.c (.c (y 4))]
theorem g21 : vcall (VN tb0) rounds 6 134 p21 = some r21 := by kernel_rfl
theorem s21 : Spec Go.Proofs.Tryz.prog 134 p21 r21 := fact tk0 g21
def p25 : List PA := [.c (y 102)]
def r25 : List RA := [.c (.c (y 3))]
theorem g25 : vcall (VN tb0) rounds 6 134 p25 = some r25 := by kernel_rfl
theorem s25 : Spec Go.Proofs.Tryz.prog 134 p25 r25 := fact tk0 g25
def p26 : List PA := [.c (y 114)]
def r26 : List RA := [.c (.c (y 3))]
theorem g26 : vcall (VN tb0) rounds 6 134 p26 = some r26 := by kernel_rfl
theorem s26 : Spec Go.Proofs.Tryz.prog 134 p26 r26 := fact tk0 g26
def p27 : List PA := [.c (y 109)]
def r27 : List RA := [.c (.c (y 3))]
theorem g27 : vcall (VN tb0) rounds 6 134 p27 = some r27 := by kernel_rfl
theorem s27 : Spec Go.Proofs.Tryz.prog 134 p27 r27 := fact tk0 g27
def p29 : List PA := [.c (s [102, 114, 111, 109])]
def r29 : List RA := [.c (.c bt)]
theorem g29 : vcall (VN tb0) rounds 6 173 p29 = some r29 := by kernel_rfl
theorem s29 : Spec Go.Proofs.Tryz.prog 173 p29 r29 := fact tk0 g29
def p30 : List PA := [.c (y 97)]
def r30 : List RA := [.c (.c (y 3))]
theorem g30 : vcall (VN tb0) rounds 6 134 p30 = some r30 := by kernel_rfl
theorem s30 : Spec Go.Proofs.Tryz.prog 134 p30 r30 := fact tk0 g30
def p32 : List PA := [.c (s [97])]
def r32 : List RA := [.c (.c bt)]
theorem g32 : vcall (VN tb0) rounds 6 173 p32 = some r32 := by kernel_rfl
theorem s32 : Spec Go.Proofs.Tryz.prog 173 p32 r32 := fact tk0 g32
def p33 : List PA := [.c (y 119)]
def r33 : List RA := [.c (.c (y 3))]
theorem g33 : vcall (VN tb0) rounds 6 134 p33 = some r33 := by kernel_rfl
theorem s33 : Spec Go.Proofs.Tryz.prog 134 p33 r33 := fact tk0 g33
def p34 : List PA := [.c (y 105)]
def r34 : List RA := [.c (.c (y 3))]
theorem g34 : vcall (VN tb0) rounds 6 134 p34 = some r34 := by kernel_rfl
theorem s34 : Spec Go.Proofs.Tryz.prog 134 p34 r34 := fact tk0 g34
def p35 : List PA := [.c (y 100)]
def r35 : List RA := [.c (.c (y 3))]
theorem g35 : vcall (VN tb0) rounds 6 134 p35 = some r35 := by kernel_rfl
theorem s35 : Spec Go.Proofs.Tryz.prog 134 p35 r35 := fact tk0 g35
def p37 : List PA := [.c (s [119, 105, 110, 100, 111, 119])]
def r37 : List RA := [.c (.c bt)]
theorem g37 : vcall (VN tb0) rounds 6 173 p37 = some r37 := by kernel_rfl
theorem s37 : Spec Go.Proofs.Tryz.prog 173 p37 r37 := fact tk0 g37
def p38 : List PA := [.c (y 98)]
def r38 : List RA := [.c (.c (y 3))]
theorem g38 : vcall (VN tb0) rounds 6 134 p38 = some r38 := by kernel_rfl
theorem s38 : Spec Go.Proofs.Tryz.prog 134 p38 r38 := fact tk0 g38
def p40 : List PA := [.c (s [116, 117, 109, 98, 108, 101])]
def r40 : List RA := [.c (.c bt)]
theorem g40 : vcall (VN tb0) rounds 6 173 p40 = some r40 := by kernel_rfl
theorem s40 : Spec Go.Proofs.Tryz.prog 173 p40 r40 := fact tk0 g40
def p41 : List PA := [.c (y 53)]
def r41 : List RA := [.c (.c (y 2))]
theorem g41 : vcall (VN tb0) rounds 6 134 p41 = some r41 := by kernel_rfl
theorem s41 : Spec Go.Proofs.Tryz.prog 134 p41 r41 := fact tk0 g41
end Tn.Ru
