import Derived.Test.YtcignakdmepfmaaGreatDoorNC
/- Closed facts of one run, each by the kernel. -/
set_option linter.unusedVariables false
namespace Tn.Bo
open Go Go.Abs Tn
abbrev i (n : Int) : PV := .int .i64 n
abbrev y (n : Int) : PV := .int .u8 n
abbrev bt : PV := .bool true
abbrev bf : PV := .bool false
abbrev s (l : List UInt8) : PV := .str l
abbrev l (es : List (List PV)) : PV := .sl es
abbrev e : PV := .sl []
def tb0 : List (FuncId × List PA × List RA) := []
theorem tk0 : TOK Go.Proofs.Tryz.prog tb0 := trivial
def p0 : List PA := [.c (y 115)]
def r0 : List RA := [.c (.c (y 3))]
theorem g0 : vcall (VN tb0) rounds 6 134 p0 = some r0 := by kernel_rfl
theorem s0 : Spec Go.Proofs.Tryz.prog 134 p0 r0 := fact tk0 g0
def p1 : List PA := [.c (y 101)]
def r1 : List RA := [.c (.c (y 3))]
theorem g1 : vcall (VN tb0) rounds 6 134 p1 = some r1 := by kernel_rfl
theorem s1 : Spec Go.Proofs.Tryz.prog 134 p1 r1 := fact tk0 g1
def p2 : List PA := [.c (y 108)]
def r2 : List RA := [.c (.c (y 3))]
theorem g2 : vcall (VN tb0) rounds 6 134 p2 = some r2 := by kernel_rfl
theorem s2 : Spec Go.Proofs.Tryz.prog 134 p2 r2 := fact tk0 g2
def p3 : List PA := [.c (y 99)]
def r3 : List RA := [.c (.c (y 3))]
theorem g3 : vcall (VN tb0) rounds 6 134 p3 = some r3 := by kernel_rfl
theorem s3 : Spec Go.Proofs.Tryz.prog 134 p3 r3 := fact tk0 g3
def p4 : List PA := [.c (y 116)]
def r4 : List RA := [.c (.c (y 3))]
theorem g4 : vcall (VN tb0) rounds 6 134 p4 = some r4 := by kernel_rfl
theorem s4 : Spec Go.Proofs.Tryz.prog 134 p4 r4 := fact tk0 g4
def p5 : List PA := [.c (y 32)]
def r5 : List RA := [.c (.c (y 1))]
theorem g5 : vcall (VN tb0) rounds 6 134 p5 = some r5 := by kernel_rfl
theorem s5 : Spec Go.Proofs.Tryz.prog 134 p5 r5 := fact tk0 g5
def p7 : List PA := [.c (s [115, 101, 108, 101, 99, 116])]
def r7 : List RA := [.c (.c bt)]
theorem g7 : vcall (VN tb0) rounds 6 173 p7 = some r7 := by kernel_rfl
theorem s7 : Spec Go.Proofs.Tryz.prog 173 p7 r7 := fact tk0 g7
def p8 : List PA := [.c (y 117)]
def r8 : List RA := [.c (.c (y 3))]
theorem g8 : vcall (VN tb0) rounds 6 134 p8 = some r8 := by kernel_rfl
theorem s8 : Spec Go.Proofs.Tryz.prog 134 p8 r8 := fact tk0 g8
def p9 : List PA := [.c (y 109)]
def r9 : List RA := [.c (.c (y 3))]
theorem g9 : vcall (VN tb0) rounds 6 134 p9 = some r9 := by kernel_rfl
theorem s9 : Spec Go.Proofs.Tryz.prog 134 p9 r9 := fact tk0 g9
def p10 : List PA := [.c (y 40)]
def r10 : List RA := [.c (.c (y 4))]
theorem g10 : vcall (VN tb0) rounds 6 134 p10 = some r10 := by kernel_rfl
theorem s10 : Spec Go.Proofs.Tryz.prog 134 p10 r10 := fact tk0 g10
def p12 : List PA := [.c (s [115, 117, 109])]
def r12 : List RA := [.c (.c bt)]
theorem g12 : vcall (VN tb0) rounds 6 173 p12 = some r12 := by kernel_rfl
theorem s12 : Spec Go.Proofs.Tryz.prog 173 p12 r12 := fact tk0 g12
def p16 : List PA := [.c (y 118)]
def r16 : List RA := [.c (.c (y 3))]
theorem g16 : vcall (VN tb0) rounds 6 134 p16 = some r16 := by kernel_rfl
theorem s16 : Spec Go.Proofs.Tryz.prog 134 p16 r16 := fact tk0 g16
def p17 : List PA := [.c (y 41)]
def r17 : List RA := [.c (.c (y 4))]
theorem g17 : vcall (VN tb0) rounds 6 134 p17 = some r17 := by kernel_rfl
theorem s17 : Spec Go.Proofs.Tryz.prog 134 p17 r17 := fact tk0 g17
def p19 : List PA := [.c (s [118])]
def r19 : List RA := [.c (.c bt)]
theorem g19 : vcall (VN tb0) rounds 6 173 p19 = some r19 := by kernel_rfl
theorem s19 : Spec Go.Proofs.Tryz.prog 173 p19 r19 := fact tk0 g19
def p23 : List PA := [.c (y 102)]
def r23 : List RA := [.c (.c (y 3))]
theorem g23 : vcall (VN tb0) rounds 6 134 p23 = some r23 := by kernel_rfl
theorem s23 : Spec Go.Proofs.Tryz.prog 134 p23 r23 := fact tk0 g23
def p24 : List PA := [.c (y 114)]
def r24 : List RA := [.c (.c (y 3))]
theorem g24 : vcall (VN tb0) rounds 6 134 p24 = some r24 := by kernel_rfl
theorem s24 : Spec Go.Proofs.Tryz.prog 134 p24 r24 := fact tk0 g24
def p25 : List PA := [.c (y 111)]
def r25 : List RA := [.c (.c (y 3))]
theorem g25 : vcall (VN tb0) rounds 6 134 p25 = some r25 := by kernel_rfl
theorem s25 : Spec Go.Proofs.Tryz.prog 134 p25 r25 := fact tk0 g25
def p27 : List PA := [.c (s [102, 114, 111, 109])]
def r27 : List RA := [.c (.c bt)]
theorem g27 : vcall (VN tb0) rounds 6 173 p27 = some r27 := by kernel_rfl
theorem s27 : Spec Go.Proofs.Tryz.prog 173 p27 r27 := fact tk0 g27
def p28 : List PA := [.c (y 97)]
def r28 : List RA := [.c (.c (y 3))]
theorem g28 : vcall (VN tb0) rounds 6 134 p28 = some r28 := by kernel_rfl
theorem s28 : Spec Go.Proofs.Tryz.prog 134 p28 r28 := fact tk0 g28
def p30 : List PA := [.c (s [97])]
def r30 : List RA := [.c (.c bt)]
theorem g30 : vcall (VN tb0) rounds 6 173 p30 = some r30 := by kernel_rfl
theorem s30 : Spec Go.Proofs.Tryz.prog 173 p30 r30 := fact tk0 g30
end Tn.Bo
