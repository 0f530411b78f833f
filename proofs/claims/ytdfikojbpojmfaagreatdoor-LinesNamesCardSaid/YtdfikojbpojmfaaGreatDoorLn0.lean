import Derived.Test.YtdfikojbpojmfaaGreatDoorNC
/- Closed facts of one run, each by the kernel. -/
set_option linter.unusedVariables false
namespace Tn.Ln
open Go Go.Abs Tn
abbrev i (n : Int) : PV := .int .i64 n
abbrev y (n : Int) : PV := .int .u8 n
abbrev bt : PV := .bool true
abbrev bf : PV := .bool false
abbrev s (l : List UInt8) : PV := .str l
abbrev l (es : List (List PV)) : PV := .sl es
abbrev e : PV := .sl []
def tb0 : List (FuncId × List PA × List RA) := []
theorem tk0 : TOK Go.Proofs.Tryz.prog tb0 := trivial
def p0 : List PA := [.a [e, e]]
def r0 : List RA := [.c (.c (s [])), .c (.c (i 0))]
theorem g0 : vcall (VN tb0) rounds 6 9 p0 = some r0 := by kernel_rfl
theorem s0 : Spec Go.Proofs.Tryz.prog 9 p0 r0 := fact tk0 g0
def p2 : List PA := [.a [e, e], .a [e, e]]
def r2 : List RA := [.c (.c bt)]
theorem g2 : vcall (VN tb0) rounds 6 15 p2 = some r2 := by kernel_rfl
theorem s2 : Spec Go.Proofs.Tryz.prog 15 p2 r2 := fact tk0 g2
def p4 : List PA := []
def r4 : List RA := [.a [.c (i 0), .c (i 0), .c (i 5), .c (i 2), .c (i 0)]]
theorem g4 : vcall (VN tb0) rounds 6 5 p4 = some r4 := by kernel_rfl
theorem s4 : Spec Go.Proofs.Tryz.prog 5 p4 r4 := fact tk0 g4
def p5 : List PA := [.a [(y 3), (i 0), (i 0), (i 0), (i 0), (i 0), (i 0), (i 5), (i 2), (i 0)]]
def r5 : List RA := [.c (.c (i 0))]
theorem g5 : vcall (VN tb0) rounds 6 36 p5 = some r5 := by kernel_rfl
theorem s5 : Spec Go.Proofs.Tryz.prog 36 p5 r5 := fact tk0 g5
def p7 : List PA := [.a [(y 4), (i (-9223372036854775808)), (i (-1099511627776)), (i 7), (i 0), (i 0), (i 0), (i 0), (i 0), (i 0)]]
def r7 : List RA := [.c (.c (i 0))]
theorem g7 : vcall (VN tb0) rounds 6 36 p7 = some r7 := by kernel_rfl
theorem s7 : Spec Go.Proofs.Tryz.prog 36 p7 r7 := fact tk0 g7
def p10 : List PA := [.c (s [114, 111, 119, 32, 48, 32, 48, 32, 53, 32, 50, 32, 48, 10]), .c (s [10])]
def r10 : List RA := [.c (.c (s [114, 111, 119, 32, 48, 32, 48, 32, 53, 32, 50, 32, 48]))]
theorem g10 : vcall (VN tb0) rounds 6 30 p10 = some r10 := by kernel_rfl
theorem s10 : Spec Go.Proofs.Tryz.prog 30 p10 r10 := fact tk0 g10
def m0 : PV := l [[(s [114, 111, 119])], [(s [48])], [(s [48])], [(s [53])], [(s [50])], [(s [48])]]
def p11 : List PA := [.c (s [114, 111, 119, 32, 48, 32, 48, 32, 53, 32, 50, 32, 48]), .c (s [32]), .c (i 0), .c (i (-1))]
def r11 : List RA := [.c (.c m0)]
theorem g11 : vcall (VN tb0) rounds 6 98 p11 = some r11 := by kernel_rfl
theorem s11 : Spec Go.Proofs.Tryz.prog 98 p11 r11 := fact tk0 g11
def p13 : List PA := [.c (l [[(s [48])], [(s [48])], [(s [53])], [(s [50])], [(s [48])]]), .c (i 5)]
def r13 : List RA := [.c (.c (l [[(i 0)], [(i 0)], [(i 5)], [(i 2)], [(i 0)]])), .c (.c bt)]
theorem g13 : vcall (VN tb0) rounds 6 67 p13 = some r13 := by kernel_rfl
theorem s13 : Spec Go.Proofs.Tryz.prog 67 p13 r13 := fact tk0 g13
def p15 : List PA := [.c (s [108, 97, 116, 101, 32, 45, 57, 50, 50, 51, 51, 55, 50, 48, 51, 54, 56, 53, 52, 55, 55, 53, 56, 48, 56, 32, 45, 49, 48, 57, 57, 53, 49, 49, 54, 50, 55, 55, 55, 54, 32, 55, 10]), .c (s [10])]
def r15 : List RA := [.c (.c (s [108, 97, 116, 101, 32, 45, 57, 50, 50, 51, 51, 55, 50, 48, 51, 54, 56, 53, 52, 55, 55, 53, 56, 48, 56, 32, 45, 49, 48, 57, 57, 53, 49, 49, 54, 50, 55, 55, 55, 54, 32, 55]))]
theorem g15 : vcall (VN tb0) rounds 6 30 p15 = some r15 := by kernel_rfl
theorem s15 : Spec Go.Proofs.Tryz.prog 30 p15 r15 := fact tk0 g15
def m1 : PV := l [[(s [108, 97, 116, 101])], [(s [45, 57, 50, 50, 51, 51, 55, 50, 48, 51, 54, 56, 53, 52, 55, 55, 53, 56, 48, 56])], [(s [45, 49, 48, 57, 57, 53, 49, 49, 54, 50, 55, 55, 55, 54])], [(s [55])]]
def p16 : List PA := [.c (s [108, 97, 116, 101, 32, 45, 57, 50, 50, 51, 51, 55, 50, 48, 51, 54, 56, 53, 52, 55, 55, 53, 56, 48, 56, 32, 45, 49, 48, 57, 57, 53, 49, 49, 54, 50, 55, 55, 55, 54, 32, 55]), .c (s [32]), .c (i 0), .c (i (-1))]
def r16 : List RA := [.c (.c m1)]
theorem g16 : vcall (VN tb0) rounds 6 98 p16 = some r16 := by kernel_rfl
theorem s16 : Spec Go.Proofs.Tryz.prog 98 p16 r16 := fact tk0 g16
def p18 : List PA := [.c (l [[(s [45, 57, 50, 50, 51, 51, 55, 50, 48, 51, 54, 56, 53, 52, 55, 55, 53, 56, 48, 56])], [(s [45, 49, 48, 57, 57, 53, 49, 49, 54, 50, 55, 55, 55, 54])], [(s [55])]]), .c (i 3)]
def r18 : List RA := [.c (.c (l [[(i (-9223372036854775808))], [(i (-1099511627776))], [(i 7)]])), .c (.c bt)]
theorem g18 : vcall (VN tb0) rounds 6 67 p18 = some r18 := by kernel_rfl
theorem s18 : Spec Go.Proofs.Tryz.prog 67 p18 r18 := fact tk0 g18
def m2 : PV := l [[(i 0), (i 0), (i 5), (i 2), (i 0)], [(i 0), (i 0), (i 5), (i 2), (i 0)]]
def m3 : PV := l [[(i (-9223372036854775808)), (i (-1099511627776)), (i 7)]]
def p21 : List PA := [.a [m2, m3], .a [m2, m3]]
def r21 : List RA := [.c (.c bt)]
theorem g21 : vcall (VN tb0) rounds 6 15 p21 = some r21 := by kernel_rfl
theorem s21 : Spec Go.Proofs.Tryz.prog 15 p21 r21 := fact tk0 g21
def p23 : List PA := [.c e]
def r23 : List RA := [.c (.c (i 0))]
theorem g23 : vcall (VN tb0) rounds 6 21 p23 = some r23 := by kernel_rfl
theorem s23 : Spec Go.Proofs.Tryz.prog 21 p23 r23 := fact tk0 g23
def p25 : List PA := [.c (s [])]
def r25 : List RA := [.c (.c e), .c (.c (i 0))]
theorem g25 : vcall (VN tb0) rounds 6 16 p25 = some r25 := by kernel_rfl
theorem s25 : Spec Go.Proofs.Tryz.prog 16 p25 r25 := fact tk0 g25
def p27 : List PA := [.c (l [[(i 19), (i 3)]])]
def r27 : List RA := [.c (.c (i 0))]
theorem g27 : vcall (VN tb0) rounds 6 21 p27 = some r27 := by kernel_rfl
theorem s27 : Spec Go.Proofs.Tryz.prog 21 p27 r27 := fact tk0 g27
def p28 : List PA := [.a [(i 19), (i 3)]]
def r28 : List RA := [.c (.c (s [49, 57, 46, 51]))]
theorem g28 : vcall (VN tb0) rounds 6 22 p28 = some r28 := by kernel_rfl
theorem s28 : Spec Go.Proofs.Tryz.prog 22 p28 r28 := fact tk0 g28
def p30 : List PA := [.c (s [49, 57, 46, 51]), .c (s [46])]
def r30 : List RA := [.c (.c (s [49, 57])), .c (.c (s [51])), .c (.c bt)]
theorem g30 : vcall (VN tb0) rounds 6 34 p30 = some r30 := by kernel_rfl
theorem s30 : Spec Go.Proofs.Tryz.prog 34 p30 r30 := fact tk0 g30
def p33 : List PA := [.c (l [[(i 19), (i (-1))], [(i 0), (i 0)]])]
def r33 : List RA := [.c (.c (i 0))]
theorem g33 : vcall (VN tb0) rounds 6 21 p33 = some r33 := by kernel_rfl
theorem s33 : Spec Go.Proofs.Tryz.prog 21 p33 r33 := fact tk0 g33
def p34 : List PA := [.a [(i 19), (i (-1))]]
def r34 : List RA := [.c (.c (s [49, 57]))]
theorem g34 : vcall (VN tb0) rounds 6 22 p34 = some r34 := by kernel_rfl
theorem s34 : Spec Go.Proofs.Tryz.prog 22 p34 r34 := fact tk0 g34
def p35 : List PA := [.a [(i 0), (i 0)]]
def r35 : List RA := [.c (.c (s [48, 46, 48]))]
theorem g35 : vcall (VN tb0) rounds 6 22 p35 = some r35 := by kernel_rfl
theorem s35 : Spec Go.Proofs.Tryz.prog 22 p35 r35 := fact tk0 g35
def p37 : List PA := [.c (s [49, 57]), .c (s [46])]
def r37 : List RA := [.c (.c (s [49, 57])), .c (.c (s [])), .c (.c bf)]
theorem g37 : vcall (VN tb0) rounds 6 34 p37 = some r37 := by kernel_rfl
theorem s37 : Spec Go.Proofs.Tryz.prog 34 p37 r37 := fact tk0 g37
def p38 : List PA := [.c (s [48, 46, 48]), .c (s [46])]
def r38 : List RA := [.c (.c (s [48])), .c (.c (s [48])), .c (.c bt)]
theorem g38 : vcall (VN tb0) rounds 6 34 p38 = some r38 := by kernel_rfl
theorem s38 : Spec Go.Proofs.Tryz.prog 34 p38 r38 := fact tk0 g38
def p41 : List PA := [.c (s [114, 111, 119, 32, 48, 32, 48, 32, 53, 32, 50, 32, 48]), .c (s [10])]
def r41 : List RA := [.c (.c (s [114, 111, 119, 32, 48, 32, 48, 32, 53, 32, 50, 32, 48]))]
theorem g41 : vcall (VN tb0) rounds 6 30 p41 = some r41 := by kernel_rfl
theorem s41 : Spec Go.Proofs.Tryz.prog 30 p41 r41 := fact tk0 g41
def p45 : List PA := [.c (s [10]), .c (s [10])]
def r45 : List RA := [.c (.c (s []))]
theorem g45 : vcall (VN tb0) rounds 6 30 p45 = some r45 := by kernel_rfl
theorem s45 : Spec Go.Proofs.Tryz.prog 30 p45 r45 := fact tk0 g45
def p46 : List PA := [.c (s []), .c (s [32]), .c (i 0), .c (i (-1))]
def r46 : List RA := [.c (.c (l [[(s [])]]))]
theorem g46 : vcall (VN tb0) rounds 6 98 p46 = some r46 := by kernel_rfl
theorem s46 : Spec Go.Proofs.Tryz.prog 98 p46 r46 := fact tk0 g46
def p48 : List PA := [.c e, .c (i 3)]
def r48 : List RA := [.c (.c e), .c (.c bf)]
theorem g48 : vcall (VN tb0) rounds 6 67 p48 = some r48 := by kernel_rfl
theorem s48 : Spec Go.Proofs.Tryz.prog 67 p48 r48 := fact tk0 g48
def p52 : List PA := [.c (s [114, 111, 119, 32, 48, 32, 48, 32, 53, 32, 50, 10]), .c (s [10])]
def r52 : List RA := [.c (.c (s [114, 111, 119, 32, 48, 32, 48, 32, 53, 32, 50]))]
theorem g52 : vcall (VN tb0) rounds 6 30 p52 = some r52 := by kernel_rfl
theorem s52 : Spec Go.Proofs.Tryz.prog 30 p52 r52 := fact tk0 g52
def m4 : PV := l [[(s [114, 111, 119])], [(s [48])], [(s [48])], [(s [53])], [(s [50])]]
def p53 : List PA := [.c (s [114, 111, 119, 32, 48, 32, 48, 32, 53, 32, 50]), .c (s [32]), .c (i 0), .c (i (-1))]
def r53 : List RA := [.c (.c m4)]
theorem g53 : vcall (VN tb0) rounds 6 98 p53 = some r53 := by kernel_rfl
theorem s53 : Spec Go.Proofs.Tryz.prog 98 p53 r53 := fact tk0 g53
def p55 : List PA := [.c (l [[(s [48])], [(s [48])], [(s [53])], [(s [50])]]), .c (i 5)]
def r55 : List RA := [.c (.c e), .c (.c bf)]
theorem g55 : vcall (VN tb0) rounds 6 67 p55 = some r55 := by kernel_rfl
theorem s55 : Spec Go.Proofs.Tryz.prog 67 p55 r55 := fact tk0 g55
def p59 : List PA := [.c (s [114, 111, 119, 32, 48, 32, 53, 32, 53, 32, 50, 32, 48, 10]), .c (s [10])]
def r59 : List RA := [.c (.c (s [114, 111, 119, 32, 48, 32, 53, 32, 53, 32, 50, 32, 48]))]
theorem g59 : vcall (VN tb0) rounds 6 30 p59 = some r59 := by kernel_rfl
theorem s59 : Spec Go.Proofs.Tryz.prog 30 p59 r59 := fact tk0 g59
def m5 : PV := l [[(s [114, 111, 119])], [(s [48])], [(s [53])], [(s [53])], [(s [50])], [(s [48])]]
def p60 : List PA := [.c (s [114, 111, 119, 32, 48, 32, 53, 32, 53, 32, 50, 32, 48]), .c (s [32]), .c (i 0), .c (i (-1))]
def r60 : List RA := [.c (.c m5)]
theorem g60 : vcall (VN tb0) rounds 6 98 p60 = some r60 := by kernel_rfl
theorem s60 : Spec Go.Proofs.Tryz.prog 98 p60 r60 := fact tk0 g60
def p62 : List PA := [.c (l [[(s [48])], [(s [53])], [(s [53])], [(s [50])], [(s [48])]]), .c (i 5)]
def r62 : List RA := [.c (.c (l [[(i 0)], [(i 5)], [(i 5)], [(i 2)], [(i 0)]])), .c (.c bt)]
theorem g62 : vcall (VN tb0) rounds 6 67 p62 = some r62 := by kernel_rfl
theorem s62 : Spec Go.Proofs.Tryz.prog 67 p62 r62 := fact tk0 g62
def p63 : List PA := [.a [(y 3), (i 0), (i 0), (i 0), (i 0), (i 0), (i 5), (i 5), (i 2), (i 0)]]
def r63 : List RA := [.c (.c (i 8))]
theorem g63 : vcall (VN tb0) rounds 6 36 p63 = some r63 := by kernel_rfl
theorem s63 : Spec Go.Proofs.Tryz.prog 36 p63 r63 := fact tk0 g63
def p67 : List PA := [.c (s [108, 97, 116, 101, 32, 49, 32, 50, 32, 51, 10]), .c (s [10])]
def r67 : List RA := [.c (.c (s [108, 97, 116, 101, 32, 49, 32, 50, 32, 51]))]
theorem g67 : vcall (VN tb0) rounds 6 30 p67 = some r67 := by kernel_rfl
theorem s67 : Spec Go.Proofs.Tryz.prog 30 p67 r67 := fact tk0 g67
def p68 : List PA := [.c (s [108, 97, 116, 101, 32, 49, 32, 50, 32, 51]), .c (s [32]), .c (i 0), .c (i (-1))]
def r68 : List RA := [.c (.c (l [[(s [108, 97, 116, 101])], [(s [49])], [(s [50])], [(s [51])]]))]
theorem g68 : vcall (VN tb0) rounds 6 98 p68 = some r68 := by kernel_rfl
theorem s68 : Spec Go.Proofs.Tryz.prog 98 p68 r68 := fact tk0 g68
def p70 : List PA := [.c (l [[(s [49])], [(s [50])], [(s [51])]]), .c (i 3)]
def r70 : List RA := [.c (.c (l [[(i 1)], [(i 2)], [(i 3)]])), .c (.c bt)]
theorem g70 : vcall (VN tb0) rounds 6 67 p70 = some r70 := by kernel_rfl
theorem s70 : Spec Go.Proofs.Tryz.prog 67 p70 r70 := fact tk0 g70
def p71 : List PA := [.a [(y 4), (i 1), (i 2), (i 3), (i 0), (i 0), (i 0), (i 0), (i 0), (i 0)]]
def r71 : List RA := [.c (.c (i 0))]
theorem g71 : vcall (VN tb0) rounds 6 36 p71 = some r71 := by kernel_rfl
theorem s71 : Spec Go.Proofs.Tryz.prog 36 p71 r71 := fact tk0 g71
def p77 : List PA := [.c (s [114, 101, 99, 111, 114, 100, 32, 49, 32, 50, 32, 51, 10]), .c (s [10])]
def r77 : List RA := [.c (.c (s [114, 101, 99, 111, 114, 100, 32, 49, 32, 50, 32, 51]))]
theorem g77 : vcall (VN tb0) rounds 6 30 p77 = some r77 := by kernel_rfl
theorem s77 : Spec Go.Proofs.Tryz.prog 30 p77 r77 := fact tk0 g77
def m6 : PV := l [[(s [114, 101, 99, 111, 114, 100])], [(s [49])], [(s [50])], [(s [51])]]
def p78 : List PA := [.c (s [114, 101, 99, 111, 114, 100, 32, 49, 32, 50, 32, 51]), .c (s [32]), .c (i 0), .c (i (-1))]
def r78 : List RA := [.c (.c m6)]
theorem g78 : vcall (VN tb0) rounds 6 98 p78 = some r78 := by kernel_rfl
theorem s78 : Spec Go.Proofs.Tryz.prog 98 p78 r78 := fact tk0 g78
def p80 : List PA := [.a [(y 1), (i 1), (i 2), (i 3), (i 0), (i 0), (i 0), (i 0), (i 0), (i 0)]]
def r80 : List RA := [.c (.c (i 0))]
theorem g80 : vcall (VN tb0) rounds 6 36 p80 = some r80 := by kernel_rfl
theorem s80 : Spec Go.Proofs.Tryz.prog 36 p80 r80 := fact tk0 g80
def p84 : List PA := [.c (s [109, 97, 114, 107, 32, 52, 10]), .c (s [10])]
def r84 : List RA := [.c (.c (s [109, 97, 114, 107, 32, 52]))]
theorem g84 : vcall (VN tb0) rounds 6 30 p84 = some r84 := by kernel_rfl
theorem s84 : Spec Go.Proofs.Tryz.prog 30 p84 r84 := fact tk0 g84
def p85 : List PA := [.c (s [109, 97, 114, 107, 32, 52]), .c (s [32]), .c (i 0), .c (i (-1))]
def r85 : List RA := [.c (.c (l [[(s [109, 97, 114, 107])], [(s [52])]]))]
theorem g85 : vcall (VN tb0) rounds 6 98 p85 = some r85 := by kernel_rfl
theorem s85 : Spec Go.Proofs.Tryz.prog 98 p85 r85 := fact tk0 g85
def p87 : List PA := [.c (l [[(s [52])]]), .c (i 1)]
def r87 : List RA := [.c (.c (l [[(i 4)]])), .c (.c bt)]
theorem g87 : vcall (VN tb0) rounds 6 67 p87 = some r87 := by kernel_rfl
theorem s87 : Spec Go.Proofs.Tryz.prog 67 p87 r87 := fact tk0 g87
def p88 : List PA := [.a [(y 2), (i 0), (i 0), (i 0), (i 4), (i 0), (i 0), (i 0), (i 0), (i 0)]]
def r88 : List RA := [.c (.c (i 0))]
theorem g88 : vcall (VN tb0) rounds 6 36 p88 = some r88 := by kernel_rfl
theorem s88 : Spec Go.Proofs.Tryz.prog 36 p88 r88 := fact tk0 g88
def p94 : List PA := [.c (s [114, 111, 119, 32, 48, 32, 48, 32, 48, 53, 32, 50, 32, 48, 10]), .c (s [10])]
def r94 : List RA := [.c (.c (s [114, 111, 119, 32, 48, 32, 48, 32, 48, 53, 32, 50, 32, 48]))]
theorem g94 : vcall (VN tb0) rounds 6 30 p94 = some r94 := by kernel_rfl
theorem s94 : Spec Go.Proofs.Tryz.prog 30 p94 r94 := fact tk0 g94
def m7 : PV := l [[(s [114, 111, 119])], [(s [48])], [(s [48])], [(s [48, 53])], [(s [50])], [(s [48])]]
def p95 : List PA := [.c (s [114, 111, 119, 32, 48, 32, 48, 32, 48, 53, 32, 50, 32, 48]), .c (s [32]), .c (i 0), .c (i (-1))]
def r95 : List RA := [.c (.c m7)]
theorem g95 : vcall (VN tb0) rounds 6 98 p95 = some r95 := by kernel_rfl
theorem s95 : Spec Go.Proofs.Tryz.prog 98 p95 r95 := fact tk0 g95
def p97 : List PA := [.c (l [[(s [48])], [(s [48])], [(s [48, 53])], [(s [50])], [(s [48])]]), .c (i 5)]
def r97 : List RA := [.c (.c e), .c (.c bf)]
theorem g97 : vcall (VN tb0) rounds 6 67 p97 = some r97 := by kernel_rfl
theorem s97 : Spec Go.Proofs.Tryz.prog 67 p97 r97 := fact tk0 g97
def p101 : List PA := [.c (s [108, 97, 116, 101, 32, 48, 32, 49, 48, 57, 57, 53, 49, 49, 54, 50, 55, 55, 55, 55, 32, 48, 10]), .c (s [10])]
def r101 : List RA := [.c (.c (s [108, 97, 116, 101, 32, 48, 32, 49, 48, 57, 57, 53, 49, 49, 54, 50, 55, 55, 55, 55, 32, 48]))]
theorem g101 : vcall (VN tb0) rounds 6 30 p101 = some r101 := by kernel_rfl
theorem s101 : Spec Go.Proofs.Tryz.prog 30 p101 r101 := fact tk0 g101
def m8 : PV := l [[(s [108, 97, 116, 101])], [(s [48])], [(s [49, 48, 57, 57, 53, 49, 49, 54, 50, 55, 55, 55, 55])], [(s [48])]]
def p102 : List PA := [.c (s [108, 97, 116, 101, 32, 48, 32, 49, 48, 57, 57, 53, 49, 49, 54, 50, 55, 55, 55, 55, 32, 48]), .c (s [32]), .c (i 0), .c (i (-1))]
def r102 : List RA := [.c (.c m8)]
theorem g102 : vcall (VN tb0) rounds 6 98 p102 = some r102 := by kernel_rfl
theorem s102 : Spec Go.Proofs.Tryz.prog 98 p102 r102 := fact tk0 g102
def p104 : List PA := [.c (l [[(s [48])], [(s [49, 48, 57, 57, 53, 49, 49, 54, 50, 55, 55, 55, 55])], [(s [48])]]), .c (i 3)]
def r104 : List RA := [.c (.c (l [[(i 0)], [(i 1099511627777)], [(i 0)]])), .c (.c bt)]
theorem g104 : vcall (VN tb0) rounds 6 67 p104 = some r104 := by kernel_rfl
theorem s104 : Spec Go.Proofs.Tryz.prog 67 p104 r104 := fact tk0 g104
def p105 : List PA := [.a [(y 4), (i 0), (i 1099511627777), (i 0), (i 0), (i 0), (i 0), (i 0), (i 0), (i 0)]]
def r105 : List RA := [.c (.c (i 8))]
theorem g105 : vcall (VN tb0) rounds 6 36 p105 = some r105 := by kernel_rfl
theorem s105 : Spec Go.Proofs.Tryz.prog 36 p105 r105 := fact tk0 g105
def p109 : List PA := [.c (s [114, 111, 119, 32, 48, 32, 48, 32, 53, 32, 50, 32, 48, 32, 10]), .c (s [10])]
def r109 : List RA := [.c (.c (s [114, 111, 119, 32, 48, 32, 48, 32, 53, 32, 50, 32, 48, 32]))]
theorem g109 : vcall (VN tb0) rounds 6 30 p109 = some r109 := by kernel_rfl
theorem s109 : Spec Go.Proofs.Tryz.prog 30 p109 r109 := fact tk0 g109
def m9 : PV := l [[(s [114, 111, 119])], [(s [48])], [(s [48])], [(s [53])], [(s [50])], [(s [48])], [(s [])]]
def p110 : List PA := [.c (s [114, 111, 119, 32, 48, 32, 48, 32, 53, 32, 50, 32, 48, 32]), .c (s [32]), .c (i 0), .c (i (-1))]
def r110 : List RA := [.c (.c m9)]
theorem g110 : vcall (VN tb0) rounds 6 98 p110 = some r110 := by kernel_rfl
theorem s110 : Spec Go.Proofs.Tryz.prog 98 p110 r110 := fact tk0 g110
def p112 : List PA := [.c (l [[(s [48])], [(s [48])], [(s [53])], [(s [50])], [(s [48])], [(s [])]]), .c (i 5)]
def r112 : List RA := [.c (.c e), .c (.c bf)]
theorem g112 : vcall (VN tb0) rounds 6 67 p112 = some r112 := by kernel_rfl
theorem s112 : Spec Go.Proofs.Tryz.prog 67 p112 r112 := fact tk0 g112
def p116 : List PA := [.c (s []), .c (s [46])]
def r116 : List RA := [.c (.c (s [])), .c (.c (s [])), .c (.c bf)]
theorem g116 : vcall (VN tb0) rounds 6 34 p116 = some r116 := by kernel_rfl
theorem s116 : Spec Go.Proofs.Tryz.prog 34 p116 r116 := fact tk0 g116
def p119 : List PA := [.c (s [48]), .c (s [46])]
def r119 : List RA := [.c (.c (s [48])), .c (.c (s [])), .c (.c bf)]
theorem g119 : vcall (VN tb0) rounds 6 34 p119 = some r119 := by kernel_rfl
theorem s119 : Spec Go.Proofs.Tryz.prog 34 p119 r119 := fact tk0 g119
def p120 : List PA := [.a [(i 0), (i (-1))]]
def r120 : List RA := [.c (.c (s [48]))]
theorem g120 : vcall (VN tb0) rounds 6 22 p120 = some r120 := by kernel_rfl
theorem s120 : Spec Go.Proofs.Tryz.prog 22 p120 r120 := fact tk0 g120
def p127 : List PA := [.c (s [50, 48]), .c (s [46])]
def r127 : List RA := [.c (.c (s [50, 48])), .c (.c (s [])), .c (.c bf)]
theorem g127 : vcall (VN tb0) rounds 6 34 p127 = some r127 := by kernel_rfl
theorem s127 : Spec Go.Proofs.Tryz.prog 34 p127 r127 := fact tk0 g127
def p128 : List PA := [.a [(i 20), (i (-1))]]
def r128 : List RA := [.c (.c (s [50, 48]))]
theorem g128 : vcall (VN tb0) rounds 6 22 p128 = some r128 := by kernel_rfl
theorem s128 : Spec Go.Proofs.Tryz.prog 22 p128 r128 := fact tk0 g128
def p129 : List PA := [.c (l [[(i 20), (i (-1))]])]
def r129 : List RA := [.c (.c (i 2))]
theorem g129 : vcall (VN tb0) rounds 6 21 p129 = some r129 := by kernel_rfl
theorem s129 : Spec Go.Proofs.Tryz.prog 21 p129 r129 := fact tk0 g129
def p132 : List PA := [.c (s [48, 46, 52]), .c (s [46])]
def r132 : List RA := [.c (.c (s [48])), .c (.c (s [52])), .c (.c bt)]
theorem g132 : vcall (VN tb0) rounds 6 34 p132 = some r132 := by kernel_rfl
theorem s132 : Spec Go.Proofs.Tryz.prog 34 p132 r132 := fact tk0 g132
def p133 : List PA := [.a [(i 0), (i 4)]]
def r133 : List RA := [.c (.c (s [48, 46, 52]))]
theorem g133 : vcall (VN tb0) rounds 6 22 p133 = some r133 := by kernel_rfl
theorem s133 : Spec Go.Proofs.Tryz.prog 22 p133 r133 := fact tk0 g133
def p134 : List PA := [.c (l [[(i 0), (i 4)]])]
def r134 : List RA := [.c (.c (i 2))]
theorem g134 : vcall (VN tb0) rounds 6 21 p134 = some r134 := by kernel_rfl
theorem s134 : Spec Go.Proofs.Tryz.prog 21 p134 r134 := fact tk0 g134
def p137 : List PA := [.c (s [48, 48]), .c (s [46])]
def r137 : List RA := [.c (.c (s [48, 48])), .c (.c (s [])), .c (.c bf)]
theorem g137 : vcall (VN tb0) rounds 6 34 p137 = some r137 := by kernel_rfl
theorem s137 : Spec Go.Proofs.Tryz.prog 34 p137 r137 := fact tk0 g137
def p140 : List PA := [.c (s [48, 46]), .c (s [46])]
def r140 : List RA := [.c (.c (s [48])), .c (.c (s [])), .c (.c bt)]
theorem g140 : vcall (VN tb0) rounds 6 34 p140 = some r140 := by kernel_rfl
theorem s140 : Spec Go.Proofs.Tryz.prog 34 p140 r140 := fact tk0 g140
def p143 : List PA := [.c (s [46, 48]), .c (s [46])]
def r143 : List RA := [.c (.c (s [])), .c (.c (s [48])), .c (.c bt)]
theorem g143 : vcall (VN tb0) rounds 6 34 p143 = some r143 := by kernel_rfl
theorem s143 : Spec Go.Proofs.Tryz.prog 34 p143 r143 := fact tk0 g143
def p146 : List PA := [.c (s [48, 46, 49, 46, 50]), .c (s [46])]
def r146 : List RA := [.c (.c (s [48])), .c (.c (s [49, 46, 50])), .c (.c bt)]
theorem g146 : vcall (VN tb0) rounds 6 34 p146 = some r146 := by kernel_rfl
theorem s146 : Spec Go.Proofs.Tryz.prog 34 p146 r146 := fact tk0 g146
def p149 : List PA := [.c (s [45, 49]), .c (s [46])]
def r149 : List RA := [.c (.c (s [45, 49])), .c (.c (s [])), .c (.c bf)]
theorem g149 : vcall (VN tb0) rounds 6 34 p149 = some r149 := by kernel_rfl
theorem s149 : Spec Go.Proofs.Tryz.prog 34 p149 r149 := fact tk0 g149
def p150 : List PA := [.a [(i (-1)), (i (-1))]]
def r150 : List RA := [.c (.c (s [45, 49]))]
theorem g150 : vcall (VN tb0) rounds 6 22 p150 = some r150 := by kernel_rfl
theorem s150 : Spec Go.Proofs.Tryz.prog 22 p150 r150 := fact tk0 g150
def p151 : List PA := [.c (l [[(i (-1)), (i (-1))]])]
def r151 : List RA := [.c (.c (i 2))]
theorem g151 : vcall (VN tb0) rounds 6 21 p151 = some r151 := by kernel_rfl
theorem s151 : Spec Go.Proofs.Tryz.prog 21 p151 r151 := fact tk0 g151
def p154 : List PA := [.c (s [48, 46, 45, 49]), .c (s [46])]
def r154 : List RA := [.c (.c (s [48])), .c (.c (s [45, 49])), .c (.c bt)]
theorem g154 : vcall (VN tb0) rounds 6 34 p154 = some r154 := by kernel_rfl
theorem s154 : Spec Go.Proofs.Tryz.prog 34 p154 r154 := fact tk0 g154
def p157 : List PA := [.c (s [97]), .c (s [46])]
def r157 : List RA := [.c (.c (s [97])), .c (.c (s [])), .c (.c bf)]
theorem g157 : vcall (VN tb0) rounds 6 34 p157 = some r157 := by kernel_rfl
theorem s157 : Spec Go.Proofs.Tryz.prog 34 p157 r157 := fact tk0 g157
def p160 : List PA := [.c (s [48, 44, 49]), .c (s [46])]
def r160 : List RA := [.c (.c (s [48, 44, 49])), .c (.c (s [])), .c (.c bf)]
theorem g160 : vcall (VN tb0) rounds 6 34 p160 = some r160 := by kernel_rfl
theorem s160 : Spec Go.Proofs.Tryz.prog 34 p160 r160 := fact tk0 g160
def p163 : List PA := [.c (s [49, 48, 48]), .c (s [46])]
def r163 : List RA := [.c (.c (s [49, 48, 48])), .c (.c (s [])), .c (.c bf)]
theorem g163 : vcall (VN tb0) rounds 6 34 p163 = some r163 := by kernel_rfl
theorem s163 : Spec Go.Proofs.Tryz.prog 34 p163 r163 := fact tk0 g163
def p164 : List PA := [.a [(i 100), (i (-1))]]
def r164 : List RA := [.c (.c (s [49, 48, 48]))]
theorem g164 : vcall (VN tb0) rounds 6 22 p164 = some r164 := by kernel_rfl
theorem s164 : Spec Go.Proofs.Tryz.prog 22 p164 r164 := fact tk0 g164
def p165 : List PA := [.c (l [[(i 100), (i (-1))]])]
def r165 : List RA := [.c (.c (i 2))]
theorem g165 : vcall (VN tb0) rounds 6 21 p165 = some r165 := by kernel_rfl
theorem s165 : Spec Go.Proofs.Tryz.prog 21 p165 r165 := fact tk0 g165
def m10 : PV := .sl (List.replicate 4001 [(i 0), (i 0), (i 0), (i 0), (i 0)])
def p168 : List PA := [.a [m10, e]]
def r168 : List RA := [.c (.c (s [])), .c (.c (i 4))]
theorem g168 : vcall (VN tb0) rounds 6 9 p168 = some r168 := by kernel_rfl
theorem s168 : Spec Go.Proofs.Tryz.prog 9 p168 r168 := fact tk0 g168
def m11 : PV := .sl (List.replicate 4001 [(i 0), (i 0), (i 0)])
def p169 : List PA := [.a [e, m11]]
def r169 : List RA := [.c (.c (s [])), .c (.c (i 4))]
theorem g169 : vcall (VN tb0) rounds 6 9 p169 = some r169 := by kernel_rfl
theorem s169 : Spec Go.Proofs.Tryz.prog 9 p169 r169 := fact tk0 g169
def p170 : List PA := [.a [(y 3), (i 0), (i 0), (i 0), (i 0), (i 0), (i 0), (i 0), (i 0), (i 0)]]
def r170 : List RA := [.c (.c (i 8))]
theorem g170 : vcall (VN tb0) rounds 6 36 p170 = some r170 := by kernel_rfl
theorem s170 : Spec Go.Proofs.Tryz.prog 36 p170 r170 := fact tk0 g170
def p173 : List PA := [.a [(y 4), (i 0), (i 2199023255552), (i 0), (i 0), (i 0), (i 0), (i 0), (i 0), (i 0)]]
def r173 : List RA := [.c (.c (i 8))]
theorem g173 : vcall (VN tb0) rounds 6 36 p173 = some r173 := by kernel_rfl
theorem s173 : Spec Go.Proofs.Tryz.prog 36 p173 r173 := fact tk0 g173
def m12 : PV := .sl (List.replicate 2001 [(i 0), (i 0)])
def p176 : List PA := [.c m12]
def r176 : List RA := [.c (.c (i 4))]
theorem g176 : vcall (VN tb0) rounds 6 21 p176 = some r176 := by kernel_rfl
theorem s176 : Spec Go.Proofs.Tryz.prog 21 p176 r176 := fact tk0 g176
def p178 : List PA := [.c (l [[(i 20), (i 0)]])]
def r178 : List RA := [.c (.c (i 2))]
theorem g178 : vcall (VN tb0) rounds 6 21 p178 = some r178 := by kernel_rfl
theorem s178 : Spec Go.Proofs.Tryz.prog 21 p178 r178 := fact tk0 g178
def m13 : PV := l [[(y 0), (i 0)], [(y 0), (i 0)], [(y 0), (i 0)], [(y 0), (i 0)], [(y 0), (i 0)], [(y 0), (i 0)], [(y 0), (i 0)], [(y 0), (i 0)], [(y 0), (i 0)], [(y 0), (i 0)], [(y 0), (i 0)], [(y 0), (i 0)], [(y 0), (i 0)], [(y 0), (i 0)], [(y 0), (i 0)], [(y 0), (i 0)], [(y 0), (i 0)], [(y 0), (i 0)], [(y 0), (i 0)], [(y 0), (i 0)], [(y 0), (i 0)]]
def p180 : List PA := [.a [m13, e]]
def r180 : List RA := [.c (.c (i 4))]
theorem g180 : vcall (VN tb0) rounds 6 24 p180 = some r180 := by kernel_rfl
theorem s180 : Spec Go.Proofs.Tryz.prog 24 p180 r180 := fact tk0 g180
def p182 : List PA := [.c e, .a [(i 0), (i 0)]]
def r182 : List RA := [.c (.c bt)]
theorem g182 : vcall (VN tb0) rounds 6 80 p182 = some r182 := by kernel_rfl
theorem s182 : Spec Go.Proofs.Tryz.prog 80 p182 r182 := fact tk0 g182
def p183 : List PA := [.c e, .a [(i 1), (i 1)]]
def r183 : List RA := [.c (.c bf)]
theorem g183 : vcall (VN tb0) rounds 6 80 p183 = some r183 := by kernel_rfl
theorem s183 : Spec Go.Proofs.Tryz.prog 80 p183 r183 := fact tk0 g183
def p187 : List PA := [.c (y 115)]
def r187 : List RA := [.c (.c (y 3))]
theorem g187 : vcall (VN tb0) rounds 6 116 p187 = some r187 := by kernel_rfl
theorem s187 : Spec Go.Proofs.Tryz.prog 116 p187 r187 := fact tk0 g187
def p188 : List PA := [.c (y 101)]
def r188 : List RA := [.c (.c (y 3))]
theorem g188 : vcall (VN tb0) rounds 6 116 p188 = some r188 := by kernel_rfl
theorem s188 : Spec Go.Proofs.Tryz.prog 116 p188 r188 := fact tk0 g188
def p189 : List PA := [.c (y 108)]
def r189 : List RA := [.c (.c (y 3))]
theorem g189 : vcall (VN tb0) rounds 6 116 p189 = some r189 := by kernel_rfl
theorem s189 : Spec Go.Proofs.Tryz.prog 116 p189 r189 := fact tk0 g189
def p190 : List PA := [.c (y 99)]
def r190 : List RA := [.c (.c (y 3))]
theorem g190 : vcall (VN tb0) rounds 6 116 p190 = some r190 := by kernel_rfl
theorem s190 : Spec Go.Proofs.Tryz.prog 116 p190 r190 := fact tk0 g190
def p191 : List PA := [.c (y 116)]
def r191 : List RA := [.c (.c (y 3))]
theorem g191 : vcall (VN tb0) rounds 6 116 p191 = some r191 := by kernel_rfl
theorem s191 : Spec Go.Proofs.Tryz.prog 116 p191 r191 := fact tk0 g191
def p192 : List PA := [.c (y 32)]
def r192 : List RA := [.c (.c (y 1))]
theorem g192 : vcall (VN tb0) rounds 6 116 p192 = some r192 := by kernel_rfl
theorem s192 : Spec Go.Proofs.Tryz.prog 116 p192 r192 := fact tk0 g192
def p194 : List PA := [.c (s [115, 101, 108, 101, 99, 116])]
def r194 : List RA := [.c (.c bt)]
theorem g194 : vcall (VN tb0) rounds 6 154 p194 = some r194 := by kernel_rfl
theorem s194 : Spec Go.Proofs.Tryz.prog 154 p194 r194 := fact tk0 g194
def p195 : List PA := [.c (y 117)]
def r195 : List RA := [.c (.c (y 3))]
theorem g195 : vcall (VN tb0) rounds 6 116 p195 = some r195 := by kernel_rfl
theorem s195 : Spec Go.Proofs.Tryz.prog 116 p195 r195 := fact tk0 g195
def p196 : List PA := [.c (y 109)]
def r196 : List RA := [.c (.c (y 3))]
theorem g196 : vcall (VN tb0) rounds 6 116 p196 = some r196 := by kernel_rfl
theorem s196 : Spec Go.Proofs.Tryz.prog 116 p196 r196 := fact tk0 g196
def p197 : List PA := [.c (y 40)]
def r197 : List RA := [.c (.c (y 4))]
theorem g197 : vcall (VN tb0) rounds 6 116 p197 = some r197 := by kernel_rfl
theorem s197 : Spec Go.Proofs.Tryz.prog 116 p197 r197 := fact tk0 g197
def p199 : List PA := [.c (s [115, 117, 109])]
def r199 : List RA := [.c (.c bt)]
theorem g199 : vcall (VN tb0) rounds 6 154 p199 = some r199 := by kernel_rfl
theorem s199 : Spec Go.Proofs.Tryz.prog 154 p199 r199 := fact tk0 g199
def p203 : List PA := [.c (y 118)]
def r203 : List RA := [.c (.c (y 3))]
theorem g203 : vcall (VN tb0) rounds 6 116 p203 = some r203 := by kernel_rfl
theorem s203 : Spec Go.Proofs.Tryz.prog 116 p203 r203 := fact tk0 g203
def p204 : List PA := [.c (y 41)]
def r204 : List RA := [.c (.c (y 4))]
theorem g204 : vcall (VN tb0) rounds 6 116 p204 = some r204 := by kernel_rfl
theorem s204 : Spec Go.Proofs.Tryz.prog 116 p204 r204 := fact tk0 g204
def p206 : List PA := [.c (s [118])]
def r206 : List RA := [.c (.c bt)]
theorem g206 : vcall (VN tb0) rounds 6 154 p206 = some r206 := by kernel_rfl
theorem s206 : Spec Go.Proofs.Tryz.prog 154 p206 r206 := fact tk0 g206
end Tn.Ln
