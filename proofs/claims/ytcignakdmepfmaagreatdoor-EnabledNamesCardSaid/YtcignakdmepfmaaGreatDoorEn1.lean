import Derived.Test.YtcignakdmepfmaaGreatDoorEn0
/- Closed facts of one run, each by the kernel. -/
set_option linter.unusedVariables false
namespace Tn.En
open Go Go.Abs Tn
def p55 : List PA := [.c (l [[(s [41])]]), .c (s [41])]
def r55 : List RA := [.c (.c (i 0))]
theorem g55 : vcall (VN tb0) rounds 6 224 p55 = some r55 := by kernel_rfl
theorem s55 : Spec Go.Proofs.Tryz.prog 224 p55 r55 := fact tk0 g55
def p56 : List PA := [.c (l [[(s [102, 114, 111, 109])]]), .c (s [102, 114, 111, 109])]
def r56 : List RA := [.c (.c (i 0))]
theorem g56 : vcall (VN tb0) rounds 6 224 p56 = some r56 := by kernel_rfl
theorem s56 : Spec Go.Proofs.Tryz.prog 224 p56 r56 := fact tk0 g56
def p57 : List PA := [.c (l [[(s [97])], [(s [98])], [(s [99])], [(s [100])]]), .c (s [97])]
def r57 : List RA := [.c (.c (i 0))]
theorem g57 : vcall (VN tb0) rounds 6 224 p57 = some r57 := by kernel_rfl
theorem s57 : Spec Go.Proofs.Tryz.prog 224 p57 r57 := fact tk0 g57
def p58 : List PA := [.c (l [[(s [106, 111, 105, 110])]]), .c (s [119, 105, 110, 100, 111, 119])]
def r58 : List RA := [.c (.c (i (-1)))]
theorem g58 : vcall (VN tb0) rounds 6 224 p58 = some r58 := by kernel_rfl
theorem s58 : Spec Go.Proofs.Tryz.prog 224 p58 r58 := fact tk0 g58
def p59 : List PA := [.c (l [[(s [117, 110, 105, 111, 110])]]), .c (s [119, 105, 110, 100, 111, 119])]
def r59 : List RA := [.c (.c (i (-1)))]
theorem g59 : vcall (VN tb0) rounds 6 224 p59 = some r59 := by kernel_rfl
theorem s59 : Spec Go.Proofs.Tryz.prog 224 p59 r59 := fact tk0 g59
def p60 : List PA := [.c (l [[(s [119, 104, 101, 114, 101])]]), .c (s [119, 105, 110, 100, 111, 119])]
def r60 : List RA := [.c (.c (i (-1)))]
theorem g60 : vcall (VN tb0) rounds 6 224 p60 = some r60 := by kernel_rfl
theorem s60 : Spec Go.Proofs.Tryz.prog 224 p60 r60 := fact tk0 g60
def p61 : List PA := [.c (l [[(s [119, 105, 110, 100, 111, 119])]]), .c (s [119, 105, 110, 100, 111, 119])]
def r61 : List RA := [.c (.c (i 0))]
theorem g61 : vcall (VN tb0) rounds 6 224 p61 = some r61 := by kernel_rfl
theorem s61 : Spec Go.Proofs.Tryz.prog 224 p61 r61 := fact tk0 g61
def p62 : List PA := [.c (l [[(s [116, 117, 109, 98, 108, 101])], [(s [115, 108, 105, 100, 101])], [(s [115, 101, 115, 115, 105, 111, 110])]]), .c (s [116, 117, 109, 98, 108, 101])]
def r62 : List RA := [.c (.c (i 0))]
theorem g62 : vcall (VN tb0) rounds 6 224 p62 = some r62 := by kernel_rfl
theorem s62 : Spec Go.Proofs.Tryz.prog 224 p62 r62 := fact tk0 g62
def p65 : List PA := [.a [(y 1), e, (l [[(i 0)]]), bf, e, (y 1), (i 5), (i 0), bf, (y 1)]]
def r65 : List RA := [.c (.c (i 0)), .c (.c (i 0))]
theorem g65 : vcall (VN tb0) rounds 6 41 p65 = some r65 := by kernel_rfl
theorem s65 : Spec Go.Proofs.Tryz.prog 41 p65 r65 := fact tk0 g65
def p67 : List PA := [.a [(y 1), e, (l [[(i 0)]]), bf, e, (y 1), (i 5), (i 0), bf, (y 1)]]
def r67 : List RA := [.c (.s 5 1 [[(y 1)], [(y 2)], [(y 4)], [(y 6)], [(y 7)], [(y 9)]])]
theorem g67 : vcall (VN tb0) rounds 6 93 p67 = some r67 := by kernel_rfl
theorem s67 : Spec Go.Proofs.Tryz.prog 93 p67 r67 := fact tk0 g67
def m0 : PV := l [[(y 1)], [(y 2)], [(y 4)], [(y 6)], [(y 7)], [(y 9)]]
def p69 : List PA := [.c m0, .c m0]
def r69 : List RA := [.c (.c bt)]
theorem g69 : vcall (VN tb0) rounds 6 147 p69 = some r69 := by kernel_rfl
theorem s69 : Spec Go.Proofs.Tryz.prog 147 p69 r69 := fact tk0 g69
def m1 : PV := l [[bf, (i 0), (i 0), (i 1), (i 0)], [bt, (i 9), (i 0), (i 0), (i 0)]]
def m2 : PV := l [[m1]]
def p71 : List PA := [.c (i 0), .q [m2]]
def r71 : List RA := [.a [.c (y 1), .c (i 0), .c (i 0), .c e, .c e, .c e, .s 34 5 [[bf, (i 0), (i 0), (i 1), (i 0)], [bt, (i 9), (i 0), (i 0), (i 0)]], .c e, .c e], .c (.c (i 0))]
theorem g71 : vcall (VN tb0) rounds 6 47 p71 = some r71 := by kernel_rfl
theorem s71 : Spec Go.Proofs.Tryz.prog 47 p71 r71 := fact tk0 g71
def p72 : List PA := [.c (i 0)]
def r72 : List RA := [.a [.c (y 2), .c (i 0), .c (i 0), .c e, .s 2 1 [[(i (-9223372036854775808))]], .c e, .c e, .c e, .c e], .c (.c (i 0))]
theorem g72 : vcall (VN tb0) rounds 6 49 p72 = some r72 := by kernel_rfl
theorem s72 : Spec Go.Proofs.Tryz.prog 49 p72 r72 := fact tk0 g72
def p73 : List PA := [.c (i 0), .q [(y 1), e, (l [[(i 0)]]), bf, e, (y 1), (i 5), (i 0), bf, (y 1)]]
def r73 : List RA := [.a [.c (y 4), .c (i 0), .c (i 0), .c e, .s 2 1 [[(i (-9223372036854775808))]], .c e, .c e, .c e, .c e], .c (.c (i 0))]
theorem g73 : vcall (VN tb0) rounds 6 51 p73 = some r73 := by kernel_rfl
theorem s73 : Spec Go.Proofs.Tryz.prog 51 p73 r73 := fact tk0 g73
def p74 : List PA := [.c (i 0)]
def r74 : List RA := [.a [.c (y 6), .c (i 0), .c (i 0), .c e, .c e, .c e, .c e, .c e, .c e], .c (.c (i 0))]
theorem g74 : vcall (VN tb0) rounds 6 54 p74 = some r74 := by kernel_rfl
theorem s74 : Spec Go.Proofs.Tryz.prog 54 p74 r74 := fact tk0 g74
def p77 : List PA := [.c e, .a [(i 0), (i 0)]]
def r77 : List RA := [.c (.c bt)]
theorem g77 : vcall (VN tb0) rounds 6 187 p77 = some r77 := by kernel_rfl
theorem s77 : Spec Go.Proofs.Tryz.prog 187 p77 r77 := fact tk0 g77
def p78 : List PA := [.c (l [[(i 0)]]), .a [(i 1), (i 1)]]
def r78 : List RA := [.c (.c bt)]
theorem g78 : vcall (VN tb0) rounds 6 187 p78 = some r78 := by kernel_rfl
theorem s78 : Spec Go.Proofs.Tryz.prog 187 p78 r78 := fact tk0 g78
def p79 : List PA := [.c (l [[(i 0)]]), .a [(i 1), (i 2)]]
def r79 : List RA := [.c (.c bt)]
theorem g79 : vcall (VN tb0) rounds 6 187 p79 = some r79 := by kernel_rfl
theorem s79 : Spec Go.Proofs.Tryz.prog 187 p79 r79 := fact tk0 g79
def p80 : List PA := [.c (l [[(i 0)]]), .a [(i 1), (i 4)]]
def r80 : List RA := [.c (.c bt)]
theorem g80 : vcall (VN tb0) rounds 6 187 p80 = some r80 := by kernel_rfl
theorem s80 : Spec Go.Proofs.Tryz.prog 187 p80 r80 := fact tk0 g80
def p81 : List PA := [.c (l [[(i 0)]]), .a [(i 1), (i 3)]]
def r81 : List RA := [.c (.c bt)]
theorem g81 : vcall (VN tb0) rounds 6 187 p81 = some r81 := by kernel_rfl
theorem s81 : Spec Go.Proofs.Tryz.prog 187 p81 r81 := fact tk0 g81
def p84 : List PA := [.a [(i 1), e]]
def r84 : List RA := [.c (.c (i 0))]
theorem g84 : vcall (VN tb0) rounds 6 103 p84 = some r84 := by kernel_rfl
theorem s84 : Spec Go.Proofs.Tryz.prog 103 p84 r84 := fact tk0 g84
def p85 : List PA := [.c bf, .c (i 4000)]
def r85 : List RA := [.c (.c (i 0))]
theorem g85 : vcall (VN tb0) rounds 6 189 p85 = some r85 := by kernel_rfl
theorem s85 : Spec Go.Proofs.Tryz.prog 189 p85 r85 := fact tk0 g85
def p86 : List PA := [.c bt, .c (i 60)]
def r86 : List RA := [.c (.c (i 60))]
theorem g86 : vcall (VN tb0) rounds 6 189 p86 = some r86 := by kernel_rfl
theorem s86 : Spec Go.Proofs.Tryz.prog 189 p86 r86 := fact tk0 g86
def m3 : PV := l [[(y 1), (i 0)], [(y 2), (i 0)], [(y 4), (i 0)], [(y 6), (i 0)]]
def m4 : PV := l [[(i 0), (i 0), (i 1), (i 0), (i 1)], [(i 1), (i 0), (i 2), (i 0), (i 1)], [(i 2), (i 0), (i 3), (i 0), (i 1)]]
def p88 : List PA := [.a [m3, m4], .c (i 0)]
def r88 : List RA := [.c (.c e)]
theorem g88 : vcall (VN tb0) rounds 6 72 p88 = some r88 := by kernel_rfl
theorem s88 : Spec Go.Proofs.Tryz.prog 72 p88 r88 := fact tk0 g88
def p89 : List PA := [.a [m3, m4], .c (i 0)]
def r89 : List RA := [.c (.c (l [[(i 0)]]))]
theorem g89 : vcall (VN tb0) rounds 6 109 p89 = some r89 := by kernel_rfl
theorem s89 : Spec Go.Proofs.Tryz.prog 109 p89 r89 := fact tk0 g89
def p90 : List PA := [.c bf, .c (i 60)]
def r90 : List RA := [.c (.c (i 0))]
theorem g90 : vcall (VN tb0) rounds 6 189 p90 = some r90 := by kernel_rfl
theorem s90 : Spec Go.Proofs.Tryz.prog 189 p90 r90 := fact tk0 g90
def p92 : List PA := [.a [m3, m4], .c (i 1)]
def r92 : List RA := [.c (.c (l [[(i 0)]]))]
theorem g92 : vcall (VN tb0) rounds 6 72 p92 = some r92 := by kernel_rfl
theorem s92 : Spec Go.Proofs.Tryz.prog 72 p92 r92 := fact tk0 g92
def p93 : List PA := [.a [m3, m4], .c (i 1)]
def r93 : List RA := [.c (.c (l [[(i 1)]]))]
theorem g93 : vcall (VN tb0) rounds 6 109 p93 = some r93 := by kernel_rfl
theorem s93 : Spec Go.Proofs.Tryz.prog 109 p93 r93 := fact tk0 g93
def p94 : List PA := [.c bt, .c (i 4000)]
def r94 : List RA := [.c (.c (i 4000))]
theorem g94 : vcall (VN tb0) rounds 6 189 p94 = some r94 := by kernel_rfl
theorem s94 : Spec Go.Proofs.Tryz.prog 189 p94 r94 := fact tk0 g94
def p96 : List PA := [.a [m3, m4], .c (i 2)]
def r96 : List RA := [.c (.c (l [[(i 1)]]))]
theorem g96 : vcall (VN tb0) rounds 6 72 p96 = some r96 := by kernel_rfl
theorem s96 : Spec Go.Proofs.Tryz.prog 72 p96 r96 := fact tk0 g96
def p97 : List PA := [.a [m3, m4], .c (i 2)]
def r97 : List RA := [.c (.c (l [[(i 2)]]))]
theorem g97 : vcall (VN tb0) rounds 6 109 p97 = some r97 := by kernel_rfl
theorem s97 : Spec Go.Proofs.Tryz.prog 109 p97 r97 := fact tk0 g97
def p99 : List PA := [.a [m3, m4], .c (i 3)]
def r99 : List RA := [.c (.c (l [[(i 2)]]))]
theorem g99 : vcall (VN tb0) rounds 6 72 p99 = some r99 := by kernel_rfl
theorem s99 : Spec Go.Proofs.Tryz.prog 72 p99 r99 := fact tk0 g99
def p100 : List PA := [.a [m3, m4], .c (i 3)]
def r100 : List RA := [.c (.c e)]
theorem g100 : vcall (VN tb0) rounds 6 109 p100 = some r100 := by kernel_rfl
theorem s100 : Spec Go.Proofs.Tryz.prog 109 p100 r100 := fact tk0 g100
def m5 : PV := l [[(y 1), (i 0), (i 0), e, e, e, m1, e, e], [(y 2), (i 0), (i 0), e, (l [[(i (-9223372036854775808))]]), e, e, e, e], [(y 4), (i 0), (i 0), e, (l [[(i (-9223372036854775808))]]), e, e, e, e], [(y 6), (i 0), (i 0), e, e, e, e, e, e]]
def m6 : PV := l [[(i 1), e], [(i 1), e], [(i 1), e]]
def p102 : List PA := [.a [(y 1), e, (l [[(i 0)]]), bf, e, (y 1), (i 5), (i 0), bf, (y 1), m3, m4, m5, m6], .c e]
def r102 : List RA := [.c (.c e)]
theorem g102 : vcall (VN tb0) rounds 6 71 p102 = some r102 := by kernel_rfl
theorem s102 : Spec Go.Proofs.Tryz.prog 71 p102 r102 := fact tk0 g102
def p103 : List PA := [.a [(y 1), e, (l [[(i 0)]]), bf, e, (y 1), (i 5), (i 0), bf, (y 1), m3, m4, m5, m6], .c (l [[(i 0)]])]
def r103 : List RA := [.c (.c (l [[(i 1), e]]))]
theorem g103 : vcall (VN tb0) rounds 6 71 p103 = some r103 := by kernel_rfl
theorem s103 : Spec Go.Proofs.Tryz.prog 71 p103 r103 := fact tk0 g103
def m7 : PV := l [[(i 0), (y 1), (i 0), (i 1), (i 0), (i 0), (i 0), (i 0), (i 0), (i 0), (i 0)]]
def m8 : PV := l [[(y 1), (i 0), (i 0), m7, e, e, (l [[bt, (i 9), (i 0), (i 0), (i 0)]]), e, e], [(y 2), (i 0), (i 0), e, (l [[(i (-9223372036854775808))]]), e, e, e, e], [(y 4), (i 0), (i 0), e, (l [[(i (-9223372036854775808))]]), e, e, e, e], [(y 6), (i 0), (i 0), e, e, e, e, e, e]]
def p113 : List PA := [.a [(y 1), e, (l [[(i 0)]]), bf, e, (y 1), (i 5), (i 0), bf, (y 1), m3, m4, m8, m6], .c e]
def r113 : List RA := [.c (.c e)]
theorem g113 : vcall (VN tb0) rounds 6 71 p113 = some r113 := by kernel_rfl
theorem s113 : Spec Go.Proofs.Tryz.prog 71 p113 r113 := fact tk0 g113
def p114 : List PA := [.a [(y 1), e, (l [[(i 0)]]), bf, e, (y 1), (i 5), (i 0), bf, (y 1), m3, m4, m8, m6], .c (l [[(i 0)]])]
def r114 : List RA := [.c (.c (l [[(i 1), e]]))]
theorem g114 : vcall (VN tb0) rounds 6 71 p114 = some r114 := by kernel_rfl
theorem s114 : Spec Go.Proofs.Tryz.prog 71 p114 r114 := fact tk0 g114
def p116 : List PA := [.a [(i 1), e], .a [(y 1), (i 0), (i 1), (i 0), (i 0), (i 0), (i 0), (i 0), (i 0), (i 0)]]
def r116 : List RA := [.a [.c (i 1), .s 154 10 [[(y 1), (i 0), (i 1), (i 0), (i 0), (i 0), (i 0), (i 0), (i 0), (i 0)]]], .c (.c (i 0))]
theorem g116 : vcall (VN tb0) rounds 6 156 p116 = some r116 := by kernel_rfl
theorem s116 : Spec Go.Proofs.Tryz.prog 156 p116 r116 := fact tk0 g116
def m9 : PV := l [[(y 1), (i 0), (i 1), (i 0), (i 0), (i 0), (i 0), (i 0), (i 0), (i 0)]]
def p120 : List PA := [.a [(i 1), m9]]
def r120 : List RA := [.c (.c (i 0))]
theorem g120 : vcall (VN tb0) rounds 6 103 p120 = some r120 := by kernel_rfl
theorem s120 : Spec Go.Proofs.Tryz.prog 103 p120 r120 := fact tk0 g120
def m10 : PV := l [[(y 1), (i 0), (i 0), e, e, e, (l [[bt, (i 9), (i 0), (i 0), (i 0)]]), e, e], [(y 2), (i 0), (i 0), e, (l [[(i (-9223372036854775808))]]), e, e, e, e], [(y 4), (i 0), (i 0), e, (l [[(i (-9223372036854775808))]]), e, e, e, e], [(y 6), (i 0), (i 0), e, e, e, e, e, e]]
def m11 : PV := l [[(i 1), m9], [(i 1), e], [(i 1), e]]
def p122 : List PA := [.a [(y 1), e, (l [[(i 0)]]), bf, e, (y 1), (i 5), (i 0), bf, (y 1), m3, m4, m10, m11], .c e]
def r122 : List RA := [.c (.c e)]
theorem g122 : vcall (VN tb0) rounds 6 71 p122 = some r122 := by kernel_rfl
theorem s122 : Spec Go.Proofs.Tryz.prog 71 p122 r122 := fact tk0 g122
def m12 : PV := l [[(i 1), m9]]
def p123 : List PA := [.a [(y 1), e, (l [[(i 0)]]), bf, e, (y 1), (i 5), (i 0), bf, (y 1), m3, m4, m10, m11], .c (l [[(i 0)]])]
def r123 : List RA := [.c (.c m12)]
theorem g123 : vcall (VN tb0) rounds 6 71 p123 = some r123 := by kernel_rfl
theorem s123 : Spec Go.Proofs.Tryz.prog 71 p123 r123 := fact tk0 g123
def p125 : List PA := [.a [(y 1), e, (l [[(i 0)]]), bf, e, (y 1), (i 5), (i 0), bf, (y 1), m3, m4, m10, m11], .c (l [[(i 1)]])]
def r125 : List RA := [.c (.c (l [[(i 1), e]]))]
theorem g125 : vcall (VN tb0) rounds 6 71 p125 = some r125 := by kernel_rfl
theorem s125 : Spec Go.Proofs.Tryz.prog 71 p125 r125 := fact tk0 g125
def p127 : List PA := [.a [(y 1), e, (l [[(i 0)]]), bf, e, (y 1), (i 5), (i 0), bf, (y 1), m3, m4, m10, m11], .c (l [[(i 2)]])]
def r127 : List RA := [.c (.c (l [[(i 1), e]]))]
theorem g127 : vcall (VN tb0) rounds 6 71 p127 = some r127 := by kernel_rfl
theorem s127 : Spec Go.Proofs.Tryz.prog 71 p127 r127 := fact tk0 g127
def p137 : List PA := [.a [(y 0), e, e, bf, e, (y 0), (i 0), (i 0), bf, (y 0)]]
def r137 : List RA := [.c (.c (i 0)), .c (.c (i 8))]
theorem g137 : vcall (VN tb0) rounds 6 41 p137 = some r137 := by kernel_rfl
theorem s137 : Spec Go.Proofs.Tryz.prog 41 p137 r137 := fact tk0 g137
def m13 : PV := l [[(i 0), (y 2), (i 0), (i 0), (i 0), (i 9), (i 0), (i 0), (i 0), (i 0), (i 0)]]
def m14 : PV := l [[(y 1), (i 0), (i 0), m13, e, e, e, e, e], [(y 2), (i 0), (i 0), e, (l [[(i (-9223372036854775808))]]), e, e, e, e], [(y 4), (i 0), (i 0), e, (l [[(i (-9223372036854775808))]]), e, e, e, e], [(y 6), (i 0), (i 0), e, e, e, e, e, e]]
def p148 : List PA := [.a [(y 1), e, (l [[(i 0)]]), bf, e, (y 1), (i 5), (i 0), bf, (y 1), m3, m4, m14, m11], .c e]
def r148 : List RA := [.c (.c e)]
theorem g148 : vcall (VN tb0) rounds 6 71 p148 = some r148 := by kernel_rfl
theorem s148 : Spec Go.Proofs.Tryz.prog 71 p148 r148 := fact tk0 g148
def p149 : List PA := [.a [(y 1), e, (l [[(i 0)]]), bf, e, (y 1), (i 5), (i 0), bf, (y 1), m3, m4, m14, m11], .c (l [[(i 0)]])]
def r149 : List RA := [.c (.c m12)]
theorem g149 : vcall (VN tb0) rounds 6 71 p149 = some r149 := by kernel_rfl
theorem s149 : Spec Go.Proofs.Tryz.prog 71 p149 r149 := fact tk0 g149
def p151 : List PA := [.a [(y 1), e, (l [[(i 0)]]), bf, e, (y 1), (i 5), (i 0), bf, (y 1), m3, m4, m14, m11], .c (l [[(i 1)]])]
def r151 : List RA := [.c (.c (l [[(i 1), e]]))]
theorem g151 : vcall (VN tb0) rounds 6 71 p151 = some r151 := by kernel_rfl
theorem s151 : Spec Go.Proofs.Tryz.prog 71 p151 r151 := fact tk0 g151
def p152 : List PA := [.a [(y 1), e, (l [[(i 0)]]), bf, e, (y 1), (i 5), (i 0), bf, (y 1), m3, m4, m14, m11], .c (l [[(i 2)]])]
def r152 : List RA := [.c (.c (l [[(i 1), e]]))]
theorem g152 : vcall (VN tb0) rounds 6 71 p152 = some r152 := by kernel_rfl
theorem s152 : Spec Go.Proofs.Tryz.prog 71 p152 r152 := fact tk0 g152
def m15 : PV := l [[(y 1), (i 0), (i 0), m13, e, e, e, e, e], [(y 2), (i 0), (i 0), m7, (l [[(i (-9223372036854775808))]]), e, e, e, e], [(y 4), (i 0), (i 0), e, (l [[(i (-9223372036854775808))]]), e, e, e, e], [(y 6), (i 0), (i 0), e, e, e, e, e, e]]
def p160 : List PA := [.a [(y 1), e, (l [[(i 0)]]), bf, e, (y 1), (i 5), (i 0), bf, (y 1), m3, m4, m15, m6], .c e]
def r160 : List RA := [.c (.c e)]
theorem g160 : vcall (VN tb0) rounds 6 71 p160 = some r160 := by kernel_rfl
theorem s160 : Spec Go.Proofs.Tryz.prog 71 p160 r160 := fact tk0 g160
def p161 : List PA := [.a [(y 1), e, (l [[(i 0)]]), bf, e, (y 1), (i 5), (i 0), bf, (y 1), m3, m4, m15, m6], .c (l [[(i 0)]])]
def r161 : List RA := [.c (.c (l [[(i 1), e]]))]
theorem g161 : vcall (VN tb0) rounds 6 71 p161 = some r161 := by kernel_rfl
theorem s161 : Spec Go.Proofs.Tryz.prog 71 p161 r161 := fact tk0 g161
def p163 : List PA := [.a [(y 1), e, (l [[(i 0)]]), bf, e, (y 1), (i 5), (i 0), bf, (y 1), m3, m4, m15, m6], .c (l [[(i 1)]])]
def r163 : List RA := [.c (.c (l [[(i 1), e]]))]
theorem g163 : vcall (VN tb0) rounds 6 71 p163 = some r163 := by kernel_rfl
theorem s163 : Spec Go.Proofs.Tryz.prog 71 p163 r163 := fact tk0 g163
def p165 : List PA := [.a [(y 1), e, (l [[(i 0)]]), bf, e, (y 1), (i 5), (i 0), bf, (y 1), m3, m4, m15, m6], .c (l [[(i 2)]])]
def r165 : List RA := [.c (.c (l [[(i 1), e]]))]
theorem g165 : vcall (VN tb0) rounds 6 71 p165 = some r165 := by kernel_rfl
theorem s165 : Spec Go.Proofs.Tryz.prog 71 p165 r165 := fact tk0 g165
def p168 : List PA := [.a [(i 1), e], .a [(y 2), (i 0), (i 0), (i 0), (i 9), (i 0), (i 0), (i 0), (i 0), (i 0)]]
def r168 : List RA := [.a [.c (i 1), .s 154 10 [[(y 2), (i 0), (i 0), (i 0), (i 9), (i 0), (i 0), (i 0), (i 0), (i 0)]]], .c (.c (i 0))]
theorem g168 : vcall (VN tb0) rounds 6 156 p168 = some r168 := by kernel_rfl
theorem s168 : Spec Go.Proofs.Tryz.prog 156 p168 r168 := fact tk0 g168
def m16 : PV := l [[(y 2), (i 0), (i 0), (i 0), (i 9), (i 0), (i 0), (i 0), (i 0), (i 0)]]
def p172 : List PA := [.a [(i 1), m16]]
def r172 : List RA := [.c (.c (i 0))]
theorem g172 : vcall (VN tb0) rounds 6 103 p172 = some r172 := by kernel_rfl
theorem s172 : Spec Go.Proofs.Tryz.prog 103 p172 r172 := fact tk0 g172
def m17 : PV := l [[(y 1), (i 0), (i 0), e, e, e, e, e, e], [(y 2), (i 0), (i 0), m7, (l [[(i (-9223372036854775808))]]), e, e, e, e], [(y 4), (i 0), (i 0), e, (l [[(i (-9223372036854775808))]]), e, e, e, e], [(y 6), (i 0), (i 0), e, e, e, e, e, e]]
def m18 : PV := l [[(i 1), m16], [(i 1), e], [(i 1), e]]
def p174 : List PA := [.a [(y 1), e, (l [[(i 0)]]), bf, e, (y 1), (i 5), (i 0), bf, (y 1), m3, m4, m17, m18], .c e]
def r174 : List RA := [.c (.c e)]
theorem g174 : vcall (VN tb0) rounds 6 71 p174 = some r174 := by kernel_rfl
theorem s174 : Spec Go.Proofs.Tryz.prog 71 p174 r174 := fact tk0 g174
def m19 : PV := l [[(i 1), m16]]
def p175 : List PA := [.a [(y 1), e, (l [[(i 0)]]), bf, e, (y 1), (i 5), (i 0), bf, (y 1), m3, m4, m17, m18], .c (l [[(i 0)]])]
def r175 : List RA := [.c (.c m19)]
theorem g175 : vcall (VN tb0) rounds 6 71 p175 = some r175 := by kernel_rfl
theorem s175 : Spec Go.Proofs.Tryz.prog 71 p175 r175 := fact tk0 g175
def p177 : List PA := [.a [(y 1), e, (l [[(i 0)]]), bf, e, (y 1), (i 5), (i 0), bf, (y 1), m3, m4, m17, m18], .c (l [[(i 1)]])]
def r177 : List RA := [.c (.c (l [[(i 1), e]]))]
theorem g177 : vcall (VN tb0) rounds 6 71 p177 = some r177 := by kernel_rfl
theorem s177 : Spec Go.Proofs.Tryz.prog 71 p177 r177 := fact tk0 g177
def p179 : List PA := [.a [(y 1), e, (l [[(i 0)]]), bf, e, (y 1), (i 5), (i 0), bf, (y 1), m3, m4, m17, m18], .c (l [[(i 2)]])]
def r179 : List RA := [.c (.c (l [[(i 1), e]]))]
theorem g179 : vcall (VN tb0) rounds 6 71 p179 = some r179 := by kernel_rfl
theorem s179 : Spec Go.Proofs.Tryz.prog 71 p179 r179 := fact tk0 g179
def m20 : PV := l [[(y 1), (i 0), (i 0), e, e, e, e, e, e], [(y 2), (i 0), (i 0), e, (l [[(i (-9223372036854775808))]]), e, e, e, e], [(y 4), (i 0), (i 0), e, (l [[(i (-9223372036854775808))]]), e, e, e, e], [(y 6), (i 0), (i 0), e, e, e, e, e, e]]
def m21 : PV := l [[(i 1), m16], [(i 1), m9], [(i 1), e]]
def p186 : List PA := [.a [(y 1), e, (l [[(i 0)]]), bf, e, (y 1), (i 5), (i 0), bf, (y 1), m3, m4, m20, m21], .c e]
def r186 : List RA := [.c (.c e)]
theorem g186 : vcall (VN tb0) rounds 6 71 p186 = some r186 := by kernel_rfl
theorem s186 : Spec Go.Proofs.Tryz.prog 71 p186 r186 := fact tk0 g186
def p187 : List PA := [.a [(y 1), e, (l [[(i 0)]]), bf, e, (y 1), (i 5), (i 0), bf, (y 1), m3, m4, m20, m21], .c (l [[(i 0)]])]
def r187 : List RA := [.c (.c m19)]
theorem g187 : vcall (VN tb0) rounds 6 71 p187 = some r187 := by kernel_rfl
theorem s187 : Spec Go.Proofs.Tryz.prog 71 p187 r187 := fact tk0 g187
def p188 : List PA := [.a [(y 1), e, (l [[(i 0)]]), bf, e, (y 1), (i 5), (i 0), bf, (y 1), m3, m4, m20, m21], .c (l [[(i 1)]])]
def r188 : List RA := [.c (.c m12)]
theorem g188 : vcall (VN tb0) rounds 6 71 p188 = some r188 := by kernel_rfl
theorem s188 : Spec Go.Proofs.Tryz.prog 71 p188 r188 := fact tk0 g188
def p190 : List PA := [.a [(y 1), e, (l [[(i 0)]]), bf, e, (y 1), (i 5), (i 0), bf, (y 1), m3, m4, m20, m21], .c (l [[(i 2)]])]
def r190 : List RA := [.c (.c (l [[(i 1), e]]))]
theorem g190 : vcall (VN tb0) rounds 6 71 p190 = some r190 := by kernel_rfl
theorem s190 : Spec Go.Proofs.Tryz.prog 71 p190 r190 := fact tk0 g190
def m22 : PV := l [[(y 1), (i 0), (i 0), e, e, e, e, e, e], [(y 2), (i 0), (i 0), m13, (l [[(i 9)]]), e, e, e, e], [(y 4), (i 0), (i 0), e, (l [[(i (-9223372036854775808))]]), e, e, e, e], [(y 6), (i 0), (i 0), e, e, e, e, e, e]]
def m23 : PV := l [[(i 1), e], [(i 1), m9], [(i 1), e]]
def p199 : List PA := [.a [(y 1), e, (l [[(i 0)]]), bf, e, (y 1), (i 5), (i 0), bf, (y 1), m3, m4, m22, m23], .c e]
def r199 : List RA := [.c (.c e)]
theorem g199 : vcall (VN tb0) rounds 6 71 p199 = some r199 := by kernel_rfl
theorem s199 : Spec Go.Proofs.Tryz.prog 71 p199 r199 := fact tk0 g199
def p200 : List PA := [.a [(y 1), e, (l [[(i 0)]]), bf, e, (y 1), (i 5), (i 0), bf, (y 1), m3, m4, m22, m23], .c (l [[(i 0)]])]
def r200 : List RA := [.c (.c (l [[(i 1), e]]))]
theorem g200 : vcall (VN tb0) rounds 6 71 p200 = some r200 := by kernel_rfl
theorem s200 : Spec Go.Proofs.Tryz.prog 71 p200 r200 := fact tk0 g200
def p202 : List PA := [.a [(y 1), e, (l [[(i 0)]]), bf, e, (y 1), (i 5), (i 0), bf, (y 1), m3, m4, m22, m23], .c (l [[(i 1)]])]
def r202 : List RA := [.c (.c m12)]
theorem g202 : vcall (VN tb0) rounds 6 71 p202 = some r202 := by kernel_rfl
theorem s202 : Spec Go.Proofs.Tryz.prog 71 p202 r202 := fact tk0 g202
def p204 : List PA := [.a [(y 1), e, (l [[(i 0)]]), bf, e, (y 1), (i 5), (i 0), bf, (y 1), m3, m4, m22, m23], .c (l [[(i 2)]])]
def r204 : List RA := [.c (.c (l [[(i 1), e]]))]
theorem g204 : vcall (VN tb0) rounds 6 71 p204 = some r204 := by kernel_rfl
theorem s204 : Spec Go.Proofs.Tryz.prog 71 p204 r204 := fact tk0 g204
def p208 : List PA := [.a [(i 0), (i 0), (i 5), (i 1), (i 0), (i 0), (i 0), (i 0), (i 0), (i 0), (i 0)]]
def r208 : List RA := [.c (.c bt)]
theorem g208 : vcall (VN tb0) rounds 6 231 p208 = some r208 := by kernel_rfl
theorem s208 : Spec Go.Proofs.Tryz.prog 231 p208 r208 := fact tk0 g208
def m24 : PV := l [[(i 0), (i 0), (i 5), (i 1), (i 0), (i 0), (i 0), (i 0), (i 0), (i 0), (i 0)]]
def m25 : PV := l [[(y 1), (i 0), (i 0), e, e, e, e, e, e], [(y 2), (i 0), (i 0), m13, (l [[(i 9)]]), e, e, e, e], [(y 4), (i 0), (i 0), e, (l [[(i (-9223372036854775808))]]), m24, e, e, e], [(y 6), (i 0), (i 0), e, e, e, e, e, e]]
def p213 : List PA := [.a [(y 1), e, (l [[(i 0)]]), bf, e, (y 1), (i 5), (i 0), bf, (y 1), m3, m4, m25, m6], .c e]
def r213 : List RA := [.c (.c e)]
theorem g213 : vcall (VN tb0) rounds 6 71 p213 = some r213 := by kernel_rfl
theorem s213 : Spec Go.Proofs.Tryz.prog 71 p213 r213 := fact tk0 g213
def p214 : List PA := [.a [(y 1), e, (l [[(i 0)]]), bf, e, (y 1), (i 5), (i 0), bf, (y 1), m3, m4, m25, m6], .c (l [[(i 0)]])]
def r214 : List RA := [.c (.c (l [[(i 1), e]]))]
theorem g214 : vcall (VN tb0) rounds 6 71 p214 = some r214 := by kernel_rfl
theorem s214 : Spec Go.Proofs.Tryz.prog 71 p214 r214 := fact tk0 g214
def p215 : List PA := [.a [(y 1), e, (l [[(i 0)]]), bf, e, (y 1), (i 5), (i 0), bf, (y 1), m3, m4, m25, m6], .c (l [[(i 1)]])]
def r215 : List RA := [.c (.c (l [[(i 1), e]]))]
theorem g215 : vcall (VN tb0) rounds 6 71 p215 = some r215 := by kernel_rfl
theorem s215 : Spec Go.Proofs.Tryz.prog 71 p215 r215 := fact tk0 g215
def p217 : List PA := [.a [(y 1), e, (l [[(i 0)]]), bf, e, (y 1), (i 5), (i 0), bf, (y 1), m3, m4, m25, m6], .c (l [[(i 2)]])]
def r217 : List RA := [.c (.c (l [[(i 1), e]]))]
theorem g217 : vcall (VN tb0) rounds 6 71 p217 = some r217 := by kernel_rfl
theorem s217 : Spec Go.Proofs.Tryz.prog 71 p217 r217 := fact tk0 g217
def m26 : PV := l [[(y 1), (i 0), (i 0), e, e, e, e, e, e], [(y 2), (i 0), (i 0), e, (l [[(i 9)]]), e, e, e, e], [(y 4), (i 0), (i 0), e, (l [[(i (-9223372036854775808))]]), m24, e, e, e], [(y 6), (i 0), (i 0), e, e, e, e, e, e]]
def m27 : PV := l [[(i 1), e], [(i 1), m16], [(i 1), e]]
def p225 : List PA := [.a [(y 1), e, (l [[(i 0)]]), bf, e, (y 1), (i 5), (i 0), bf, (y 1), m3, m4, m26, m27], .c e]
def r225 : List RA := [.c (.c e)]
theorem g225 : vcall (VN tb0) rounds 6 71 p225 = some r225 := by kernel_rfl
theorem s225 : Spec Go.Proofs.Tryz.prog 71 p225 r225 := fact tk0 g225
def p226 : List PA := [.a [(y 1), e, (l [[(i 0)]]), bf, e, (y 1), (i 5), (i 0), bf, (y 1), m3, m4, m26, m27], .c (l [[(i 0)]])]
def r226 : List RA := [.c (.c (l [[(i 1), e]]))]
theorem g226 : vcall (VN tb0) rounds 6 71 p226 = some r226 := by kernel_rfl
theorem s226 : Spec Go.Proofs.Tryz.prog 71 p226 r226 := fact tk0 g226
def p227 : List PA := [.a [(y 1), e, (l [[(i 0)]]), bf, e, (y 1), (i 5), (i 0), bf, (y 1), m3, m4, m26, m27], .c (l [[(i 1)]])]
def r227 : List RA := [.c (.c m19)]
theorem g227 : vcall (VN tb0) rounds 6 71 p227 = some r227 := by kernel_rfl
theorem s227 : Spec Go.Proofs.Tryz.prog 71 p227 r227 := fact tk0 g227
def p229 : List PA := [.a [(y 1), e, (l [[(i 0)]]), bf, e, (y 1), (i 5), (i 0), bf, (y 1), m3, m4, m26, m27], .c (l [[(i 2)]])]
def r229 : List RA := [.c (.c (l [[(i 1), e]]))]
theorem g229 : vcall (VN tb0) rounds 6 71 p229 = some r229 := by kernel_rfl
theorem s229 : Spec Go.Proofs.Tryz.prog 71 p229 r229 := fact tk0 g229
def m28 : PV := l [[(i 0), (y 3), (i 0), (i 0), (i 0), (i 0), (i 0), (i 0), (i 5), (i 1), (i 0)]]
def m29 : PV := l [[(y 1), (i 0), (i 0), e, e, e, e, e, e], [(y 2), (i 0), (i 0), e, (l [[(i 9)]]), e, e, e, e], [(y 4), (i 0), (i 0), m28, (l [[(i 9)]]), e, e, e, e], [(y 6), (i 0), (i 0), e, e, e, e, e, e]]
def p239 : List PA := [.a [(y 1), e, (l [[(i 0)]]), bf, e, (y 1), (i 5), (i 0), bf, (y 1), m3, m4, m29, m6], .c e]
def r239 : List RA := [.c (.c e)]
theorem g239 : vcall (VN tb0) rounds 6 71 p239 = some r239 := by kernel_rfl
theorem s239 : Spec Go.Proofs.Tryz.prog 71 p239 r239 := fact tk0 g239
def p240 : List PA := [.a [(y 1), e, (l [[(i 0)]]), bf, e, (y 1), (i 5), (i 0), bf, (y 1), m3, m4, m29, m6], .c (l [[(i 0)]])]
def r240 : List RA := [.c (.c (l [[(i 1), e]]))]
theorem g240 : vcall (VN tb0) rounds 6 71 p240 = some r240 := by kernel_rfl
theorem s240 : Spec Go.Proofs.Tryz.prog 71 p240 r240 := fact tk0 g240
def p241 : List PA := [.a [(y 1), e, (l [[(i 0)]]), bf, e, (y 1), (i 5), (i 0), bf, (y 1), m3, m4, m29, m6], .c (l [[(i 1)]])]
def r241 : List RA := [.c (.c (l [[(i 1), e]]))]
theorem g241 : vcall (VN tb0) rounds 6 71 p241 = some r241 := by kernel_rfl
theorem s241 : Spec Go.Proofs.Tryz.prog 71 p241 r241 := fact tk0 g241
def p243 : List PA := [.a [(y 1), e, (l [[(i 0)]]), bf, e, (y 1), (i 5), (i 0), bf, (y 1), m3, m4, m29, m6], .c (l [[(i 2)]])]
def r243 : List RA := [.c (.c (l [[(i 1), e]]))]
theorem g243 : vcall (VN tb0) rounds 6 71 p243 = some r243 := by kernel_rfl
theorem s243 : Spec Go.Proofs.Tryz.prog 71 p243 r243 := fact tk0 g243
def p247 : List PA := [.a [(i 1), e], .a [(y 3), (i 0), (i 0), (i 0), (i 0), (i 0), (i 0), (i 5), (i 1), (i 0)]]
def r247 : List RA := [.a [.c (i 1), .s 154 10 [[(y 3), (i 0), (i 0), (i 0), (i 0), (i 0), (i 0), (i 5), (i 1), (i 0)]]], .c (.c (i 0))]
theorem g247 : vcall (VN tb0) rounds 6 156 p247 = some r247 := by kernel_rfl
theorem s247 : Spec Go.Proofs.Tryz.prog 156 p247 r247 := fact tk0 g247
def m30 : PV := l [[(y 3), (i 0), (i 0), (i 0), (i 0), (i 0), (i 0), (i 5), (i 1), (i 0)]]
def p251 : List PA := [.a [(i 1), m30]]
def r251 : List RA := [.c (.c (i 0))]
theorem g251 : vcall (VN tb0) rounds 6 103 p251 = some r251 := by kernel_rfl
theorem s251 : Spec Go.Proofs.Tryz.prog 103 p251 r251 := fact tk0 g251
def m31 : PV := l [[(y 1), (i 0), (i 0), e, e, e, e, e, e], [(y 2), (i 0), (i 0), e, (l [[(i 9)]]), e, e, e, e], [(y 4), (i 0), (i 0), e, (l [[(i 9)]]), e, e, e, e], [(y 6), (i 0), (i 0), e, e, e, e, e, e]]
def m32 : PV := l [[(i 1), e], [(i 1), e], [(i 1), m30]]
def p253 : List PA := [.a [(y 1), e, (l [[(i 0)]]), bf, e, (y 1), (i 5), (i 0), bf, (y 1), m3, m4, m31, m32], .c e]
def r253 : List RA := [.c (.c e)]
theorem g253 : vcall (VN tb0) rounds 6 71 p253 = some r253 := by kernel_rfl
theorem s253 : Spec Go.Proofs.Tryz.prog 71 p253 r253 := fact tk0 g253
def p254 : List PA := [.a [(y 1), e, (l [[(i 0)]]), bf, e, (y 1), (i 5), (i 0), bf, (y 1), m3, m4, m31, m32], .c (l [[(i 0)]])]
def r254 : List RA := [.c (.c (l [[(i 1), e]]))]
theorem g254 : vcall (VN tb0) rounds 6 71 p254 = some r254 := by kernel_rfl
theorem s254 : Spec Go.Proofs.Tryz.prog 71 p254 r254 := fact tk0 g254
def p255 : List PA := [.a [(y 1), e, (l [[(i 0)]]), bf, e, (y 1), (i 5), (i 0), bf, (y 1), m3, m4, m31, m32], .c (l [[(i 1)]])]
def r255 : List RA := [.c (.c (l [[(i 1), e]]))]
theorem g255 : vcall (VN tb0) rounds 6 71 p255 = some r255 := by kernel_rfl
theorem s255 : Spec Go.Proofs.Tryz.prog 71 p255 r255 := fact tk0 g255
def m33 : PV := l [[(i 1), m30]]
def p256 : List PA := [.a [(y 1), e, (l [[(i 0)]]), bf, e, (y 1), (i 5), (i 0), bf, (y 1), m3, m4, m31, m32], .c (l [[(i 2)]])]
def r256 : List RA := [.c (.c m33)]
theorem g256 : vcall (VN tb0) rounds 6 71 p256 = some r256 := by kernel_rfl
theorem s256 : Spec Go.Proofs.Tryz.prog 71 p256 r256 := fact tk0 g256
def m34 : PV := l [[(i 0), (i 0), (i 5), (i 1), (i 0)]]
def m35 : PV := l [[(y 1), (i 0), (i 0), e, e, e, e, e, e], [(y 2), (i 0), (i 0), e, (l [[(i 9)]]), e, e, e, e], [(y 4), (i 0), (i 0), e, (l [[(i 9)]]), e, e, e, e], [(y 6), (i 0), (i 0), e, e, e, e, m34, e]]
def p266 : List PA := [.a [(y 1), e, (l [[(i 0)]]), bf, e, (y 1), (i 5), (i 0), bf, (y 1), m3, m4, m35, m6], .c e]
def r266 : List RA := [.c (.c e)]
theorem g266 : vcall (VN tb0) rounds 6 71 p266 = some r266 := by kernel_rfl
theorem s266 : Spec Go.Proofs.Tryz.prog 71 p266 r266 := fact tk0 g266
def p267 : List PA := [.a [(y 1), e, (l [[(i 0)]]), bf, e, (y 1), (i 5), (i 0), bf, (y 1), m3, m4, m35, m6], .c (l [[(i 0)]])]
def r267 : List RA := [.c (.c (l [[(i 1), e]]))]
theorem g267 : vcall (VN tb0) rounds 6 71 p267 = some r267 := by kernel_rfl
theorem s267 : Spec Go.Proofs.Tryz.prog 71 p267 r267 := fact tk0 g267
def p268 : List PA := [.a [(y 1), e, (l [[(i 0)]]), bf, e, (y 1), (i 5), (i 0), bf, (y 1), m3, m4, m35, m6], .c (l [[(i 1)]])]
def r268 : List RA := [.c (.c (l [[(i 1), e]]))]
theorem g268 : vcall (VN tb0) rounds 6 71 p268 = some r268 := by kernel_rfl
theorem s268 : Spec Go.Proofs.Tryz.prog 71 p268 r268 := fact tk0 g268
def p269 : List PA := [.a [(y 1), e, (l [[(i 0)]]), bf, e, (y 1), (i 5), (i 0), bf, (y 1), m3, m4, m35, m6], .c (l [[(i 2)]])]
def r269 : List RA := [.c (.c (l [[(i 1), e]]))]
theorem g269 : vcall (VN tb0) rounds 6 71 p269 = some r269 := by kernel_rfl
theorem s269 : Spec Go.Proofs.Tryz.prog 71 p269 r269 := fact tk0 g269
def p275 : List PA := [.a [(y 1), e, (l [[(i 0)]]), bf, e, (y 1), (i 5), (i 0), bf, (y 1), m3, m4, m5, m6], .c (l [[(i 1)]])]
def r275 : List RA := [.c (.c (l [[(i 1), e]]))]
theorem g275 : vcall (VN tb0) rounds 6 71 p275 = some r275 := by kernel_rfl
theorem s275 : Spec Go.Proofs.Tryz.prog 71 p275 r275 := fact tk0 g275
def p277 : List PA := [.a [(y 1), e, (l [[(i 0)]]), bf, e, (y 1), (i 5), (i 0), bf, (y 1), m3, m4, m5, m6], .c (l [[(i 2)]])]
def r277 : List RA := [.c (.c (l [[(i 1), e]]))]
theorem g277 : vcall (VN tb0) rounds 6 71 p277 = some r277 := by kernel_rfl
theorem s277 : Spec Go.Proofs.Tryz.prog 71 p277 r277 := fact tk0 g277
def tb1 : List (FuncId × List PA × List RA) := [(134, p0, r0), (134, p1, r1), (134, p2, r2), (134, p3, r3), (134, p4, r4), (134, p5, r5), (173, p7, r7), (134, p8, r8), (134, p9, r9), (134, p10, r10), (134, p11, r11), (173, p13, r13), (134, p17, r17), (134, p21, r21), (134, p25, r25), (134, p26, r26), (134, p27, r27), (173, p29, r29), (134, p30, r30), (173, p32, r32), (134, p33, r33), (134, p34, r34), (134, p35, r35), (173, p37, r37), (134, p38, r38), (173, p40, r40), (134, p41, r41), (252, p43, r43), (254, p44, r44), (253, p45, r45), (290, p47, r47), (224, p51, r51), (224, p52, r52), (224, p53, r53), (224, p54, r54), (224, p55, r55), (224, p56, r56), (224, p57, r57), (224, p58, r58), (224, p59, r59), (224, p60, r60), (224, p61, r61), (224, p62, r62), (41, p65, r65), (93, p67, r67), (147, p69, r69), (47, p71, r71), (49, p72, r72), (51, p73, r73), (54, p74, r74), (187, p77, r77), (187, p78, r78), (187, p79, r79), (187, p80, r80), (187, p81, r81), (103, p84, r84), (189, p85, r85), (189, p86, r86), (72, p88, r88), (109, p89, r89), (189, p90, r90), (72, p92, r92), (109, p93, r93), (189, p94, r94), (72, p96, r96), (109, p97, r97), (72, p99, r99), (109, p100, r100), (71, p102, r102), (71, p103, r103), (71, p113, r113), (71, p114, r114), (156, p116, r116), (103, p120, r120), (71, p122, r122), (71, p123, r123), (71, p125, r125), (71, p127, r127), (41, p137, r137), (71, p148, r148), (71, p149, r149), (71, p151, r151), (71, p152, r152), (71, p160, r160), (71, p161, r161), (71, p163, r163), (71, p165, r165), (156, p168, r168), (103, p172, r172), (71, p174, r174), (71, p175, r175), (71, p177, r177), (71, p179, r179), (71, p186, r186), (71, p187, r187), (71, p188, r188), (71, p190, r190), (71, p199, r199), (71, p200, r200), (71, p202, r202), (71, p204, r204), (231, p208, r208), (71, p213, r213), (71, p214, r214), (71, p215, r215), (71, p217, r217), (71, p225, r225), (71, p226, r226), (71, p227, r227), (71, p229, r229), (71, p239, r239), (71, p240, r240), (71, p241, r241), (71, p243, r243), (156, p247, r247), (103, p251, r251), (71, p253, r253), (71, p254, r254), (71, p255, r255), (71, p256, r256), (71, p266, r266), (71, p267, r267), (71, p268, r268), (71, p269, r269), (71, p275, r275), (71, p277, r277)] ++ tb0
theorem tk1 : TOK Go.Proofs.Tryz.prog tb1 := TOK.app (l := [(134, p0, r0), (134, p1, r1), (134, p2, r2), (134, p3, r3), (134, p4, r4), (134, p5, r5), (173, p7, r7), (134, p8, r8), (134, p9, r9), (134, p10, r10), (134, p11, r11), (173, p13, r13), (134, p17, r17), (134, p21, r21), (134, p25, r25), (134, p26, r26), (134, p27, r27), (173, p29, r29), (134, p30, r30), (173, p32, r32), (134, p33, r33), (134, p34, r34), (134, p35, r35), (173, p37, r37), (134, p38, r38), (173, p40, r40), (134, p41, r41), (252, p43, r43), (254, p44, r44), (253, p45, r45), (290, p47, r47), (224, p51, r51), (224, p52, r52), (224, p53, r53), (224, p54, r54), (224, p55, r55), (224, p56, r56), (224, p57, r57), (224, p58, r58), (224, p59, r59), (224, p60, r60), (224, p61, r61), (224, p62, r62), (41, p65, r65), (93, p67, r67), (147, p69, r69), (47, p71, r71), (49, p72, r72), (51, p73, r73), (54, p74, r74), (187, p77, r77), (187, p78, r78), (187, p79, r79), (187, p80, r80), (187, p81, r81), (103, p84, r84), (189, p85, r85), (189, p86, r86), (72, p88, r88), (109, p89, r89), (189, p90, r90), (72, p92, r92), (109, p93, r93), (189, p94, r94), (72, p96, r96), (109, p97, r97), (72, p99, r99), (109, p100, r100), (71, p102, r102), (71, p103, r103), (71, p113, r113), (71, p114, r114), (156, p116, r116), (103, p120, r120), (71, p122, r122), (71, p123, r123), (71, p125, r125), (71, p127, r127), (41, p137, r137), (71, p148, r148), (71, p149, r149), (71, p151, r151), (71, p152, r152), (71, p160, r160), (71, p161, r161), (71, p163, r163), (71, p165, r165), (156, p168, r168), (103, p172, r172), (71, p174, r174), (71, p175, r175), (71, p177, r177), (71, p179, r179), (71, p186, r186), (71, p187, r187), (71, p188, r188), (71, p190, r190), (71, p199, r199), (71, p200, r200), (71, p202, r202), (71, p204, r204), (231, p208, r208), (71, p213, r213), (71, p214, r214), (71, p215, r215), (71, p217, r217), (71, p225, r225), (71, p226, r226), (71, p227, r227), (71, p229, r229), (71, p239, r239), (71, p240, r240), (71, p241, r241), (71, p243, r243), (156, p247, r247), (103, p251, r251), (71, p253, r253), (71, p254, r254), (71, p255, r255), (71, p256, r256), (71, p266, r266), (71, p267, r267), (71, p268, r268), (71, p269, r269), (71, p275, r275), (71, p277, r277)]) ⟨s0, s1, s2, s3, s4, s5, s7, s8, s9, s10, s11, s13, s17, s21, s25, s26, s27, s29, s30, s32, s33, s34, s35, s37, s38, s40, s41, s43, s44, s45, s47, s51, s52, s53, s54, s55, s56, s57, s58, s59, s60, s61, s62, s65, s67, s69, s71, s72, s73, s74, s77, s78, s79, s80, s81, s84, s85, s86, s88, s89, s90, s92, s93, s94, s96, s97, s99, s100, s102, s103, s113, s114, s116, s120, s122, s123, s125, s127, s137, s148, s149, s151, s152, s160, s161, s163, s165, s168, s172, s174, s175, s177, s179, s186, s187, s188, s190, s199, s200, s202, s204, s208, s213, s214, s215, s217, s225, s226, s227, s229, s239, s240, s241, s243, s247, s251, s253, s254, s255, s256, s266, s267, s268, s269, s275, s277, trivial⟩ tk0
def p6 : List PA := [.c (s [115, 101, 108, 101, 99, 116, 32, 99, 111, 117, 110, 116, 40, 42, 41, 32, 102, 114, 111, 109, 32, 97, 32, 119, 105, 110, 100, 111, 119, 32, 116, 117, 109, 98, 108, 101, 32, 53])]
def r6 : List RA := [.a [.c (y 2), .c (s [115, 101, 108, 101, 99, 116]), .c (i 0)]]
theorem g6 : vcall (VN tb1) rounds 6 135 p6 = some r6 := by kernel_rfl
theorem s6 : Spec Go.Proofs.Tryz.prog 135 p6 r6 := fact tk1 g6
def p12 : List PA := [.c (s [99, 111, 117, 110, 116, 40, 42, 41, 32, 102, 114, 111, 109, 32, 97, 32, 119, 105, 110, 100, 111, 119, 32, 116, 117, 109, 98, 108, 101, 32, 53])]
def r12 : List RA := [.a [.c (y 2), .c (s [99, 111, 117, 110, 116]), .c (i 0)]]
theorem g12 : vcall (VN tb1) rounds 6 135 p12 = some r12 := by kernel_rfl
theorem s12 : Spec Go.Proofs.Tryz.prog 135 p12 r12 := fact tk1 g12
def p14 : List PA := [.c (s [40, 42, 41, 32, 102, 114, 111, 109, 32, 97, 32, 119, 105, 110, 100, 111, 119, 32, 116, 117, 109, 98, 108, 101, 32, 53]), .c (i 0)]
def r14 : List RA := [.c (.c (i 1)), .c (.c (i 0))]
theorem g14 : vcall (VN tb1) rounds 6 171 p14 = some r14 := by kernel_rfl
theorem s14 : Spec Go.Proofs.Tryz.prog 171 p14 r14 := fact tk1 g14
def p16 : List PA := [.c (s [40]), .c (i 0)]
def r16 : List RA := [.c (.c (i 1)), .c (.c (i 0))]
theorem g16 : vcall (VN tb1) rounds 6 171 p16 = some r16 := by kernel_rfl
theorem s16 : Spec Go.Proofs.Tryz.prog 171 p16 r16 := fact tk1 g16
def p18 : List PA := [.c (s [42, 41, 32, 102, 114, 111, 109, 32, 97, 32, 119, 105, 110, 100, 111, 119, 32, 116, 117, 109, 98, 108, 101, 32, 53]), .c (i 0)]
def r18 : List RA := [.c (.c (i 1)), .c (.c (i 0))]
theorem g18 : vcall (VN tb1) rounds 6 171 p18 = some r18 := by kernel_rfl
theorem s18 : Spec Go.Proofs.Tryz.prog 171 p18 r18 := fact tk1 g18
def p20 : List PA := [.c (s [42]), .c (i 0)]
def r20 : List RA := [.c (.c (i 1)), .c (.c (i 0))]
theorem g20 : vcall (VN tb1) rounds 6 171 p20 = some r20 := by kernel_rfl
theorem s20 : Spec Go.Proofs.Tryz.prog 171 p20 r20 := fact tk1 g20
def p22 : List PA := [.c (s [41, 32, 102, 114, 111, 109, 32, 97, 32, 119, 105, 110, 100, 111, 119, 32, 116, 117, 109, 98, 108, 101, 32, 53]), .c (i 0)]
def r22 : List RA := [.c (.c (i 1)), .c (.c (i 0))]
theorem g22 : vcall (VN tb1) rounds 6 171 p22 = some r22 := by kernel_rfl
theorem s22 : Spec Go.Proofs.Tryz.prog 171 p22 r22 := fact tk1 g22
def p24 : List PA := [.c (s [41]), .c (i 0)]
def r24 : List RA := [.c (.c (i 1)), .c (.c (i 0))]
theorem g24 : vcall (VN tb1) rounds 6 171 p24 = some r24 := by kernel_rfl
theorem s24 : Spec Go.Proofs.Tryz.prog 171 p24 r24 := fact tk1 g24
def p28 : List PA := [.c (s [102, 114, 111, 109, 32, 97, 32, 119, 105, 110, 100, 111, 119, 32, 116, 117, 109, 98, 108, 101, 32, 53])]
def r28 : List RA := [.a [.c (y 2), .c (s [102, 114, 111, 109]), .c (i 0)]]
theorem g28 : vcall (VN tb1) rounds 6 135 p28 = some r28 := by kernel_rfl
theorem s28 : Spec Go.Proofs.Tryz.prog 135 p28 r28 := fact tk1 g28
def p31 : List PA := [.c (s [97, 32, 119, 105, 110, 100, 111, 119, 32, 116, 117, 109, 98, 108, 101, 32, 53])]
def r31 : List RA := [.a [.c (y 2), .c (s [97]), .c (i 0)]]
theorem g31 : vcall (VN tb1) rounds 6 135 p31 = some r31 := by kernel_rfl
theorem s31 : Spec Go.Proofs.Tryz.prog 135 p31 r31 := fact tk1 g31
def p36 : List PA := [.c (s [119, 105, 110, 100, 111, 119, 32, 116, 117, 109, 98, 108, 101, 32, 53])]
def r36 : List RA := [.a [.c (y 2), .c (s [119, 105, 110, 100, 111, 119]), .c (i 0)]]
theorem g36 : vcall (VN tb1) rounds 6 135 p36 = some r36 := by kernel_rfl
theorem s36 : Spec Go.Proofs.Tryz.prog 135 p36 r36 := fact tk1 g36
def p39 : List PA := [.c (s [116, 117, 109, 98, 108, 101, 32, 53])]
def r39 : List RA := [.a [.c (y 2), .c (s [116, 117, 109, 98, 108, 101]), .c (i 0)]]
theorem g39 : vcall (VN tb1) rounds 6 135 p39 = some r39 := by kernel_rfl
theorem s39 : Spec Go.Proofs.Tryz.prog 135 p39 r39 := fact tk1 g39
def p42 : List PA := [.c (s [53])]
def r42 : List RA := [.a [.c (y 1), .c (s [53]), .c (i 0)]]
theorem g42 : vcall (VN tb1) rounds 6 135 p42 = some r42 := by kernel_rfl
theorem s42 : Spec Go.Proofs.Tryz.prog 135 p42 r42 := fact tk1 g42
def p46 : List PA := [.c (s [53]), .c (s [48, 49, 50, 51, 52, 53, 54, 55, 56, 57])]
def r46 : List RA := [.c (.c (s []))]
theorem g46 : vcall (VN tb1) rounds 6 218 p46 = some r46 := by kernel_rfl
theorem s46 : Spec Go.Proofs.Tryz.prog 218 p46 r46 := fact tk1 g46
def p48 : List PA := [.c (s [53]), .c (i 10), .c (i 64)]
def r48 : List RA := [.c (.c (i 5)), .c (.e false)]
theorem g48 : vcall (VN tb1) rounds 6 257 p48 = some r48 := by kernel_rfl
theorem s48 : Spec Go.Proofs.Tryz.prog 257 p48 r48 := fact tk1 g48
def p68 : List PA := [.a [(y 1), e, (l [[(i 0)]]), bf, e, (y 1), (i 5), (i 0), bf, (y 1)]]
def r68 : List RA := [.a [.c m0, .c (y 1), .c e, .c (l [[(i 0)]]), .c bf, .c e, .c (y 1), .c (i 5), .c (i 0), .c bf, .c (y 1)], .c (.c (i 0))]
theorem g68 : vcall (VN tb1) rounds 6 43 p68 = some r68 := by kernel_rfl
theorem s68 : Spec Go.Proofs.Tryz.prog 43 p68 r68 := fact tk1 g68
def p70 : List PA := [.a [m0, (y 1), e, (l [[(i 0)]]), bf, e, (y 1), (i 5), (i 0), bf, (y 1)], .c (i 1), .c (i 1)]
def r70 : List RA := [.a [.c m3, .c m4], .c (.c (i 0))]
theorem g70 : vcall (VN tb1) rounds 6 44 p70 = some r70 := by kernel_rfl
theorem s70 : Spec Go.Proofs.Tryz.prog 44 p70 r70 := fact tk1 g70
def p82 : List PA := [.a [m3, m4]]
def r82 : List RA := [.c (.c bt)]
theorem g82 : vcall (VN tb1) rounds 6 151 p82 = some r82 := by kernel_rfl
theorem s82 : Spec Go.Proofs.Tryz.prog 151 p82 r82 := fact tk1 g82
def p87 : List PA := [.a [(y 1), (i 0), (i 0), e, e, e, m1, e, e]]
def r87 : List RA := [.c (.c (i 0))]
theorem g87 : vcall (VN tb1) rounds 6 153 p87 = some r87 := by kernel_rfl
theorem s87 : Spec Go.Proofs.Tryz.prog 153 p87 r87 := fact tk1 g87
def p91 : List PA := [.a [(y 2), (i 0), (i 0), e, (l [[(i (-9223372036854775808))]]), e, e, e, e]]
def r91 : List RA := [.c (.c (i 0))]
theorem g91 : vcall (VN tb1) rounds 6 153 p91 = some r91 := by kernel_rfl
theorem s91 : Spec Go.Proofs.Tryz.prog 153 p91 r91 := fact tk1 g91
def p95 : List PA := [.a [(y 4), (i 0), (i 0), e, (l [[(i (-9223372036854775808))]]), e, e, e, e]]
def r95 : List RA := [.c (.c (i 0))]
theorem g95 : vcall (VN tb1) rounds 6 153 p95 = some r95 := by kernel_rfl
theorem s95 : Spec Go.Proofs.Tryz.prog 153 p95 r95 := fact tk1 g95
def p98 : List PA := [.a [(y 6), (i 0), (i 0), e, e, e, e, e, e]]
def r98 : List RA := [.c (.c (i 0))]
theorem g98 : vcall (VN tb1) rounds 6 153 p98 = some r98 := by kernel_rfl
theorem s98 : Spec Go.Proofs.Tryz.prog 153 p98 r98 := fact tk1 g98
def p105 : List PA := [.a [(y 1), (i 0), (i 0), e, e, e, (l [[bt, (i 9), (i 0), (i 0), (i 0)]]), e, e]]
def r105 : List RA := [.c (.c (i 0))]
theorem g105 : vcall (VN tb1) rounds 6 153 p105 = some r105 := by kernel_rfl
theorem s105 : Spec Go.Proofs.Tryz.prog 153 p105 r105 := fact tk1 g105
def p111 : List PA := [.a [(y 1), (i 0), (i 0), m7, e, e, (l [[bt, (i 9), (i 0), (i 0), (i 0)]]), e, e]]
def r111 : List RA := [.c (.c (i 0))]
theorem g111 : vcall (VN tb1) rounds 6 153 p111 = some r111 := by kernel_rfl
theorem s111 : Spec Go.Proofs.Tryz.prog 153 p111 r111 := fact tk1 g111
def p138 : List PA := [.a [(y 0), e, e, bf, e, (y 0), (i 0), (i 0), bf, (y 0), e, e, e, e]]
def r138 : List RA := [.c (.c (i 8))]
theorem g138 : vcall (VN tb1) rounds 6 58 p138 = some r138 := by kernel_rfl
theorem s138 : Spec Go.Proofs.Tryz.prog 58 p138 r138 := fact tk1 g138
def p143 : List PA := [.a [(y 1), (i 0), (i 0), e, e, e, e, e, e]]
def r143 : List RA := [.c (.c (i 0))]
theorem g143 : vcall (VN tb1) rounds 6 153 p143 = some r143 := by kernel_rfl
theorem s143 : Spec Go.Proofs.Tryz.prog 153 p143 r143 := fact tk1 g143
def p146 : List PA := [.a [(y 1), (i 0), (i 0), m13, e, e, e, e, e]]
def r146 : List RA := [.c (.c (i 0))]
theorem g146 : vcall (VN tb1) rounds 6 153 p146 = some r146 := by kernel_rfl
theorem s146 : Spec Go.Proofs.Tryz.prog 153 p146 r146 := fact tk1 g146
def p158 : List PA := [.a [(y 2), (i 0), (i 0), m7, (l [[(i (-9223372036854775808))]]), e, e, e, e]]
def r158 : List RA := [.c (.c (i 0))]
theorem g158 : vcall (VN tb1) rounds 6 153 p158 = some r158 := by kernel_rfl
theorem s158 : Spec Go.Proofs.Tryz.prog 153 p158 r158 := fact tk1 g158
end Tn.En
