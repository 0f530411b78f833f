import Derived.Test.YtcignakdmepfmaaGreatDoorBo1
/- Closed facts of one run, each by the kernel. -/
set_option linter.unusedVariables false
namespace Tn.Bo
open Go Go.Abs Tn
def p66 : List PA := [.c (s [108, 97, 116, 101])]
def r66 : List RA := [.c (.c bt)]
theorem g66 : vcall (VN tb0) rounds 6 173 p66 = some r66 := by kernel_rfl
theorem s66 : Spec Go.Proofs.Tryz.prog 173 p66 r66 := fact tk0 g66
def p68 : List PA := [.c (s [115, 105, 100, 101])]
def r68 : List RA := [.c (.c bt)]
theorem g68 : vcall (VN tb0) rounds 6 173 p68 = some r68 := by kernel_rfl
theorem s68 : Spec Go.Proofs.Tryz.prog 173 p68 r68 := fact tk0 g68
def p70 : List PA := [.c (l [[(s [115, 101, 108, 101, 99, 116])]]), .c (s [115, 101, 108, 101, 99, 116])]
def r70 : List RA := [.c (.c (i 0))]
theorem g70 : vcall (VN tb0) rounds 6 224 p70 = some r70 := by kernel_rfl
theorem s70 : Spec Go.Proofs.Tryz.prog 224 p70 r70 := fact tk0 g70
def m0 : PV := l [[(s [99, 111, 117, 110, 116])], [(s [115, 117, 109])], [(s [109, 105, 110])], [(s [109, 97, 120])]]
def p71 : List PA := [.c m0, .c (s [115, 117, 109])]
def r71 : List RA := [.c (.c (i 1))]
theorem g71 : vcall (VN tb0) rounds 6 224 p71 = some r71 := by kernel_rfl
theorem s71 : Spec Go.Proofs.Tryz.prog 224 p71 r71 := fact tk0 g71
def p72 : List PA := [.c (l [[(s [40])]]), .c (s [40])]
def r72 : List RA := [.c (.c (i 0))]
theorem g72 : vcall (VN tb0) rounds 6 224 p72 = some r72 := by kernel_rfl
theorem s72 : Spec Go.Proofs.Tryz.prog 224 p72 r72 := fact tk0 g72
def p73 : List PA := []
def r73 : List RA := [.c (.s 9 1 [[(s [42])], [(s [43])], [(s [45])], [(s [60, 60])], [(s [62, 62])], [(s [60])], [(s [60, 61])], [(s [62])], [(s [62, 61])], [(s [61])], [(s [33, 61])], [(s [97, 110, 100])], [(s [111, 114])]])]
theorem g73 : vcall (VN tb0) rounds 6 264 p73 = some r73 := by kernel_rfl
theorem s73 : Spec Go.Proofs.Tryz.prog 264 p73 r73 := fact tk0 g73
def p74 : List PA := [.c (l [[(s [42])], [(s [43])], [(s [45])], [(s [60, 60])], [(s [62, 62])], [(s [60])], [(s [60, 61])], [(s [62])], [(s [62, 61])], [(s [61])], [(s [33, 61])], [(s [97, 110, 100])], [(s [111, 114])]]), .c (s [41])]
def r74 : List RA := [.c (.c (i (-1)))]
theorem g74 : vcall (VN tb0) rounds 6 224 p74 = some r74 := by kernel_rfl
theorem s74 : Spec Go.Proofs.Tryz.prog 224 p74 r74 := fact tk0 g74
def p76 : List PA := [.c (l [[(s [41])]]), .c (s [41])]
def r76 : List RA := [.c (.c (i 0))]
theorem g76 : vcall (VN tb0) rounds 6 224 p76 = some r76 := by kernel_rfl
theorem s76 : Spec Go.Proofs.Tryz.prog 224 p76 r76 := fact tk0 g76
def p77 : List PA := [.c (l [[(s [102, 114, 111, 109])]]), .c (s [102, 114, 111, 109])]
def r77 : List RA := [.c (.c (i 0))]
theorem g77 : vcall (VN tb0) rounds 6 224 p77 = some r77 := by kernel_rfl
theorem s77 : Spec Go.Proofs.Tryz.prog 224 p77 r77 := fact tk0 g77
def p78 : List PA := [.c (l [[(s [97])], [(s [98])], [(s [99])], [(s [100])]]), .c (s [97])]
def r78 : List RA := [.c (.c (i 0))]
theorem g78 : vcall (VN tb0) rounds 6 224 p78 = some r78 := by kernel_rfl
theorem s78 : Spec Go.Proofs.Tryz.prog 224 p78 r78 := fact tk0 g78
def p79 : List PA := [.c (l [[(s [106, 111, 105, 110])]]), .c (s [119, 105, 110, 100, 111, 119])]
def r79 : List RA := [.c (.c (i (-1)))]
theorem g79 : vcall (VN tb0) rounds 6 224 p79 = some r79 := by kernel_rfl
theorem s79 : Spec Go.Proofs.Tryz.prog 224 p79 r79 := fact tk0 g79
def p80 : List PA := [.c (l [[(s [117, 110, 105, 111, 110])]]), .c (s [119, 105, 110, 100, 111, 119])]
def r80 : List RA := [.c (.c (i (-1)))]
theorem g80 : vcall (VN tb0) rounds 6 224 p80 = some r80 := by kernel_rfl
theorem s80 : Spec Go.Proofs.Tryz.prog 224 p80 r80 := fact tk0 g80
def p81 : List PA := [.c (l [[(s [119, 104, 101, 114, 101])]]), .c (s [119, 105, 110, 100, 111, 119])]
def r81 : List RA := [.c (.c (i (-1)))]
theorem g81 : vcall (VN tb0) rounds 6 224 p81 = some r81 := by kernel_rfl
theorem s81 : Spec Go.Proofs.Tryz.prog 224 p81 r81 := fact tk0 g81
def p82 : List PA := [.c (l [[(s [119, 105, 110, 100, 111, 119])]]), .c (s [119, 105, 110, 100, 111, 119])]
def r82 : List RA := [.c (.c (i 0))]
theorem g82 : vcall (VN tb0) rounds 6 224 p82 = some r82 := by kernel_rfl
theorem s82 : Spec Go.Proofs.Tryz.prog 224 p82 r82 := fact tk0 g82
def m1 : PV := l [[(s [116, 117, 109, 98, 108, 101])], [(s [115, 108, 105, 100, 101])], [(s [115, 101, 115, 115, 105, 111, 110])]]
def p83 : List PA := [.c m1, .c (s [115, 108, 105, 100, 101])]
def r83 : List RA := [.c (.c (i 1))]
theorem g83 : vcall (VN tb0) rounds 6 224 p83 = some r83 := by kernel_rfl
theorem s83 : Spec Go.Proofs.Tryz.prog 224 p83 r83 := fact tk0 g83
def p85 : List PA := [.c (l [[(s [101, 118, 101, 114, 121])]]), .c (s [101, 118, 101, 114, 121])]
def r85 : List RA := [.c (.c (i 0))]
theorem g85 : vcall (VN tb0) rounds 6 224 p85 = some r85 := by kernel_rfl
theorem s85 : Spec Go.Proofs.Tryz.prog 224 p85 r85 := fact tk0 g85
def p87 : List PA := [.c (l [[(s [98, 121])]]), .c (s [98, 121])]
def r87 : List RA := [.c (.c (i 0))]
theorem g87 : vcall (VN tb0) rounds 6 224 p87 = some r87 := by kernel_rfl
theorem s87 : Spec Go.Proofs.Tryz.prog 224 p87 r87 := fact tk0 g87
def p88 : List PA := [.c (l [[(s [107, 101, 121])]]), .c (s [107, 101, 121])]
def r88 : List RA := [.c (.c (i 0))]
theorem g88 : vcall (VN tb0) rounds 6 224 p88 = some r88 := by kernel_rfl
theorem s88 : Spec Go.Proofs.Tryz.prog 224 p88 r88 := fact tk0 g88
def p89 : List PA := [.c (l [[(s [108, 97, 116, 101])]]), .c (s [108, 97, 116, 101])]
def r89 : List RA := [.c (.c (i 0))]
theorem g89 : vcall (VN tb0) rounds 6 224 p89 = some r89 := by kernel_rfl
theorem s89 : Spec Go.Proofs.Tryz.prog 224 p89 r89 := fact tk0 g89
def p90 : List PA := [.c (l [[(s [100, 114, 111, 112])], [(s [115, 105, 100, 101])]]), .c (s [115, 105, 100, 101])]
def r90 : List RA := [.c (.c (i 1))]
theorem g90 : vcall (VN tb0) rounds 6 224 p90 = some r90 := by kernel_rfl
theorem s90 : Spec Go.Proofs.Tryz.prog 224 p90 r90 := fact tk0 g90
def m2 : PV := l [[(y 4), (i 0), (i 0), (i 0), (i 11)]]
def p92 : List PA := [.a [(y 2), m2, (l [[(i 0)]]), bf, e, (y 2), (i 10), (i 4), bt, (y 2)]]
def r92 : List RA := [.c (.c (i 0)), .c (.c (i 0))]
theorem g92 : vcall (VN tb0) rounds 6 41 p92 = some r92 := by kernel_rfl
theorem s92 : Spec Go.Proofs.Tryz.prog 41 p92 r92 := fact tk0 g92
def p94 : List PA := [.a [(y 2), m2, (l [[(i 0)]]), bf, e, (y 2), (i 10), (i 4), bt, (y 2)]]
def r94 : List RA := [.c (.s 5 1 [[(y 1)], [(y 2)], [(y 4)], [(y 5)], [(y 6)], [(y 7)], [(y 9)], [(y 10)]])]
theorem g94 : vcall (VN tb0) rounds 6 93 p94 = some r94 := by kernel_rfl
theorem s94 : Spec Go.Proofs.Tryz.prog 93 p94 r94 := fact tk0 g94
def m3 : PV := l [[(y 1)], [(y 2)], [(y 4)], [(y 5)], [(y 6)], [(y 7)], [(y 9)], [(y 10)]]
def p96 : List PA := [.c m3, .c m3]
def r96 : List RA := [.c (.c bt)]
theorem g96 : vcall (VN tb0) rounds 6 147 p96 = some r96 := by kernel_rfl
theorem s96 : Spec Go.Proofs.Tryz.prog 147 p96 r96 := fact tk0 g96
def m4 : PV := l [[bf, (i 0), (i 0), (i 3), (i 0)], [bt, (i 9223372036854775807), (i 0), (i 0), (i 0)]]
def m5 : PV := l [[m4]]
def p98 : List PA := [.c (i 0), .q [m5]]
def r98 : List RA := [.a [.c (y 1), .c (i 0), .c (i 0), .c e, .c e, .c e, .s 34 5 [[bf, (i 0), (i 0), (i 3), (i 0)], [bt, (i 9223372036854775807), (i 0), (i 0), (i 0)]], .c e, .c e], .c (.c (i 0))]
theorem g98 : vcall (VN tb0) rounds 6 47 p98 = some r98 := by kernel_rfl
theorem s98 : Spec Go.Proofs.Tryz.prog 47 p98 r98 := fact tk0 g98
def p99 : List PA := [.c (i 0)]
def r99 : List RA := [.a [.c (y 2), .c (i 0), .c (i 0), .c e, .s 2 1 [[(i (-9223372036854775808))]], .c e, .c e, .c e, .c e], .c (.c (i 0))]
theorem g99 : vcall (VN tb0) rounds 6 49 p99 = some r99 := by kernel_rfl
theorem s99 : Spec Go.Proofs.Tryz.prog 49 p99 r99 := fact tk0 g99
def p100 : List PA := [.c (i 0)]
def r100 : List RA := [.a [.c (y 3), .c (i 0), .c (i 0), .c e, .c e, .c e, .c e, .c e, .c e], .c (.c (i 0))]
theorem g100 : vcall (VN tb0) rounds 6 50 p100 = some r100 := by kernel_rfl
theorem s100 : Spec Go.Proofs.Tryz.prog 50 p100 r100 := fact tk0 g100
def p101 : List PA := [.c (i 0), .q [(y 2), m2, (l [[(i 0)]]), bf, e, (y 2), (i 10), (i 4), bt, (y 2)]]
def r101 : List RA := [.a [.c (y 4), .c (i 0), .c (i 0), .c e, .s 2 1 [[(i (-9223372036854775808))]], .c e, .c e, .c e, .c e], .c (.c (i 0))]
theorem g101 : vcall (VN tb0) rounds 6 51 p101 = some r101 := by kernel_rfl
theorem s101 : Spec Go.Proofs.Tryz.prog 51 p101 r101 := fact tk0 g101
def p102 : List PA := [.c (i 1), .q [(y 2), m2, (l [[(i 0)]]), bf, e, (y 2), (i 10), (i 4), bt, (y 2)]]
def r102 : List RA := [.a [.c (y 4), .c (i 1), .c (i 0), .c e, .s 2 1 [[(i (-9223372036854775808))]], .c e, .c e, .c e, .c e], .c (.c (i 0))]
theorem g102 : vcall (VN tb0) rounds 6 51 p102 = some r102 := by kernel_rfl
theorem s102 : Spec Go.Proofs.Tryz.prog 51 p102 r102 := fact tk0 g102
def p103 : List PA := [.c (i 0)]
def r103 : List RA := [.a [.c (y 6), .c (i 0), .c (i 0), .c e, .c e, .c e, .c e, .c e, .c e], .c (.c (i 0))]
theorem g103 : vcall (VN tb0) rounds 6 54 p103 = some r103 := by kernel_rfl
theorem s103 : Spec Go.Proofs.Tryz.prog 54 p103 r103 := fact tk0 g103
def p104 : List PA := [.c (i 0)]
def r104 : List RA := [.a [.c (y 7), .c (i 0), .c (i 0), .c e, .c e, .c e, .c e, .c e, .c e], .c (.c (i 0))]
theorem g104 : vcall (VN tb0) rounds 6 56 p104 = some r104 := by kernel_rfl
theorem s104 : Spec Go.Proofs.Tryz.prog 56 p104 r104 := fact tk0 g104
def p124 : List PA := [.a [(y 2), m2, (l [[(i 0)]]), bf, e, (y 2), (i 10), (i 4), bf, (y 1)]]
def r124 : List RA := [.c (.c (i 0)), .c (.c (i 0))]
theorem g124 : vcall (VN tb0) rounds 6 41 p124 = some r124 := by kernel_rfl
theorem s124 : Spec Go.Proofs.Tryz.prog 41 p124 r124 := fact tk0 g124
def p127 : List PA := [.a [(y 2), m2, (l [[(i 0)]]), bf, e, (y 3), (i 9), (i 0), bf, (y 1)]]
def r127 : List RA := [.c (.c (i 0)), .c (.c (i 0))]
theorem g127 : vcall (VN tb0) rounds 6 41 p127 = some r127 := by kernel_rfl
theorem s127 : Spec Go.Proofs.Tryz.prog 41 p127 r127 := fact tk0 g127
def p129 : List PA := [.a [(y 0), e, e, bf, e, (y 0), (i 0), (i 0), bf, (y 0)]]
def r129 : List RA := [.c (.c (i 0)), .c (.c (i 8))]
theorem g129 : vcall (VN tb0) rounds 6 41 p129 = some r129 := by kernel_rfl
theorem s129 : Spec Go.Proofs.Tryz.prog 41 p129 r129 := fact tk0 g129
def p134 : List PA := [.c e, .a [(i 0), (i 0)]]
def r134 : List RA := [.c (.c bt)]
theorem g134 : vcall (VN tb0) rounds 6 187 p134 = some r134 := by kernel_rfl
theorem s134 : Spec Go.Proofs.Tryz.prog 187 p134 r134 := fact tk0 g134
def p135 : List PA := [.c (l [[(i 0)]]), .a [(i 1), (i 1)]]
def r135 : List RA := [.c (.c bt)]
theorem g135 : vcall (VN tb0) rounds 6 187 p135 = some r135 := by kernel_rfl
theorem s135 : Spec Go.Proofs.Tryz.prog 187 p135 r135 := fact tk0 g135
def p136 : List PA := [.c (i 1), .c (i 0)]
def r136 : List RA := [.c (.c bf)]
theorem g136 : vcall (VN tb0) rounds 6 308 p136 = some r136 := by kernel_rfl
theorem s136 : Spec Go.Proofs.Tryz.prog 308 p136 r136 := fact tk0 g136
def p139 : List PA := [.c (l [[(i 0)]]), .a [(i 1), (i 4)]]
def r139 : List RA := [.c (.c bt)]
theorem g139 : vcall (VN tb0) rounds 6 187 p139 = some r139 := by kernel_rfl
theorem s139 : Spec Go.Proofs.Tryz.prog 187 p139 r139 := fact tk0 g139
def p142 : List PA := [.a [(i 1), e]]
def r142 : List RA := [.c (.c (i 0))]
theorem g142 : vcall (VN tb0) rounds 6 103 p142 = some r142 := by kernel_rfl
theorem s142 : Spec Go.Proofs.Tryz.prog 103 p142 r142 := fact tk0 g142
def p143 : List PA := [.c bf, .c (i 4000)]
def r143 : List RA := [.c (.c (i 0))]
theorem g143 : vcall (VN tb0) rounds 6 189 p143 = some r143 := by kernel_rfl
theorem s143 : Spec Go.Proofs.Tryz.prog 189 p143 r143 := fact tk0 g143
def p144 : List PA := [.c bt, .c (i 60)]
def r144 : List RA := [.c (.c (i 60))]
theorem g144 : vcall (VN tb0) rounds 6 189 p144 = some r144 := by kernel_rfl
theorem s144 : Spec Go.Proofs.Tryz.prog 189 p144 r144 := fact tk0 g144
def m6 : PV := l [[(y 1), (i 0)], [(y 2), (i 0)], [(y 3), (i 0)], [(y 4), (i 0)], [(y 4), (i 1)], [(y 6), (i 0)], [(y 7), (i 0)]]
def m7 : PV := l [[(i 0), (i 0), (i 1), (i 0), (i 1)], [(i 1), (i 0), (i 2), (i 0), (i 1)], [(i 1), (i 1), (i 6), (i 0), (i 1)], [(i 2), (i 0), (i 3), (i 0), (i 1)], [(i 2), (i 1), (i 4), (i 0), (i 1)], [(i 3), (i 0), (i 5), (i 0), (i 1)], [(i 4), (i 0), (i 5), (i 1), (i 1)]]
def p146 : List PA := [.a [m6, m7], .c (i 0)]
def r146 : List RA := [.c (.c e)]
theorem g146 : vcall (VN tb0) rounds 6 72 p146 = some r146 := by kernel_rfl
theorem s146 : Spec Go.Proofs.Tryz.prog 72 p146 r146 := fact tk0 g146
def p147 : List PA := [.a [m6, m7], .c (i 0)]
def r147 : List RA := [.c (.c (l [[(i 0)]]))]
theorem g147 : vcall (VN tb0) rounds 6 109 p147 = some r147 := by kernel_rfl
theorem s147 : Spec Go.Proofs.Tryz.prog 109 p147 r147 := fact tk0 g147
def p148 : List PA := [.c bf, .c (i 60)]
def r148 : List RA := [.c (.c (i 0))]
theorem g148 : vcall (VN tb0) rounds 6 189 p148 = some r148 := by kernel_rfl
theorem s148 : Spec Go.Proofs.Tryz.prog 189 p148 r148 := fact tk0 g148
def p150 : List PA := [.a [m6, m7], .c (i 1)]
def r150 : List RA := [.c (.c (l [[(i 0)]]))]
theorem g150 : vcall (VN tb0) rounds 6 72 p150 = some r150 := by kernel_rfl
theorem s150 : Spec Go.Proofs.Tryz.prog 72 p150 r150 := fact tk0 g150
def p151 : List PA := [.c (i 1), .c (i 0)]
def r151 : List RA := [.c (.c (i 1))]
theorem g151 : vcall (VN tb0) rounds 6 118 p151 = some r151 := by kernel_rfl
theorem s151 : Spec Go.Proofs.Tryz.prog 118 p151 r151 := fact tk0 g151
def p155 : List PA := [.a [m6, m7], .c (i 2)]
def r155 : List RA := [.c (.c (l [[(i 1)]]))]
theorem g155 : vcall (VN tb0) rounds 6 72 p155 = some r155 := by kernel_rfl
theorem s155 : Spec Go.Proofs.Tryz.prog 72 p155 r155 := fact tk0 g155
def p158 : List PA := [.c bt, .c (i 4000)]
def r158 : List RA := [.c (.c (i 4000))]
theorem g158 : vcall (VN tb0) rounds 6 189 p158 = some r158 := by kernel_rfl
theorem s158 : Spec Go.Proofs.Tryz.prog 189 p158 r158 := fact tk0 g158
def p160 : List PA := [.a [m6, m7], .c (i 3)]
def r160 : List RA := [.c (.c (l [[(i 3)]]))]
theorem g160 : vcall (VN tb0) rounds 6 72 p160 = some r160 := by kernel_rfl
theorem s160 : Spec Go.Proofs.Tryz.prog 72 p160 r160 := fact tk0 g160
def p161 : List PA := [.a [m6, m7], .c (i 3)]
def r161 : List RA := [.c (.c (l [[(i 5)]]))]
theorem g161 : vcall (VN tb0) rounds 6 109 p161 = some r161 := by kernel_rfl
theorem s161 : Spec Go.Proofs.Tryz.prog 109 p161 r161 := fact tk0 g161
def p163 : List PA := [.a [m6, m7], .c (i 4)]
def r163 : List RA := [.c (.c (l [[(i 4)]]))]
theorem g163 : vcall (VN tb0) rounds 6 72 p163 = some r163 := by kernel_rfl
theorem s163 : Spec Go.Proofs.Tryz.prog 72 p163 r163 := fact tk0 g163
def p164 : List PA := [.a [m6, m7], .c (i 4)]
def r164 : List RA := [.c (.c (l [[(i 6)]]))]
theorem g164 : vcall (VN tb0) rounds 6 109 p164 = some r164 := by kernel_rfl
theorem s164 : Spec Go.Proofs.Tryz.prog 109 p164 r164 := fact tk0 g164
def p168 : List PA := [.a [m6, m7], .c (i 5)]
def r168 : List RA := [.c (.c e)]
theorem g168 : vcall (VN tb0) rounds 6 109 p168 = some r168 := by kernel_rfl
theorem s168 : Spec Go.Proofs.Tryz.prog 109 p168 r168 := fact tk0 g168
def p170 : List PA := [.a [m6, m7], .c (i 6)]
def r170 : List RA := [.c (.c (l [[(i 2)]]))]
theorem g170 : vcall (VN tb0) rounds 6 72 p170 = some r170 := by kernel_rfl
theorem s170 : Spec Go.Proofs.Tryz.prog 72 p170 r170 := fact tk0 g170
def p171 : List PA := [.a [m6, m7], .c (i 6)]
def r171 : List RA := [.c (.c e)]
theorem g171 : vcall (VN tb0) rounds 6 109 p171 = some r171 := by kernel_rfl
theorem s171 : Spec Go.Proofs.Tryz.prog 109 p171 r171 := fact tk0 g171
def m8 : PV := l [[(y 1), (i 0), (i 0), e, e, e, m4, e, e], [(y 2), (i 0), (i 0), e, (l [[(i (-9223372036854775808))]]), e, e, e, e], [(y 3), (i 0), (i 0), e, e, e, e, e, e], [(y 4), (i 0), (i 0), e, (l [[(i (-9223372036854775808))]]), e, e, e, e], [(y 4), (i 1), (i 0), e, (l [[(i (-9223372036854775808))]]), e, e, e, e], [(y 6), (i 0), (i 0), e, e, e, e, e, e], [(y 7), (i 0), (i 0), e, e, e, e, e, e]]
def m9 : PV := l [[(i 1), e], [(i 1), e], [(i 1), e], [(i 1), e], [(i 1), e], [(i 1), e], [(i 1), e]]
def p175 : List PA := [.a [(y 2), m2, (l [[(i 0)]]), bf, e, (y 2), (i 10), (i 4), bt, (y 2), m6, m7, m8, m9], .c e]
def r175 : List RA := [.c (.c e)]
theorem g175 : vcall (VN tb0) rounds 6 71 p175 = some r175 := by kernel_rfl
theorem s175 : Spec Go.Proofs.Tryz.prog 71 p175 r175 := fact tk0 g175
def p176 : List PA := [.a [(y 2), m2, (l [[(i 0)]]), bf, e, (y 2), (i 10), (i 4), bt, (y 2), m6, m7, m8, m9], .c (l [[(i 0)]])]
def r176 : List RA := [.c (.c (l [[(i 1), e]]))]
theorem g176 : vcall (VN tb0) rounds 6 71 p176 = some r176 := by kernel_rfl
theorem s176 : Spec Go.Proofs.Tryz.prog 71 p176 r176 := fact tk0 g176
def m10 : PV := l [[(i 0), (y 1), (i 0), (i 3), (i 0), (i 0), (i 0), (i 0), (i 0), (i 0), (i 0)]]
def m11 : PV := l [[bt, (i 9223372036854775807), (i 0), (i 0), (i 0)]]
def m12 : PV := l [[(y 1), (i 0), (i 0), m10, e, e, m11, e, e], [(y 2), (i 0), (i 0), e, (l [[(i (-9223372036854775808))]]), e, e, e, e], [(y 3), (i 0), (i 0), e, e, e, e, e, e], [(y 4), (i 0), (i 0), e, (l [[(i (-9223372036854775808))]]), e, e, e, e], [(y 4), (i 1), (i 0), e, (l [[(i (-9223372036854775808))]]), e, e, e, e], [(y 6), (i 0), (i 0), e, e, e, e, e, e], [(y 7), (i 0), (i 0), e, e, e, e, e, e]]
def p190 : List PA := [.a [(y 2), m2, (l [[(i 0)]]), bf, e, (y 2), (i 10), (i 4), bt, (y 2), m6, m7, m12, m9], .c e]
def r190 : List RA := [.c (.c e)]
theorem g190 : vcall (VN tb0) rounds 6 71 p190 = some r190 := by kernel_rfl
theorem s190 : Spec Go.Proofs.Tryz.prog 71 p190 r190 := fact tk0 g190
def p191 : List PA := [.a [(y 2), m2, (l [[(i 0)]]), bf, e, (y 2), (i 10), (i 4), bt, (y 2), m6, m7, m12, m9], .c (l [[(i 0)]])]
def r191 : List RA := [.c (.c (l [[(i 1), e]]))]
theorem g191 : vcall (VN tb0) rounds 6 71 p191 = some r191 := by kernel_rfl
theorem s191 : Spec Go.Proofs.Tryz.prog 71 p191 r191 := fact tk0 g191
def p193 : List PA := [.a [(i 1), e], .a [(y 1), (i 0), (i 3), (i 0), (i 0), (i 0), (i 0), (i 0), (i 0), (i 0)]]
def r193 : List RA := [.a [.c (i 1), .s 154 10 [[(y 1), (i 0), (i 3), (i 0), (i 0), (i 0), (i 0), (i 0), (i 0), (i 0)]]], .c (.c (i 0))]
theorem g193 : vcall (VN tb0) rounds 6 156 p193 = some r193 := by kernel_rfl
theorem s193 : Spec Go.Proofs.Tryz.prog 156 p193 r193 := fact tk0 g193
def m13 : PV := l [[(y 1), (i 0), (i 0), e, e, e, m11, e, e], [(y 2), (i 0), (i 0), e, (l [[(i (-9223372036854775808))]]), e, e, e, e], [(y 3), (i 0), (i 0), e, e, e, e, e, e], [(y 4), (i 0), (i 0), e, (l [[(i (-9223372036854775808))]]), e, e, e, e], [(y 4), (i 1), (i 0), e, (l [[(i (-9223372036854775808))]]), e, e, e, e], [(y 6), (i 0), (i 0), e, e, e, e, e, e], [(y 7), (i 0), (i 0), e, e, e, e, e, e]]
def m14 : PV := l [[(y 1), (i 0), (i 3), (i 0), (i 0), (i 0), (i 0), (i 0), (i 0), (i 0)]]
def m15 : PV := l [[(i 1), m14], [(i 1), e], [(i 1), e], [(i 1), e], [(i 1), e], [(i 1), e], [(i 1), e]]
def p198 : List PA := [.a [(y 2), m2, (l [[(i 0)]]), bf, e, (y 2), (i 10), (i 4), bt, (y 2), m6, m7, m13, m15]]
def r198 : List RA := [.a [.c (y 2), .c m2, .c (l [[(i 0)]]), .c bf, .c e, .c (y 2), .c (i 10), .c (i 4), .c bt, .c (y 2), .c m6, .c m7, .s 56 9 [[(y 1), (i 0), (i 0), e, e, e, m11, e, e], [(y 2), (i 0), (i 0), e, (l [[(i (-9223372036854775808))]]), e, e, e, e], [(y 3), (i 0), (i 0), e, e, e, e, e, e], [(y 4), (i 0), (i 0), e, (l [[(i (-9223372036854775808))]]), e, e, e, e], [(y 4), (i 1), (i 0), e, (l [[(i (-9223372036854775808))]]), e, e, e, e], [(y 6), (i 0), (i 0), e, e, e, e, e, e], [(y 7), (i 0), (i 0), e, e, e, e, e, e]], .s 59 2 [[(i 1), m14], [(i 1), e], [(i 1), e], [(i 1), e], [(i 1), e], [(i 1), e], [(i 1), e]]]]
theorem g198 : vcall (VN tb0) rounds 6 78 p198 = some r198 := by kernel_rfl
theorem s198 : Spec Go.Proofs.Tryz.prog 78 p198 r198 := fact tk0 g198
end Tn.Bo
