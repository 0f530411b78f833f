import Derived.Test.YtcignakdmepfmaaGreatDoorBu3
/- Closed facts of one run, each by the kernel. -/
set_option linter.unusedVariables false
namespace Tn.Bu
open Go Go.Abs Tn
def p105 : List PA := [.c (l [[(i 0)], [(i 1)]]), .a [(i 1), (i 2)]]
def r105 : List RA := [.c (.c bt)]
theorem g105 : vcall (VN tb1) rounds 6 187 p105 = some r105 := by kernel_rfl
theorem s105 : Spec Go.Proofs.Tryz.prog 187 p105 r105 := fact tk1 g105
def p106 : List PA := [.c (l [[(i 0)], [(i 1)]]), .a [(i 1), (i 3)]]
def r106 : List RA := [.c (.c bt)]
theorem g106 : vcall (VN tb1) rounds 6 187 p106 = some r106 := by kernel_rfl
theorem s106 : Spec Go.Proofs.Tryz.prog 187 p106 r106 := fact tk1 g106
def p107 : List PA := [.c (l [[(i 0)], [(i 1)]]), .a [(i 2), (i 2)]]
def r107 : List RA := [.c (.c bt)]
theorem g107 : vcall (VN tb1) rounds 6 187 p107 = some r107 := by kernel_rfl
theorem s107 : Spec Go.Proofs.Tryz.prog 187 p107 r107 := fact tk1 g107
def p108 : List PA := [.c (l [[(i 0)], [(i 1)]]), .a [(i 1), (i 4)]]
def r108 : List RA := [.c (.c bt)]
theorem g108 : vcall (VN tb1) rounds 6 187 p108 = some r108 := by kernel_rfl
theorem s108 : Spec Go.Proofs.Tryz.prog 187 p108 r108 := fact tk1 g108
def p114 : List PA := [.a [(y 1), (i 0), (i 0), e, e, e, m3, e, e]]
def r114 : List RA := [.c (.c (i 0))]
theorem g114 : vcall (VN tb1) rounds 6 153 p114 = some r114 := by kernel_rfl
theorem s114 : Spec Go.Proofs.Tryz.prog 153 p114 r114 := fact tk1 g114
def p117 : List PA := [.a [(y 1), (i 1), (i 0), e, e, e, e, e, e]]
def r117 : List RA := [.c (.c (i 0))]
theorem g117 : vcall (VN tb1) rounds 6 153 p117 = some r117 := by kernel_rfl
theorem s117 : Spec Go.Proofs.Tryz.prog 153 p117 r117 := fact tk1 g117
def p121 : List PA := [.a [(y 2), (i 0), (i 0), e, (l [[(i (-9223372036854775808))]]), e, e, e, e]]
def r121 : List RA := [.c (.c (i 0))]
theorem g121 : vcall (VN tb1) rounds 6 153 p121 = some r121 := by kernel_rfl
theorem s121 : Spec Go.Proofs.Tryz.prog 153 p121 r121 := fact tk1 g121
def p124 : List PA := [.c (i 3), .c (i 2), .q [m5, m6]]
def r124 : List RA := [.c (.c (i 1))]
theorem g124 : vcall (VN tb1) rounds 6 155 p124 = some r124 := by kernel_rfl
theorem s124 : Spec Go.Proofs.Tryz.prog 155 p124 r124 := fact tk1 g124
def p126 : List PA := [.a [(y 2), (i 1), (i 0), e, (l [[(i (-9223372036854775808))]]), e, e, e, e]]
def r126 : List RA := [.c (.c (i 0))]
theorem g126 : vcall (VN tb1) rounds 6 153 p126 = some r126 := by kernel_rfl
theorem s126 : Spec Go.Proofs.Tryz.prog 153 p126 r126 := fact tk1 g126
def p128 : List PA := [.c (i 5), .c (i 4), .q [m5, m6]]
def r128 : List RA := [.c (.c (i 1))]
theorem g128 : vcall (VN tb1) rounds 6 155 p128 = some r128 := by kernel_rfl
theorem s128 : Spec Go.Proofs.Tryz.prog 155 p128 r128 := fact tk1 g128
def p130 : List PA := [.a [(y 3), (i 0), (i 0), e, e, e, e, e, e]]
def r130 : List RA := [.c (.c (i 0))]
theorem g130 : vcall (VN tb1) rounds 6 153 p130 = some r130 := by kernel_rfl
theorem s130 : Spec Go.Proofs.Tryz.prog 153 p130 r130 := fact tk1 g130
def p132 : List PA := [.c (i 7), .c (i 6), .q [m5, m6]]
def r132 : List RA := [.c (.c (i 1))]
theorem g132 : vcall (VN tb1) rounds 6 155 p132 = some r132 := by kernel_rfl
theorem s132 : Spec Go.Proofs.Tryz.prog 155 p132 r132 := fact tk1 g132
def p134 : List PA := [.a [(y 3), (i 1), (i 0), e, e, e, e, e, e]]
def r134 : List RA := [.c (.c (i 0))]
theorem g134 : vcall (VN tb1) rounds 6 153 p134 = some r134 := by kernel_rfl
theorem s134 : Spec Go.Proofs.Tryz.prog 153 p134 r134 := fact tk1 g134
def p136 : List PA := [.c (i 9), .c (i 8), .q [m5, m6]]
def r136 : List RA := [.c (.c (i 1))]
theorem g136 : vcall (VN tb1) rounds 6 155 p136 = some r136 := by kernel_rfl
theorem s136 : Spec Go.Proofs.Tryz.prog 155 p136 r136 := fact tk1 g136
def p139 : List PA := [.a [(y 5), (i 0), (i 0), e, (l [[(i (-9223372036854775808))], [(i (-9223372036854775808))]]), e, e, e, e]]
def r139 : List RA := [.c (.c (i 0))]
theorem g139 : vcall (VN tb1) rounds 6 153 p139 = some r139 := by kernel_rfl
theorem s139 : Spec Go.Proofs.Tryz.prog 153 p139 r139 := fact tk1 g139
def p140 : List PA := [.c (i 8), .c (i 6), .q [m5, m6]]
def r140 : List RA := [.c (.c (i 1))]
theorem g140 : vcall (VN tb1) rounds 6 117 p140 = some r140 := by kernel_rfl
theorem s140 : Spec Go.Proofs.Tryz.prog 117 p140 r140 := fact tk1 g140
def p143 : List PA := [.a [(y 5), (i 1), (i 0), e, (l [[(i (-9223372036854775808))], [(i (-9223372036854775808))]]), e, e, e, e]]
def r143 : List RA := [.c (.c (i 0))]
theorem g143 : vcall (VN tb1) rounds 6 153 p143 = some r143 := by kernel_rfl
theorem s143 : Spec Go.Proofs.Tryz.prog 153 p143 r143 := fact tk1 g143
def p144 : List PA := [.c (i 9), .c (i 7), .q [m5, m6]]
def r144 : List RA := [.c (.c (i 1))]
theorem g144 : vcall (VN tb1) rounds 6 117 p144 = some r144 := by kernel_rfl
theorem s144 : Spec Go.Proofs.Tryz.prog 117 p144 r144 := fact tk1 g144
def p147 : List PA := [.a [(y 6), (i 0), (i 0), e, e, e, e, e, e]]
def r147 : List RA := [.c (.c (i 0))]
theorem g147 : vcall (VN tb1) rounds 6 153 p147 = some r147 := by kernel_rfl
theorem s147 : Spec Go.Proofs.Tryz.prog 153 p147 r147 := fact tk1 g147
def p148 : List PA := [.c (i 11), .c (i 10), .q [m5, m6]]
def r148 : List RA := [.c (.c (i 1))]
theorem g148 : vcall (VN tb1) rounds 6 117 p148 = some r148 := by kernel_rfl
theorem s148 : Spec Go.Proofs.Tryz.prog 117 p148 r148 := fact tk1 g148
def p151 : List PA := [.a [(y 7), (i 0), (i 0), e, e, e, e, e, e]]
def r151 : List RA := [.c (.c (i 0))]
theorem g151 : vcall (VN tb1) rounds 6 153 p151 = some r151 := by kernel_rfl
theorem s151 : Spec Go.Proofs.Tryz.prog 153 p151 r151 := fact tk1 g151
def p152 : List PA := [.c (i 5), .c (i 3), .q [m5, m6]]
def r152 : List RA := [.c (.c (i 1))]
theorem g152 : vcall (VN tb1) rounds 6 117 p152 = some r152 := by kernel_rfl
theorem s152 : Spec Go.Proofs.Tryz.prog 117 p152 r152 := fact tk1 g152
def m19 : PV := l [[(y 1), (i 0)], [(y 1), (i 1)], [(y 2), (i 0)], [(y 2), (i 1)], [(y 3), (i 0)], [(y 3), (i 1)], [(y 5), (i 0)], [(y 6), (i 0)], [(y 7), (i 0)]]
def m20 : PV := l [[(i 0), (i 0), (i 2), (i 0), (i 1)], [(i 1), (i 0), (i 3), (i 0), (i 1)], [(i 2), (i 0), (i 4), (i 0), (i 1)], [(i 2), (i 1), (i 8), (i 0), (i 1)], [(i 3), (i 0), (i 5), (i 0), (i 1)], [(i 3), (i 1), (i 8), (i 1), (i 1)], [(i 4), (i 0), (i 6), (i 0), (i 1)], [(i 5), (i 0), (i 6), (i 1), (i 1)], [(i 6), (i 0), (i 7), (i 0), (i 1)]]
def p157 : List PA := [.a [m2, (y 2), m1, (l [[(i 0)], [(i 1)]]), bt, e, (y 1), (i 5), (i 0), bt, (y 2)], .c (i 1), .c (i 1)]
def r157 : List RA := [.a [.c m19, .c m20], .c (.c (i 0))]
theorem g157 : vcall (VN tb1) rounds 6 44 p157 = some r157 := by kernel_rfl
theorem s157 : Spec Go.Proofs.Tryz.prog 44 p157 r157 := fact tk1 g157
def m21 : PV := l [[(i 0), (i 0), (i 2), (i 0), (i 2)], [(i 1), (i 0), (i 3), (i 0), (i 2)], [(i 2), (i 0), (i 4), (i 0), (i 2)], [(i 2), (i 1), (i 8), (i 0), (i 2)], [(i 3), (i 0), (i 5), (i 0), (i 2)], [(i 3), (i 1), (i 8), (i 1), (i 2)], [(i 4), (i 0), (i 6), (i 0), (i 2)], [(i 5), (i 0), (i 6), (i 1), (i 2)], [(i 6), (i 0), (i 7), (i 0), (i 2)]]
def p159 : List PA := [.a [m2, (y 2), m1, (l [[(i 0)], [(i 1)]]), bt, e, (y 1), (i 5), (i 0), bt, (y 2)], .c (i 1), .c (i 2)]
def r159 : List RA := [.a [.c m19, .c m21], .c (.c (i 0))]
theorem g159 : vcall (VN tb1) rounds 6 44 p159 = some r159 := by kernel_rfl
theorem s159 : Spec Go.Proofs.Tryz.prog 44 p159 r159 := fact tk1 g159
def m22 : PV := l [[(i 0), (i 0), (i 2), (i 0), (i 3)], [(i 1), (i 0), (i 3), (i 0), (i 3)], [(i 2), (i 0), (i 4), (i 0), (i 3)], [(i 2), (i 1), (i 8), (i 0), (i 3)], [(i 3), (i 0), (i 5), (i 0), (i 3)], [(i 3), (i 1), (i 8), (i 1), (i 3)], [(i 4), (i 0), (i 6), (i 0), (i 3)], [(i 5), (i 0), (i 6), (i 1), (i 3)], [(i 6), (i 0), (i 7), (i 0), (i 3)]]
def p161 : List PA := [.a [m2, (y 2), m1, (l [[(i 0)], [(i 1)]]), bt, e, (y 1), (i 5), (i 0), bt, (y 2)], .c (i 1), .c (i 3)]
def r161 : List RA := [.a [.c m19, .c m22], .c (.c (i 0))]
theorem g161 : vcall (VN tb1) rounds 6 44 p161 = some r161 := by kernel_rfl
theorem s161 : Spec Go.Proofs.Tryz.prog 44 p161 r161 := fact tk1 g161
def m23 : PV := l [[(i 0), (i 0), (i 2), (i 0), (i 4)], [(i 1), (i 0), (i 3), (i 0), (i 4)], [(i 2), (i 0), (i 4), (i 0), (i 4)], [(i 2), (i 1), (i 8), (i 0), (i 4)], [(i 3), (i 0), (i 5), (i 0), (i 4)], [(i 3), (i 1), (i 8), (i 1), (i 4)], [(i 4), (i 0), (i 6), (i 0), (i 4)], [(i 5), (i 0), (i 6), (i 1), (i 4)], [(i 6), (i 0), (i 7), (i 0), (i 4)]]
def p163 : List PA := [.a [m2, (y 2), m1, (l [[(i 0)], [(i 1)]]), bt, e, (y 1), (i 5), (i 0), bt, (y 2)], .c (i 1), .c (i 4)]
def r163 : List RA := [.a [.c m19, .c m23], .c (.c (i 0))]
theorem g163 : vcall (VN tb1) rounds 6 44 p163 = some r163 := by kernel_rfl
theorem s163 : Spec Go.Proofs.Tryz.prog 44 p163 r163 := fact tk1 g163
def m24 : PV := l [[(i 0), (i 0), (i 2), (i 0), (i 5)], [(i 1), (i 0), (i 3), (i 0), (i 5)], [(i 2), (i 0), (i 4), (i 0), (i 5)], [(i 2), (i 1), (i 8), (i 0), (i 5)], [(i 3), (i 0), (i 5), (i 0), (i 5)], [(i 3), (i 1), (i 8), (i 1), (i 5)], [(i 4), (i 0), (i 6), (i 0), (i 5)], [(i 5), (i 0), (i 6), (i 1), (i 5)], [(i 6), (i 0), (i 7), (i 0), (i 5)]]
def p165 : List PA := [.a [m2, (y 2), m1, (l [[(i 0)], [(i 1)]]), bt, e, (y 1), (i 5), (i 0), bt, (y 2)], .c (i 1), .c (i 5)]
def r165 : List RA := [.a [.c m19, .c m24], .c (.c (i 0))]
theorem g165 : vcall (VN tb1) rounds 6 44 p165 = some r165 := by kernel_rfl
theorem s165 : Spec Go.Proofs.Tryz.prog 44 p165 r165 := fact tk1 g165
def m25 : PV := l [[(i 0), (i 0), (i 2), (i 0), (i 6)], [(i 1), (i 0), (i 3), (i 0), (i 6)], [(i 2), (i 0), (i 4), (i 0), (i 6)], [(i 2), (i 1), (i 8), (i 0), (i 6)], [(i 3), (i 0), (i 5), (i 0), (i 6)], [(i 3), (i 1), (i 8), (i 1), (i 6)], [(i 4), (i 0), (i 6), (i 0), (i 6)], [(i 5), (i 0), (i 6), (i 1), (i 6)], [(i 6), (i 0), (i 7), (i 0), (i 6)]]
def p167 : List PA := [.a [m2, (y 2), m1, (l [[(i 0)], [(i 1)]]), bt, e, (y 1), (i 5), (i 0), bt, (y 2)], .c (i 1), .c (i 6)]
def r167 : List RA := [.a [.c m19, .c m25], .c (.c (i 0))]
theorem g167 : vcall (VN tb1) rounds 6 44 p167 = some r167 := by kernel_rfl
theorem s167 : Spec Go.Proofs.Tryz.prog 44 p167 r167 := fact tk1 g167
def m26 : PV := l [[(i 0), (i 0), (i 2), (i 0), (i 7)], [(i 1), (i 0), (i 3), (i 0), (i 7)], [(i 2), (i 0), (i 4), (i 0), (i 7)], [(i 2), (i 1), (i 8), (i 0), (i 7)], [(i 3), (i 0), (i 5), (i 0), (i 7)], [(i 3), (i 1), (i 8), (i 1), (i 7)], [(i 4), (i 0), (i 6), (i 0), (i 7)], [(i 5), (i 0), (i 6), (i 1), (i 7)], [(i 6), (i 0), (i 7), (i 0), (i 7)]]
def p169 : List PA := [.a [m2, (y 2), m1, (l [[(i 0)], [(i 1)]]), bt, e, (y 1), (i 5), (i 0), bt, (y 2)], .c (i 1), .c (i 7)]
def r169 : List RA := [.a [.c m19, .c m26], .c (.c (i 0))]
theorem g169 : vcall (VN tb1) rounds 6 44 p169 = some r169 := by kernel_rfl
theorem s169 : Spec Go.Proofs.Tryz.prog 44 p169 r169 := fact tk1 g169
def m27 : PV := l [[(i 0), (i 0), (i 2), (i 0), (i 8)], [(i 1), (i 0), (i 3), (i 0), (i 8)], [(i 2), (i 0), (i 4), (i 0), (i 8)], [(i 2), (i 1), (i 8), (i 0), (i 8)], [(i 3), (i 0), (i 5), (i 0), (i 8)], [(i 3), (i 1), (i 8), (i 1), (i 8)], [(i 4), (i 0), (i 6), (i 0), (i 8)], [(i 5), (i 0), (i 6), (i 1), (i 8)], [(i 6), (i 0), (i 7), (i 0), (i 8)]]
def p171 : List PA := [.a [m2, (y 2), m1, (l [[(i 0)], [(i 1)]]), bt, e, (y 1), (i 5), (i 0), bt, (y 2)], .c (i 1), .c (i 8)]
def r171 : List RA := [.a [.c m19, .c m27], .c (.c (i 0))]
theorem g171 : vcall (VN tb1) rounds 6 44 p171 = some r171 := by kernel_rfl
theorem s171 : Spec Go.Proofs.Tryz.prog 44 p171 r171 := fact tk1 g171
def m28 : PV := l [[(i 0), (i 0), (i 2), (i 0), (i 1)], [(i 1), (i 0), (i 3), (i 0), (i 1)], [(i 2), (i 0), (i 4), (i 0), (i 1)], [(i 2), (i 1), (i 9), (i 0), (i 1)], [(i 3), (i 0), (i 5), (i 0), (i 1)], [(i 3), (i 1), (i 9), (i 1), (i 1)], [(i 4), (i 0), (i 6), (i 0), (i 1)], [(i 4), (i 1), (i 7), (i 0), (i 1)], [(i 5), (i 0), (i 6), (i 1), (i 1)], [(i 5), (i 1), (i 7), (i 1), (i 1)], [(i 6), (i 0), (i 8), (i 0), (i 1)], [(i 7), (i 0), (i 8), (i 1), (i 1)]]
def p173 : List PA := [.a [m2, (y 2), m1, (l [[(i 0)], [(i 1)]]), bt, e, (y 1), (i 5), (i 0), bt, (y 2)], .c (i 2), .c (i 1)]
def r173 : List RA := [.a [.c m5, .c m28], .c (.c (i 0))]
theorem g173 : vcall (VN tb1) rounds 6 44 p173 = some r173 := by kernel_rfl
theorem s173 : Spec Go.Proofs.Tryz.prog 44 p173 r173 := fact tk1 g173
def m29 : PV := l [[(i 0), (i 0), (i 2), (i 0), (i 2)], [(i 1), (i 0), (i 3), (i 0), (i 2)], [(i 2), (i 0), (i 4), (i 0), (i 2)], [(i 2), (i 1), (i 9), (i 0), (i 2)], [(i 3), (i 0), (i 5), (i 0), (i 2)], [(i 3), (i 1), (i 9), (i 1), (i 2)], [(i 4), (i 0), (i 6), (i 0), (i 2)], [(i 4), (i 1), (i 7), (i 0), (i 2)], [(i 5), (i 0), (i 6), (i 1), (i 2)], [(i 5), (i 1), (i 7), (i 1), (i 2)], [(i 6), (i 0), (i 8), (i 0), (i 2)], [(i 7), (i 0), (i 8), (i 1), (i 2)]]
def p175 : List PA := [.a [m2, (y 2), m1, (l [[(i 0)], [(i 1)]]), bt, e, (y 1), (i 5), (i 0), bt, (y 2)], .c (i 2), .c (i 2)]
def r175 : List RA := [.a [.c m5, .c m29], .c (.c (i 0))]
theorem g175 : vcall (VN tb1) rounds 6 44 p175 = some r175 := by kernel_rfl
theorem s175 : Spec Go.Proofs.Tryz.prog 44 p175 r175 := fact tk1 g175
def p181 : List PA := [.a [(y 1), (i 0), (i 0), e, e, e, m10, e, e]]
def r181 : List RA := [.c (.c (i 0))]
theorem g181 : vcall (VN tb1) rounds 6 153 p181 = some r181 := by kernel_rfl
theorem s181 : Spec Go.Proofs.Tryz.prog 153 p181 r181 := fact tk1 g181
def p193 : List PA := [.a [(y 1), (i 0), (i 0), m9, e, e, m10, e, e]]
def r193 : List RA := [.c (.c (i 0))]
theorem g193 : vcall (VN tb1) rounds 6 153 p193 = some r193 := by kernel_rfl
theorem s193 : Spec Go.Proofs.Tryz.prog 153 p193 r193 := fact tk1 g193
def p223 : List PA := [.a [(y 0), e, e, bf, e, (y 0), (i 0), (i 0), bf, (y 0)], .c e, .c (i 0), .c (i 0)]
def r223 : List RA := [.a [.c (y 0), .c e, .c e, .c bf, .c e, .c (y 0), .c (i 0), .c (i 0), .c bf, .c (y 0), .c e, .c e, .c e, .c e], .c (.c (i 8))]
theorem g223 : vcall (VN tb1) rounds 6 9 p223 = some r223 := by kernel_rfl
theorem s223 : Spec Go.Proofs.Tryz.prog 9 p223 r223 := fact tk1 g223
def p224 : List PA := [.a [(y 2), m1, (l [[(i 0)], [(i 1)]]), bt, e, (y 1), (i 5), (i 0), bt, (y 2)], .c (l [[m3]]), .c (i 0), .c (i 0)]
def r224 : List RA := [.a [.c (y 0), .c e, .c e, .c bf, .c e, .c (y 0), .c (i 0), .c (i 0), .c bf, .c (y 0), .c e, .c e, .c e, .c e], .c (.c (i 2))]
theorem g224 : vcall (VN tb1) rounds 6 9 p224 = some r224 := by kernel_rfl
theorem s224 : Spec Go.Proofs.Tryz.prog 9 p224 r224 := fact tk1 g224
def p225 : List PA := [.a [(y 2), m1, (l [[(i 0)], [(i 1)]]), bt, e, (y 1), (i 5), (i 0), bt, (y 2)], .c (l [[e], [(l [[bt, (i 7), (i 1), (i 0), (i 0)]])]]), .c (i 0), .c (i 0)]
def r225 : List RA := [.a [.c (y 0), .c e, .c e, .c bf, .c e, .c (y 0), .c (i 0), .c (i 0), .c bf, .c (y 0), .c e, .c e, .c e, .c e], .c (.c (i 8))]
theorem g225 : vcall (VN tb1) rounds 6 9 p225 = some r225 := by kernel_rfl
theorem s225 : Spec Go.Proofs.Tryz.prog 9 p225 r225 := fact tk1 g225
def p226 : List PA := [.a [(y 2), m1, (l [[(i 0)], [(i 1)]]), bt, e, (y 1), (i 5), (i 0), bt, (y 2)], .c (l [[(l [[bf, (i 0), (i 0), (i 0), (i 0)], [bf, (i 0), (i 0), (i 0), (i 0)], [bf, (i 0), (i 0), (i 0), (i 0)], [bf, (i 0), (i 0), (i 0), (i 0)], [bf, (i 0), (i 0), (i 0), (i 0)], [bf, (i 0), (i 0), (i 0), (i 0)], [bf, (i 0), (i 0), (i 0), (i 0)], [bf, (i 0), (i 0), (i 0), (i 0)], [bf, (i 0), (i 0), (i 0), (i 0)], [bf, (i 0), (i 0), (i 0), (i 0)], [bf, (i 0), (i 0), (i 0), (i 0)], [bf, (i 0), (i 0), (i 0), (i 0)], [bf, (i 0), (i 0), (i 0), (i 0)], [bf, (i 0), (i 0), (i 0), (i 0)], [bf, (i 0), (i 0), (i 0), (i 0)], [bf, (i 0), (i 0), (i 0), (i 0)], [bf, (i 0), (i 0), (i 0), (i 0)], [bf, (i 0), (i 0), (i 0), (i 0)], [bf, (i 0), (i 0), (i 0), (i 0)], [bf, (i 0), (i 0), (i 0), (i 0)], [bf, (i 0), (i 0), (i 0), (i 0)], [bf, (i 0), (i 0), (i 0), (i 0)], [bf, (i 0), (i 0), (i 0), (i 0)], [bf, (i 0), (i 0), (i 0), (i 0)], [bf, (i 0), (i 0), (i 0), (i 0)], [bf, (i 0), (i 0), (i 0), (i 0)], [bf, (i 0), (i 0), (i 0), (i 0)], [bf, (i 0), (i 0), (i 0), (i 0)], [bf, (i 0), (i 0), (i 0), (i 0)], [bf, (i 0), (i 0), (i 0), (i 0)], [bf, (i 0), (i 0), (i 0), (i 0)], [bf, (i 0), (i 0), (i 0), (i 0)], [bf, (i 0), (i 0), (i 0), (i 0)], [bf, (i 0), (i 0), (i 0), (i 0)], [bf, (i 0), (i 0), (i 0), (i 0)], [bf, (i 0), (i 0), (i 0), (i 0)], [bf, (i 0), (i 0), (i 0), (i 0)], [bf, (i 0), (i 0), (i 0), (i 0)], [bf, (i 0), (i 0), (i 0), (i 0)], [bf, (i 0), (i 0), (i 0), (i 0)], [bf, (i 0), (i 0), (i 0), (i 0)], [bf, (i 0), (i 0), (i 0), (i 0)], [bf, (i 0), (i 0), (i 0), (i 0)], [bf, (i 0), (i 0), (i 0), (i 0)], [bf, (i 0), (i 0), (i 0), (i 0)], [bf, (i 0), (i 0), (i 0), (i 0)], [bf, (i 0), (i 0), (i 0), (i 0)], [bf, (i 0), (i 0), (i 0), (i 0)], [bf, (i 0), (i 0), (i 0), (i 0)], [bf, (i 0), (i 0), (i 0), (i 0)], [bf, (i 0), (i 0), (i 0), (i 0)], [bf, (i 0), (i 0), (i 0), (i 0)], [bf, (i 0), (i 0), (i 0), (i 0)], [bf, (i 0), (i 0), (i 0), (i 0)], [bf, (i 0), (i 0), (i 0), (i 0)], [bf, (i 0), (i 0), (i 0), (i 0)], [bf, (i 0), (i 0), (i 0), (i 0)], [bf, (i 0), (i 0), (i 0), (i 0)], [bf, (i 0), (i 0), (i 0), (i 0)], [bf, (i 0), (i 0), (i 0), (i 0)], [bf, (i 0), (i 0), (i 0), (i 0)]])], [e]]), .c (i 0), .c (i 0)]
def r226 : List RA := [.a [.c (y 0), .c e, .c e, .c bf, .c e, .c (y 0), .c (i 0), .c (i 0), .c bf, .c (y 0), .c e, .c e, .c e, .c e], .c (.c (i 4))]
theorem g226 : vcall (VN tb1) rounds 6 9 p226 = some r226 := by kernel_rfl
theorem s226 : Spec Go.Proofs.Tryz.prog 9 p226 r226 := fact tk1 g226
def p227 : List PA := [.a [m2, (y 2), m1, (l [[(i 0)], [(i 1)]]), bt, e, (y 1), (i 5), (i 0), bt, (y 2)], .c (i 0), .c (i 3)]
def r227 : List RA := [.a [.c e, .c e], .c (.c (i 2))]
theorem g227 : vcall (VN tb1) rounds 6 44 p227 = some r227 := by kernel_rfl
theorem s227 : Spec Go.Proofs.Tryz.prog 44 p227 r227 := fact tk1 g227
def p229 : List PA := [.a [m2, (y 2), m1, (l [[(i 0)], [(i 1)]]), bt, e, (y 1), (i 5), (i 0), bt, (y 2)], .c (i 4), .c (i 3)]
def r229 : List RA := [.a [.c e, .c e], .c (.c (i 2))]
theorem g229 : vcall (VN tb1) rounds 6 44 p229 = some r229 := by kernel_rfl
theorem s229 : Spec Go.Proofs.Tryz.prog 44 p229 r229 := fact tk1 g229
def p231 : List PA := [.a [m2, (y 2), m1, (l [[(i 0)], [(i 1)]]), bt, e, (y 1), (i 5), (i 0), bt, (y 2)], .c (i 1), .c (i 0)]
def r231 : List RA := [.a [.c e, .c e], .c (.c (i 2))]
theorem g231 : vcall (VN tb1) rounds 6 44 p231 = some r231 := by kernel_rfl
theorem s231 : Spec Go.Proofs.Tryz.prog 44 p231 r231 := fact tk1 g231
def p233 : List PA := [.a [m2, (y 2), m1, (l [[(i 0)], [(i 1)]]), bt, e, (y 1), (i 5), (i 0), bt, (y 2)], .c (i 1), .c (i 9)]
def r233 : List RA := [.a [.c e, .c e], .c (.c (i 2))]
theorem g233 : vcall (VN tb1) rounds 6 44 p233 = some r233 := by kernel_rfl
theorem s233 : Spec Go.Proofs.Tryz.prog 44 p233 r233 := fact tk1 g233
def p236 : List PA := [.c (s [])]
def r236 : List RA := [.a [.c (y 0), .c e, .c e, .c bf, .c e, .c (y 0), .c (i 0), .c (i 0), .c bf, .c (y 0)], .c (.c (i 0)), .c (.c (i 12))]
theorem g236 : vcall (VN tb1) rounds 6 40 p236 = some r236 := by kernel_rfl
theorem s236 : Spec Go.Proofs.Tryz.prog 40 p236 r236 := fact tk1 g236
def p239 : List PA := [.c (s [115, 101, 108, 101, 99, 116, 32, 99, 111, 117, 110, 116, 40, 42, 41, 32, 102, 114, 111, 109, 32, 97, 32, 119, 105, 110, 100, 111, 119, 32, 116, 117, 109, 98, 108, 101, 32, 53])]
def r239 : List RA := [.a [.c (y 2), .c (s [115, 101, 108, 101, 99, 116]), .c (i 0)]]
theorem g239 : vcall (VN tb1) rounds 6 135 p239 = some r239 := by kernel_rfl
theorem s239 : Spec Go.Proofs.Tryz.prog 135 p239 r239 := fact tk1 g239
def p240 : List PA := [.c (s [99, 111, 117, 110, 116, 40, 42, 41, 32, 102, 114, 111, 109, 32, 97, 32, 119, 105, 110, 100, 111, 119, 32, 116, 117, 109, 98, 108, 101, 32, 53])]
def r240 : List RA := [.a [.c (y 2), .c (s [99, 111, 117, 110, 116]), .c (i 0)]]
theorem g240 : vcall (VN tb1) rounds 6 135 p240 = some r240 := by kernel_rfl
theorem s240 : Spec Go.Proofs.Tryz.prog 135 p240 r240 := fact tk1 g240
end Tn.Bu
