import Derived.Test.YtcignakdmepfmaaGreatDoorEn1
/- Closed facts of one run, each by the kernel. -/
set_option linter.unusedVariables false
namespace Tn.En
open Go Go.Abs Tn
def p195 : List PA := [.a [(y 2), (i 0), (i 0), e, (l [[(i 9)]]), e, e, e, e]]
def r195 : List RA := [.c (.c (i 0))]
theorem g195 : vcall (VN tb1) rounds 6 153 p195 = some r195 := by kernel_rfl
theorem s195 : Spec Go.Proofs.Tryz.prog 153 p195 r195 := fact tk1 g195
def p197 : List PA := [.a [(y 2), (i 0), (i 0), m13, (l [[(i 9)]]), e, e, e, e]]
def r197 : List RA := [.c (.c (i 0))]
theorem g197 : vcall (VN tb1) rounds 6 153 p197 = some r197 := by kernel_rfl
theorem s197 : Spec Go.Proofs.Tryz.prog 153 p197 r197 := fact tk1 g197
def p209 : List PA := [.a [(y 4), (i 0), (i 0), e, (l [[(i (-9223372036854775808))]]), m24, e, e, e]]
def r209 : List RA := [.c (.c (i 0))]
theorem g209 : vcall (VN tb1) rounds 6 153 p209 = some r209 := by kernel_rfl
theorem s209 : Spec Go.Proofs.Tryz.prog 153 p209 r209 := fact tk1 g209
def p234 : List PA := [.a [(y 4), (i 0), (i 0), e, (l [[(i 9)]]), e, e, e, e]]
def r234 : List RA := [.c (.c (i 0))]
theorem g234 : vcall (VN tb1) rounds 6 153 p234 = some r234 := by kernel_rfl
theorem s234 : Spec Go.Proofs.Tryz.prog 153 p234 r234 := fact tk1 g234
def p237 : List PA := [.a [(y 4), (i 0), (i 0), m28, (l [[(i 9)]]), e, e, e, e]]
def r237 : List RA := [.c (.c (i 0))]
theorem g237 : vcall (VN tb1) rounds 6 153 p237 = some r237 := by kernel_rfl
theorem s237 : Spec Go.Proofs.Tryz.prog 153 p237 r237 := fact tk1 g237
def p264 : List PA := [.a [(y 6), (i 0), (i 0), e, e, e, e, m34, e]]
def r264 : List RA := [.c (.c (i 0))]
theorem g264 : vcall (VN tb1) rounds 6 153 p264 = some r264 := by kernel_rfl
theorem s264 : Spec Go.Proofs.Tryz.prog 153 p264 r264 := fact tk1 g264
def tb2 : List (FuncId × List PA × List RA) := [(135, p6, r6), (135, p12, r12), (171, p14, r14), (171, p16, r16), (171, p18, r18), (171, p20, r20), (171, p22, r22), (171, p24, r24), (135, p28, r28), (135, p31, r31), (135, p36, r36), (135, p39, r39), (135, p42, r42), (218, p46, r46), (257, p48, r48), (43, p68, r68), (44, p70, r70), (151, p82, r82), (153, p87, r87), (153, p91, r91), (153, p95, r95), (153, p98, r98), (153, p105, r105), (153, p111, r111), (58, p138, r138), (153, p143, r143), (153, p146, r146), (153, p158, r158), (153, p195, r195), (153, p197, r197), (153, p209, r209), (153, p234, r234), (153, p237, r237), (153, p264, r264)] ++ tb1
theorem tk2 : TOK Go.Proofs.Tryz.prog tb2 := TOK.app (l := [(135, p6, r6), (135, p12, r12), (171, p14, r14), (171, p16, r16), (171, p18, r18), (171, p20, r20), (171, p22, r22), (171, p24, r24), (135, p28, r28), (135, p31, r31), (135, p36, r36), (135, p39, r39), (135, p42, r42), (218, p46, r46), (257, p48, r48), (43, p68, r68), (44, p70, r70), (151, p82, r82), (153, p87, r87), (153, p91, r91), (153, p95, r95), (153, p98, r98), (153, p105, r105), (153, p111, r111), (58, p138, r138), (153, p143, r143), (153, p146, r146), (153, p158, r158), (153, p195, r195), (153, p197, r197), (153, p209, r209), (153, p234, r234), (153, p237, r237), (153, p264, r264)]) ⟨s6, s12, s14, s16, s18, s20, s22, s24, s28, s31, s36, s39, s42, s46, s48, s68, s70, s82, s87, s91, s95, s98, s105, s111, s138, s143, s146, s158, s195, s197, s209, s234, s237, s264, trivial⟩ tk1
def p15 : List PA := [.c (s [40, 42, 41, 32, 102, 114, 111, 109, 32, 97, 32, 119, 105, 110, 100, 111, 119, 32, 116, 117, 109, 98, 108, 101, 32, 53])]
def r15 : List RA := [.a [.c (y 3), .c (s [40]), .c (i 0)]]
theorem g15 : vcall (VN tb2) rounds 6 135 p15 = some r15 := by kernel_rfl
theorem s15 : Spec Go.Proofs.Tryz.prog 135 p15 r15 := fact tk2 g15
def p19 : List PA := [.c (s [42, 41, 32, 102, 114, 111, 109, 32, 97, 32, 119, 105, 110, 100, 111, 119, 32, 116, 117, 109, 98, 108, 101, 32, 53])]
def r19 : List RA := [.a [.c (y 3), .c (s [42]), .c (i 0)]]
theorem g19 : vcall (VN tb2) rounds 6 135 p19 = some r19 := by kernel_rfl
theorem s19 : Spec Go.Proofs.Tryz.prog 135 p19 r19 := fact tk2 g19
def p23 : List PA := [.c (s [41, 32, 102, 114, 111, 109, 32, 97, 32, 119, 105, 110, 100, 111, 119, 32, 116, 117, 109, 98, 108, 101, 32, 53])]
def r23 : List RA := [.a [.c (y 3), .c (s [41]), .c (i 0)]]
theorem g23 : vcall (VN tb2) rounds 6 135 p23 = some r23 := by kernel_rfl
theorem s23 : Spec Go.Proofs.Tryz.prog 135 p23 r23 := fact tk2 g23
def p49 : List PA := [.c (s [53]), .c (i 10), .c (i 64)]
def r49 : List RA := [.c (.c (i 5)), .c (.e false)]
theorem g49 : vcall (VN tb2) rounds 6 219 p49 = some r49 := by kernel_rfl
theorem s49 : Spec Go.Proofs.Tryz.prog 219 p49 r49 := fact tk2 g49
def p75 : List PA := [.a [(y 1), e, (l [[(i 0)]]), bf, e, (y 1), (i 5), (i 0), bf, (y 1)], .c m2, .c (i 1), .c (i 1)]
def r75 : List RA := [.a [.c (y 1), .c e, .c (l [[(i 0)]]), .c bf, .c e, .c (y 1), .c (i 5), .c (i 0), .c bf, .c (y 1), .c m3, .c m4, .c m5, .c m6], .c (.c (i 0))]
theorem g75 : vcall (VN tb2) rounds 6 9 p75 = some r75 := by kernel_rfl
theorem s75 : Spec Go.Proofs.Tryz.prog 9 p75 r75 := fact tk2 g75
def p83 : List PA := [.a [m3, m4]]
def r83 : List RA := [.c (.c (i 0))]
theorem g83 : vcall (VN tb2) rounds 6 102 p83 = some r83 := by kernel_rfl
theorem s83 : Spec Go.Proofs.Tryz.prog 102 p83 r83 := fact tk2 g83
def p104 : List PA := [.a [(y 1), (i 0), (i 0), e, e, e, m1, e, e], .c e, .c (l [[(i 1), e]])]
def r104 : List RA := [.c (.c bt), .c (.c (i 0))]
theorem g104 : vcall (VN tb2) rounds 6 108 p104 = some r104 := by kernel_rfl
theorem s104 : Spec Go.Proofs.Tryz.prog 108 p104 r104 := fact tk2 g104
def p106 : List PA := [.a [(y 1), (i 0), (i 0), e, e, e, m1, e, e], .c e]
def r106 : List RA := [.a [.c (y 1), .c (i 0), .c (i 0), .s 156 11 [], .s 2 1 [], .s 212 11 [], .s 34 5 [[bf, (i 0), (i 0), (i 1), (i 0)], [bt, (i 9), (i 0), (i 0), (i 0)]], .s 92 5 [], .s 32 3 []], .c (.c (i 0))]
theorem g106 : vcall (VN tb2) rounds 6 157 p106 = some r106 := by kernel_rfl
theorem s106 : Spec Go.Proofs.Tryz.prog 157 p106 r106 := fact tk2 g106
def p107 : List PA := [.a [(y 2), (i 0), (i 0), e, (l [[(i (-9223372036854775808))]]), e, e, e, e], .c e]
def r107 : List RA := [.a [.c (y 2), .c (i 0), .c (i 0), .s 156 11 [], .s 2 1 [[(i (-9223372036854775808))]], .s 212 11 [], .s 34 5 [], .s 92 5 [], .s 32 3 []], .c (.c (i 0))]
theorem g107 : vcall (VN tb2) rounds 6 157 p107 = some r107 := by kernel_rfl
theorem s107 : Spec Go.Proofs.Tryz.prog 157 p107 r107 := fact tk2 g107
def p108 : List PA := [.a [(y 4), (i 0), (i 0), e, (l [[(i (-9223372036854775808))]]), e, e, e, e], .c e]
def r108 : List RA := [.a [.c (y 4), .c (i 0), .c (i 0), .s 156 11 [], .s 2 1 [[(i (-9223372036854775808))]], .s 212 11 [], .s 34 5 [], .s 92 5 [], .s 32 3 []], .c (.c (i 0))]
theorem g108 : vcall (VN tb2) rounds 6 157 p108 = some r108 := by kernel_rfl
theorem s108 : Spec Go.Proofs.Tryz.prog 157 p108 r108 := fact tk2 g108
def p109 : List PA := [.a [(y 6), (i 0), (i 0), e, e, e, e, e, e], .c e]
def r109 : List RA := [.a [.c (y 6), .c (i 0), .c (i 0), .s 156 11 [], .s 2 1 [], .s 212 11 [], .s 34 5 [], .s 92 5 [], .s 32 3 []], .c (.c (i 0))]
theorem g109 : vcall (VN tb2) rounds 6 157 p109 = some r109 := by kernel_rfl
theorem s109 : Spec Go.Proofs.Tryz.prog 157 p109 r109 := fact tk2 g109
def p115 : List PA := [.a [(y 1), (i 0), (i 0), m7, e, e, (l [[bt, (i 9), (i 0), (i 0), (i 0)]]), e, e], .c e, .c (l [[(i 1), e]])]
def r115 : List RA := [.c (.c bt), .c (.c (i 0))]
theorem g115 : vcall (VN tb2) rounds 6 108 p115 = some r115 := by kernel_rfl
theorem s115 : Spec Go.Proofs.Tryz.prog 108 p115 r115 := fact tk2 g115
def p117 : List PA := [.a [(y 1), (i 0), (i 0), m7, e, e, (l [[bt, (i 9), (i 0), (i 0), (i 0)]]), e, e], .c (l [[(i 1), e]])]
def r117 : List RA := [.a [.c (y 1), .c (i 0), .c (i 0), .c e, .s 2 1 [], .s 212 11 [], .s 34 5 [[bt, (i 9), (i 0), (i 0), (i 0)]], .s 92 5 [], .s 32 3 []], .c (.s 59 2 [[(i 1), m9]]), .c (.c (i 0))]
theorem g117 : vcall (VN tb2) rounds 6 110 p117 = some r117 := by kernel_rfl
theorem s117 : Spec Go.Proofs.Tryz.prog 110 p117 r117 := fact tk2 g117
def p118 : List PA := [.a [(y 1), (i 0), (i 0), m7, e, e, (l [[bt, (i 9), (i 0), (i 0), (i 0)]]), e, e], .c e]
def r118 : List RA := [.a [.c (y 1), .c (i 0), .c (i 0), .s 156 11 [[(i 0), (y 1), (i 0), (i 1), (i 0), (i 0), (i 0), (i 0), (i 0), (i 0), (i 0)]], .s 2 1 [], .s 212 11 [], .s 34 5 [[bt, (i 9), (i 0), (i 0), (i 0)]], .s 92 5 [], .s 32 3 []], .c (.c (i 0))]
theorem g118 : vcall (VN tb2) rounds 6 157 p118 = some r118 := by kernel_rfl
theorem s118 : Spec Go.Proofs.Tryz.prog 157 p118 r118 := fact tk2 g118
def p124 : List PA := [.a [(y 1), (i 0), (i 0), e, e, e, (l [[bt, (i 9), (i 0), (i 0), (i 0)]]), e, e], .c e, .c m12]
def r124 : List RA := [.c (.c bt), .c (.c (i 0))]
theorem g124 : vcall (VN tb2) rounds 6 108 p124 = some r124 := by kernel_rfl
theorem s124 : Spec Go.Proofs.Tryz.prog 108 p124 r124 := fact tk2 g124
def p126 : List PA := [.a [(y 2), (i 0), (i 0), e, (l [[(i (-9223372036854775808))]]), e, e, e, e], .c m12, .c (l [[(i 1), e]])]
def r126 : List RA := [.c (.c bt), .c (.c (i 0))]
theorem g126 : vcall (VN tb2) rounds 6 108 p126 = some r126 := by kernel_rfl
theorem s126 : Spec Go.Proofs.Tryz.prog 108 p126 r126 := fact tk2 g126
def p128 : List PA := [.a [(y 4), (i 0), (i 0), e, (l [[(i (-9223372036854775808))]]), e, e, e, e], .c (l [[(i 1), e]]), .c (l [[(i 1), e]])]
def r128 : List RA := [.c (.c bf), .c (.c (i 0))]
theorem g128 : vcall (VN tb2) rounds 6 108 p128 = some r128 := by kernel_rfl
theorem s128 : Spec Go.Proofs.Tryz.prog 108 p128 r128 := fact tk2 g128
def p129 : List PA := [.a [(y 6), (i 0), (i 0), e, e, e, e, e, e], .c (l [[(i 1), e]]), .c e]
def r129 : List RA := [.c (.c bf), .c (.c (i 0))]
theorem g129 : vcall (VN tb2) rounds 6 108 p129 = some r129 := by kernel_rfl
theorem s129 : Spec Go.Proofs.Tryz.prog 108 p129 r129 := fact tk2 g129
def p139 : List PA := [.a [(y 0), e, e, bf, e, (y 0), (i 0), (i 0), bf, (y 0), e, e, e, e]]
def r139 : List RA := [.c (.c e), .c (.c (i 8))]
theorem g139 : vcall (VN tb2) rounds 6 16 p139 = some r139 := by kernel_rfl
theorem s139 : Spec Go.Proofs.Tryz.prog 16 p139 r139 := fact tk2 g139
def p141 : List PA := [.a [(y 0), e, e, bf, e, (y 0), (i 0), (i 0), bf, (y 0), e, e, e, e]]
def r141 : List RA := [.a [.c (i 0), .c (i 0), .c (i 0)], .c (.c (i 8))]
theorem g141 : vcall (VN tb2) rounds 6 18 p141 = some r141 := by kernel_rfl
theorem s141 : Spec Go.Proofs.Tryz.prog 18 p141 r141 := fact tk2 g141
def p144 : List PA := [.a [(y 1), (i 0), (i 0), e, e, e, (l [[bt, (i 9), (i 0), (i 0), (i 0)]]), e, e], .c e]
def r144 : List RA := [.a [.c (y 1), .c (i 0), .c (i 0), .s 156 11 [], .s 2 1 [], .s 212 11 [], .s 34 5 [[bt, (i 9), (i 0), (i 0), (i 0)]], .s 92 5 [], .s 32 3 []], .c (.c (i 0))]
theorem g144 : vcall (VN tb2) rounds 6 157 p144 = some r144 := by kernel_rfl
theorem s144 : Spec Go.Proofs.Tryz.prog 157 p144 r144 := fact tk2 g144
def p150 : List PA := [.a [(y 1), (i 0), (i 0), m13, e, e, e, e, e], .c e, .c m12]
def r150 : List RA := [.c (.c bf), .c (.c (i 0))]
theorem g150 : vcall (VN tb2) rounds 6 108 p150 = some r150 := by kernel_rfl
theorem s150 : Spec Go.Proofs.Tryz.prog 108 p150 r150 := fact tk2 g150
def p155 : List PA := [.a [(y 2), (i 0), (i 0), e, (l [[(i (-9223372036854775808))]]), e, e, e, e], .c m12]
def r155 : List RA := [.c (.c (i 0)), .a [.c (y 2), .c (i 0), .c (i 0), .s 156 11 [], .s 2 1 [[(i (-9223372036854775808))]], .s 212 11 [], .s 34 5 [], .s 92 5 [], .s 32 3 []], .c (.c (i 0))]
theorem g155 : vcall (VN tb2) rounds 6 70 p155 = some r155 := by kernel_rfl
theorem s155 : Spec Go.Proofs.Tryz.prog 70 p155 r155 := fact tk2 g155
def p156 : List PA := [.a [(y 1), (i 0), (i 0), m13, e, e, e, e, e], .c e]
def r156 : List RA := [.a [.c (y 1), .c (i 0), .c (i 0), .s 156 11 [[(i 0), (y 2), (i 0), (i 0), (i 0), (i 9), (i 0), (i 0), (i 0), (i 0), (i 0)]], .s 2 1 [], .s 212 11 [], .s 34 5 [], .s 92 5 [], .s 32 3 []], .c (.c (i 0))]
theorem g156 : vcall (VN tb2) rounds 6 157 p156 = some r156 := by kernel_rfl
theorem s156 : Spec Go.Proofs.Tryz.prog 157 p156 r156 := fact tk2 g156
def p162 : List PA := [.a [(y 1), (i 0), (i 0), m13, e, e, e, e, e], .c e, .c (l [[(i 1), e]])]
def r162 : List RA := [.c (.c bt), .c (.c (i 0))]
theorem g162 : vcall (VN tb2) rounds 6 108 p162 = some r162 := by kernel_rfl
theorem s162 : Spec Go.Proofs.Tryz.prog 108 p162 r162 := fact tk2 g162
def p164 : List PA := [.a [(y 2), (i 0), (i 0), m7, (l [[(i (-9223372036854775808))]]), e, e, e, e], .c (l [[(i 1), e]]), .c (l [[(i 1), e]])]
def r164 : List RA := [.c (.c bt), .c (.c (i 0))]
theorem g164 : vcall (VN tb2) rounds 6 108 p164 = some r164 := by kernel_rfl
theorem s164 : Spec Go.Proofs.Tryz.prog 108 p164 r164 := fact tk2 g164
def p169 : List PA := [.a [(y 1), (i 0), (i 0), m13, e, e, e, e, e], .c (l [[(i 1), e]])]
def r169 : List RA := [.a [.c (y 1), .c (i 0), .c (i 0), .c e, .s 2 1 [], .s 212 11 [], .s 34 5 [], .s 92 5 [], .s 32 3 []], .c (.s 59 2 [[(i 1), m16]]), .c (.c (i 0))]
theorem g169 : vcall (VN tb2) rounds 6 110 p169 = some r169 := by kernel_rfl
theorem s169 : Spec Go.Proofs.Tryz.prog 110 p169 r169 := fact tk2 g169
def p170 : List PA := [.a [(y 2), (i 0), (i 0), m7, (l [[(i (-9223372036854775808))]]), e, e, e, e], .c e]
def r170 : List RA := [.a [.c (y 2), .c (i 0), .c (i 0), .s 156 11 [[(i 0), (y 1), (i 0), (i 1), (i 0), (i 0), (i 0), (i 0), (i 0), (i 0), (i 0)]], .s 2 1 [[(i (-9223372036854775808))]], .s 212 11 [], .s 34 5 [], .s 92 5 [], .s 32 3 []], .c (.c (i 0))]
theorem g170 : vcall (VN tb2) rounds 6 157 p170 = some r170 := by kernel_rfl
theorem s170 : Spec Go.Proofs.Tryz.prog 157 p170 r170 := fact tk2 g170
def p176 : List PA := [.a [(y 1), (i 0), (i 0), e, e, e, e, e, e], .c e, .c m19]
def r176 : List RA := [.c (.c bf), .c (.c (i 0))]
theorem g176 : vcall (VN tb2) rounds 6 108 p176 = some r176 := by kernel_rfl
theorem s176 : Spec Go.Proofs.Tryz.prog 108 p176 r176 := fact tk2 g176
def p178 : List PA := [.a [(y 2), (i 0), (i 0), m7, (l [[(i (-9223372036854775808))]]), e, e, e, e], .c m19, .c (l [[(i 1), e]])]
def r178 : List RA := [.c (.c bt), .c (.c (i 0))]
theorem g178 : vcall (VN tb2) rounds 6 108 p178 = some r178 := by kernel_rfl
theorem s178 : Spec Go.Proofs.Tryz.prog 108 p178 r178 := fact tk2 g178
def p182 : List PA := [.a [(y 2), (i 0), (i 0), m7, (l [[(i (-9223372036854775808))]]), e, e, e, e], .c (l [[(i 1), e]])]
def r182 : List RA := [.a [.c (y 2), .c (i 0), .c (i 0), .c e, .s 2 1 [[(i (-9223372036854775808))]], .s 212 11 [], .s 34 5 [], .s 92 5 [], .s 32 3 []], .c (.s 59 2 [[(i 1), m9]]), .c (.c (i 0))]
theorem g182 : vcall (VN tb2) rounds 6 110 p182 = some r182 := by kernel_rfl
theorem s182 : Spec Go.Proofs.Tryz.prog 110 p182 r182 := fact tk2 g182
def p183 : List PA := [.a [(y 1), (i 0), (i 0), e, e, e, e, e, e], .c e]
def r183 : List RA := [.a [.c (y 1), .c (i 0), .c (i 0), .s 156 11 [], .s 2 1 [], .s 212 11 [], .s 34 5 [], .s 92 5 [], .s 32 3 []], .c (.c (i 0))]
theorem g183 : vcall (VN tb2) rounds 6 157 p183 = some r183 := by kernel_rfl
theorem s183 : Spec Go.Proofs.Tryz.prog 157 p183 r183 := fact tk2 g183
def p189 : List PA := [.a [(y 2), (i 0), (i 0), e, (l [[(i (-9223372036854775808))]]), e, e, e, e], .c m19, .c m12]
def r189 : List RA := [.c (.c bt), .c (.c (i 0))]
theorem g189 : vcall (VN tb2) rounds 6 108 p189 = some r189 := by kernel_rfl
theorem s189 : Spec Go.Proofs.Tryz.prog 108 p189 r189 := fact tk2 g189
def p191 : List PA := [.a [(y 4), (i 0), (i 0), e, (l [[(i (-9223372036854775808))]]), e, e, e, e], .c m12, .c (l [[(i 1), e]])]
def r191 : List RA := [.c (.c bt), .c (.c (i 0))]
theorem g191 : vcall (VN tb2) rounds 6 108 p191 = some r191 := by kernel_rfl
theorem s191 : Spec Go.Proofs.Tryz.prog 108 p191 r191 := fact tk2 g191
def p194 : List PA := [.a [(y 2), (i 0), (i 0), e, (l [[(i (-9223372036854775808))]]), e, e, e, e], .c m19]
def r194 : List RA := [.c (.c (i 0)), .a [.c (y 2), .c (i 0), .c (i 0), .s 156 11 [], .s 2 1 [[(i (-9223372036854775808))]], .s 212 11 [], .s 34 5 [], .s 92 5 [], .s 32 3 []], .c (.c (i 0))]
theorem g194 : vcall (VN tb2) rounds 6 70 p194 = some r194 := by kernel_rfl
theorem s194 : Spec Go.Proofs.Tryz.prog 70 p194 r194 := fact tk2 g194
def p201 : List PA := [.a [(y 1), (i 0), (i 0), e, e, e, e, e, e], .c e, .c (l [[(i 1), e]])]
def r201 : List RA := [.c (.c bf), .c (.c (i 0))]
theorem g201 : vcall (VN tb2) rounds 6 108 p201 = some r201 := by kernel_rfl
theorem s201 : Spec Go.Proofs.Tryz.prog 108 p201 r201 := fact tk2 g201
def p203 : List PA := [.a [(y 2), (i 0), (i 0), m13, (l [[(i 9)]]), e, e, e, e], .c (l [[(i 1), e]]), .c m12]
def r203 : List RA := [.c (.c bf), .c (.c (i 0))]
theorem g203 : vcall (VN tb2) rounds 6 108 p203 = some r203 := by kernel_rfl
theorem s203 : Spec Go.Proofs.Tryz.prog 108 p203 r203 := fact tk2 g203
def p207 : List PA := [.a [(y 4), (i 0), (i 0), e, (l [[(i (-9223372036854775808))]]), e, e, e, e], .c m12]
def r207 : List RA := [.c (.c (i 0)), .a [.c (y 4), .c (i 0), .c (i 0), .s 156 11 [], .s 2 1 [[(i (-9223372036854775808))]], .s 212 11 [], .s 34 5 [], .s 92 5 [], .s 32 3 []], .c (.c (i 0))]
theorem g207 : vcall (VN tb2) rounds 6 70 p207 = some r207 := by kernel_rfl
theorem s207 : Spec Go.Proofs.Tryz.prog 70 p207 r207 := fact tk2 g207
def p210 : List PA := [.a [(y 2), (i 0), (i 0), m13, (l [[(i 9)]]), e, e, e, e], .c e]
def r210 : List RA := [.a [.c (y 2), .c (i 0), .c (i 0), .s 156 11 [[(i 0), (y 2), (i 0), (i 0), (i 0), (i 9), (i 0), (i 0), (i 0), (i 0), (i 0)]], .s 2 1 [[(i 9)]], .s 212 11 [], .s 34 5 [], .s 92 5 [], .s 32 3 []], .c (.c (i 0))]
theorem g210 : vcall (VN tb2) rounds 6 157 p210 = some r210 := by kernel_rfl
theorem s210 : Spec Go.Proofs.Tryz.prog 157 p210 r210 := fact tk2 g210
def p216 : List PA := [.a [(y 2), (i 0), (i 0), m13, (l [[(i 9)]]), e, e, e, e], .c (l [[(i 1), e]]), .c (l [[(i 1), e]])]
def r216 : List RA := [.c (.c bt), .c (.c (i 0))]
theorem g216 : vcall (VN tb2) rounds 6 108 p216 = some r216 := by kernel_rfl
theorem s216 : Spec Go.Proofs.Tryz.prog 108 p216 r216 := fact tk2 g216
def p218 : List PA := [.a [(y 4), (i 0), (i 0), e, (l [[(i (-9223372036854775808))]]), m24, e, e, e], .c (l [[(i 1), e]]), .c (l [[(i 1), e]])]
def r218 : List RA := [.c (.c bf), .c (.c (i 0))]
theorem g218 : vcall (VN tb2) rounds 6 108 p218 = some r218 := by kernel_rfl
theorem s218 : Spec Go.Proofs.Tryz.prog 108 p218 r218 := fact tk2 g218
def p221 : List PA := [.a [(y 2), (i 0), (i 0), m13, (l [[(i 9)]]), e, e, e, e], .c (l [[(i 1), e]])]
def r221 : List RA := [.a [.c (y 2), .c (i 0), .c (i 0), .c e, .s 2 1 [[(i 9)]], .s 212 11 [], .s 34 5 [], .s 92 5 [], .s 32 3 []], .c (.s 59 2 [[(i 1), m16]]), .c (.c (i 0))]
theorem g221 : vcall (VN tb2) rounds 6 110 p221 = some r221 := by kernel_rfl
theorem s221 : Spec Go.Proofs.Tryz.prog 110 p221 r221 := fact tk2 g221
def p222 : List PA := [.a [(y 4), (i 0), (i 0), e, (l [[(i (-9223372036854775808))]]), m24, e, e, e], .c e]
def r222 : List RA := [.a [.c (y 4), .c (i 0), .c (i 0), .s 156 11 [], .s 2 1 [[(i (-9223372036854775808))]], .s 212 11 [[(i 0), (i 0), (i 5), (i 1), (i 0), (i 0), (i 0), (i 0), (i 0), (i 0), (i 0)]], .s 34 5 [], .s 92 5 [], .s 32 3 []], .c (.c (i 0))]
theorem g222 : vcall (VN tb2) rounds 6 157 p222 = some r222 := by kernel_rfl
theorem s222 : Spec Go.Proofs.Tryz.prog 157 p222 r222 := fact tk2 g222
def p228 : List PA := [.a [(y 2), (i 0), (i 0), e, (l [[(i 9)]]), e, e, e, e], .c (l [[(i 1), e]]), .c m19]
def r228 : List RA := [.c (.c bf), .c (.c (i 0))]
theorem g228 : vcall (VN tb2) rounds 6 108 p228 = some r228 := by kernel_rfl
theorem s228 : Spec Go.Proofs.Tryz.prog 108 p228 r228 := fact tk2 g228
def p230 : List PA := [.a [(y 4), (i 0), (i 0), e, (l [[(i (-9223372036854775808))]]), m24, e, e, e], .c m19, .c (l [[(i 1), e]])]
def r230 : List RA := [.c (.c bt), .c (.c (i 0))]
theorem g230 : vcall (VN tb2) rounds 6 108 p230 = some r230 := by kernel_rfl
theorem s230 : Spec Go.Proofs.Tryz.prog 108 p230 r230 := fact tk2 g230
def p233 : List PA := [.a [(y 4), (i 0), (i 0), e, (l [[(i (-9223372036854775808))]]), m24, e, e, e], .c m19]
def r233 : List RA := [.c (.c (i 0)), .a [.c (y 4), .c (i 0), .c (i 0), .s 156 11 [], .s 2 1 [[(i (-9223372036854775808))]], .s 212 11 [[(i 0), (i 0), (i 5), (i 1), (i 0), (i 0), (i 0), (i 0), (i 0), (i 0), (i 0)]], .s 34 5 [], .s 92 5 [], .s 32 3 []], .c (.c (i 0))]
theorem g233 : vcall (VN tb2) rounds 6 70 p233 = some r233 := by kernel_rfl
theorem s233 : Spec Go.Proofs.Tryz.prog 70 p233 r233 := fact tk2 g233
end Tn.En
