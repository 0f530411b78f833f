import Derived.Test.YtcignakdmepfmaaGreatDoorRRu1
/- Closed facts of one run, each by the kernel. -/
set_option linter.unusedVariables false
namespace Tn.Ru
open Go Go.Abs Tn
def p70 : List PA := [.a [m0, (y 1), e, (l [[(i 0)]]), bf, e, (y 1), (i 5), (i 0), bf, (y 1)], .c (i 1), .c (i 1)]
def r70 : List RA := [.a [.c m3, .c m4], .c (.c (i 0))]
theorem g70 : vcall (VN tb1) rounds 6 44 p70 = some r70 := by kernel_rfl
theorem s70 : Spec Go.Proofs.Tryz.prog 44 p70 r70 := fact tk1 g70
def p82 : List PA := [.a [m3, m4]]
def r82 : List RA := [.c (.c bt)]
theorem g82 : vcall (VN tb1) rounds 6 151 p82 = some r82 := by kernel_rfl
theorem s82 : Spec Go.Proofs.Tryz.prog 151 p82 r82 := fact tk1 g82
def p87 : List PA := [.a [(y 1), (i 0), (i 0), e, e, e, m1, e, e]]
def r87 : List RA := [.c (.c (i 0))]
theorem g87 : vcall (VN tb1) rounds 6 153 p87 = some r87 := by kernel_rfl
theorem s87 : Spec Go.Proofs.Tryz.prog 153 p87 r87 := fact tk1 g87
def p91 : List PA := [.a [(y 2), (i 0), (i 0), e, (l [[(i (-9223372036854775808))]]), e, e, e, e]]
def r91 : List RA := [.c (.c (i 0))]
theorem g91 : vcall (VN tb1) rounds 6 153 p91 = some r91 := by kernel_rfl
theorem s91 : Spec Go.Proofs.Tryz.prog 153 p91 r91 := fact tk1 g91
def p95 : List PA := [.a [(y 4), (i 0), (i 0), e, (l [[(i (-9223372036854775808))]]), e, e, e, e]]
def r95 : List RA := [.c (.c (i 0))]
theorem g95 : vcall (VN tb1) rounds 6 153 p95 = some r95 := by kernel_rfl
theorem s95 : Spec Go.Proofs.Tryz.prog 153 p95 r95 := fact tk1 g95
def p98 : List PA := [.a [(y 6), (i 0), (i 0), e, e, e, e, e, e]]
def r98 : List RA := [.c (.c (i 0))]
theorem g98 : vcall (VN tb1) rounds 6 153 p98 = some r98 := by kernel_rfl
theorem s98 : Spec Go.Proofs.Tryz.prog 153 p98 r98 := fact tk1 g98
def p120 : List PA := [.a [(y 0), e, e, bf, e, (y 0), (i 0), (i 0), bf, (y 0), e, e, e, e]]
def r120 : List RA := [.c (.c (i 8))]
theorem g120 : vcall (VN tb1) rounds 6 58 p120 = some r120 := by kernel_rfl
theorem s120 : Spec Go.Proofs.Tryz.prog 58 p120 r120 := fact tk1 g120
def p127 : List PA := [.a [(y 1), (i 0), (i 0), e, e, e, m9, e, e]]
def r127 : List RA := [.c (.c (i 0))]
theorem g127 : vcall (VN tb1) rounds 6 153 p127 = some r127 := by kernel_rfl
theorem s127 : Spec Go.Proofs.Tryz.prog 153 p127 r127 := fact tk1 g127
def p134 : List PA := [.a [(y 1), (i 0), (i 0), m8, e, e, m9, e, e]]
def r134 : List RA := [.c (.c (i 0))]
theorem g134 : vcall (VN tb1) rounds 6 153 p134 = some r134 := by kernel_rfl
theorem s134 : Spec Go.Proofs.Tryz.prog 153 p134 r134 := fact tk1 g134
def p153 : List PA := [.a [(y 2), (i 0), (i 0), m8, (l [[(i (-9223372036854775808))]]), e, e, e, e]]
def r153 : List RA := [.c (.c (i 0))]
theorem g153 : vcall (VN tb1) rounds 6 153 p153 = some r153 := by kernel_rfl
theorem s153 : Spec Go.Proofs.Tryz.prog 153 p153 r153 := fact tk1 g153
def p166 : List PA := [.a [(y 1), (i 0), (i 0), e, e, e, e, e, e]]
def r166 : List RA := [.c (.c (i 0))]
theorem g166 : vcall (VN tb1) rounds 6 153 p166 = some r166 := by kernel_rfl
theorem s166 : Spec Go.Proofs.Tryz.prog 153 p166 r166 := fact tk1 g166
def p169 : List PA := [.a [(y 1), (i 0), (i 0), m17, e, e, e, e, e]]
def r169 : List RA := [.c (.c (i 0))]
theorem g169 : vcall (VN tb1) rounds 6 153 p169 = some r169 := by kernel_rfl
theorem s169 : Spec Go.Proofs.Tryz.prog 153 p169 r169 := fact tk1 g169
def p186 : List PA := [.a [(y 4), (i 0), (i 0), e, (l [[(i (-9223372036854775808))]]), m22, e, e, e]]
def r186 : List RA := [.c (.c (i 0))]
theorem g186 : vcall (VN tb1) rounds 6 153 p186 = some r186 := by kernel_rfl
theorem s186 : Spec Go.Proofs.Tryz.prog 153 p186 r186 := fact tk1 g186
def p195 : List PA := [.a [(y 2), (i 0), (i 0), e, (l [[(i 9223372036854775807)]]), e, e, e, e]]
def r195 : List RA := [.c (.c (i 0))]
theorem g195 : vcall (VN tb1) rounds 6 153 p195 = some r195 := by kernel_rfl
theorem s195 : Spec Go.Proofs.Tryz.prog 153 p195 r195 := fact tk1 g195
def p199 : List PA := [.a [(y 2), (i 0), (i 0), m17, (l [[(i 9223372036854775807)]]), e, e, e, e]]
def r199 : List RA := [.c (.c (i 0))]
theorem g199 : vcall (VN tb1) rounds 6 153 p199 = some r199 := by kernel_rfl
theorem s199 : Spec Go.Proofs.Tryz.prog 153 p199 r199 := fact tk1 g199
def p213 : List PA := [.a [(y 4), (i 0), (i 0), e, (l [[(i 9223372036854775807)]]), e, e, e, e]]
def r213 : List RA := [.c (.c (i 0))]
theorem g213 : vcall (VN tb1) rounds 6 153 p213 = some r213 := by kernel_rfl
theorem s213 : Spec Go.Proofs.Tryz.prog 153 p213 r213 := fact tk1 g213
def p217 : List PA := [.a [(y 4), (i 0), (i 0), m29, (l [[(i 9223372036854775807)]]), e, e, e, e]]
def r217 : List RA := [.c (.c (i 0))]
theorem g217 : vcall (VN tb1) rounds 6 153 p217 = some r217 := by kernel_rfl
theorem s217 : Spec Go.Proofs.Tryz.prog 153 p217 r217 := fact tk1 g217
def p236 : List PA := [.a [(y 6), (i 0), (i 0), e, e, e, e, m35, e]]
def r236 : List RA := [.c (.c (i 0))]
theorem g236 : vcall (VN tb1) rounds 6 153 p236 = some r236 := by kernel_rfl
theorem s236 : Spec Go.Proofs.Tryz.prog 153 p236 r236 := fact tk1 g236
def p267 : List PA := [.a [(y 1), e, (l [[(i 0)]]), bf, e, (y 1), (i 5), (i 0), bf, (y 1), m3, m4, m6, m7], .a [(y 1), e, (l [[(i 0)]]), bf, e, (y 1), (i 5), (i 0), bf, (y 1), m3, m4, m6, m7]]
def r267 : List RA := [.c (.c bt)]
theorem g267 : vcall (VN tb1) rounds 6 26 p267 = some r267 := by kernel_rfl
theorem s267 : Spec Go.Proofs.Tryz.prog 26 p267 r267 := fact tk1 g267
def p272 : List PA := [.a [(y 1), (i 0), (i 0), e, e, e, m38, e, e]]
def r272 : List RA := [.c (.c (i 0))]
theorem g272 : vcall (VN tb1) rounds 6 153 p272 = some r272 := by kernel_rfl
theorem s272 : Spec Go.Proofs.Tryz.prog 153 p272 r272 := fact tk1 g272
def p283 : List PA := [.a [(y 1), (i 0), (i 0), m8, e, e, e, e, e]]
def r283 : List RA := [.c (.c (i 0))]
theorem g283 : vcall (VN tb1) rounds 6 153 p283 = some r283 := by kernel_rfl
theorem s283 : Spec Go.Proofs.Tryz.prog 153 p283 r283 := fact tk1 g283
def tb2 : List (FuncId × List PA × List RA) := [(135, p6, r6), (135, p12, r12), (171, p14, r14), (171, p16, r16), (171, p18, r18), (171, p20, r20), (171, p22, r22), (171, p24, r24), (135, p28, r28), (135, p31, r31), (135, p36, r36), (135, p39, r39), (135, p42, r42), (218, p46, r46), (257, p48, r48), (43, p68, r68), (44, p70, r70), (151, p82, r82), (153, p87, r87), (153, p91, r91), (153, p95, r95), (153, p98, r98), (58, p120, r120), (153, p127, r127), (153, p134, r134), (153, p153, r153), (153, p166, r166), (153, p169, r169), (153, p186, r186), (153, p195, r195), (153, p199, r199), (153, p213, r213), (153, p217, r217), (153, p236, r236), (26, p267, r267), (153, p272, r272), (153, p283, r283)] ++ tb1
theorem tk2 : TOK Go.Proofs.Tryz.prog tb2 := TOK.app (l := [(135, p6, r6), (135, p12, r12), (171, p14, r14), (171, p16, r16), (171, p18, r18), (171, p20, r20), (171, p22, r22), (171, p24, r24), (135, p28, r28), (135, p31, r31), (135, p36, r36), (135, p39, r39), (135, p42, r42), (218, p46, r46), (257, p48, r48), (43, p68, r68), (44, p70, r70), (151, p82, r82), (153, p87, r87), (153, p91, r91), (153, p95, r95), (153, p98, r98), (58, p120, r120), (153, p127, r127), (153, p134, r134), (153, p153, r153), (153, p166, r166), (153, p169, r169), (153, p186, r186), (153, p195, r195), (153, p199, r199), (153, p213, r213), (153, p217, r217), (153, p236, r236), (26, p267, r267), (153, p272, r272), (153, p283, r283)]) ⟨s6, s12, s14, s16, s18, s20, s22, s24, s28, s31, s36, s39, s42, s46, s48, s68, s70, s82, s87, s91, s95, s98, s120, s127, s134, s153, s166, s169, s186, s195, s199, s213, s217, s236, s267, s272, s283, trivial⟩ tk1
def p15 : List PA := [.c (s [40, 42, 41, 32, 102, 114, 111, 109, 32, 97, 32, 119, 105, 110, 100, 111, 119, 32, 116, 117, 109, 98, 108, 101, 32, 53])]
def r15 : List RA := [.a [.c (y 3), .c (s [40]), .c (i 0)]]
theorem g15 : vcall (VN tb2) rounds 6 135 p15 = some r15 := by kernel_rfl
theorem s15 : Spec Go.Proofs.Tryz.prog 135 p15 r15 := fact tk2 g15
def p19 : List PA := [.c (s [42, 41, 32, 102, 114, 111, 109, 32, 97, 32, 119, 105, 110, 100, 111, 119, 32, 116, 117, 109, 98, 108, 101, 32, 53])]
def r19 : List RA := [.a [.c (y 3), .c (s [42]), .c (i 0)]]
theorem g19 : vcall (VN tb2) rounds 6 135 p19 = some r19 := by kernel_rfl
theorem s19 : Spec Go.Proofs.Tryz.prog 135 p19 r19 := fact tk2 g19
def p23 : List PA := [.c (s [41, 32, 102, 114, 111, 109, 32, 97, 32, 119, 105, 110, 100, 111, 119, 32, 116, 117, 109, 98, 108, 101, 32, 53])]
def r23 : List RA := [.a [.c (y 3), .c (s [41]), .c (i 0)]]
theorem g23 : vcall (VN tb2) rounds 6 135 p23 = some r23 := by kernel_rfl
theorem s23 : Spec Go.Proofs.Tryz.prog 135 p23 r23 := fact tk2 g23
def p49 : List PA := [.c (s [53]), .c (i 10), .c (i 64)]
def r49 : List RA := [.c (.c (i 5)), .c (.e false)]
theorem g49 : vcall (VN tb2) rounds 6 219 p49 = some r49 := by kernel_rfl
theorem s49 : Spec Go.Proofs.Tryz.prog 219 p49 r49 := fact tk2 g49
def p75 : List PA := [.a [(y 1), e, (l [[(i 0)]]), bf, e, (y 1), (i 5), (i 0), bf, (y 1)], .c m2, .c (i 1), .c (i 1)]
def r75 : List RA := [.a [.c (y 1), .c e, .c (l [[(i 0)]]), .c bf, .c e, .c (y 1), .c (i 5), .c (i 0), .c bf, .c (y 1), .c m3, .c m4, .c m6, .c m7], .c (.c (i 0))]
theorem g75 : vcall (VN tb2) rounds 6 9 p75 = some r75 := by kernel_rfl
theorem s75 : Spec Go.Proofs.Tryz.prog 9 p75 r75 := fact tk2 g75
def p83 : List PA := [.a [m3, m4]]
def r83 : List RA := [.c (.c (i 0))]
theorem g83 : vcall (VN tb2) rounds 6 102 p83 = some r83 := by kernel_rfl
theorem s83 : Spec Go.Proofs.Tryz.prog 102 p83 r83 := fact tk2 g83
def p121 : List PA := [.a [(y 0), e, e, bf, e, (y 0), (i 0), (i 0), bf, (y 0), e, e, e, e], .c m37]
def r121 : List RA := [.a [.c (y 0), .c e, .c e, .c bf, .c e, .c (y 0), .c (i 0), .c (i 0), .c bf, .c (y 0), .c e, .c e, .c e, .c e], .c (.c (i 0)), .c (.c (i 8))]
theorem g121 : vcall (VN tb2) rounds 6 22 p121 = some r121 := by kernel_rfl
theorem s121 : Spec Go.Proofs.Tryz.prog 22 p121 r121 := fact tk2 g121
def p122 : List PA := [.a [(y 0), e, e, bf, e, (y 0), (i 0), (i 0), bf, (y 0), e, e, e, e], .a [(i (-1)), (i (-1))]]
def r122 : List RA := [.a [.c (y 0), .c e, .c e, .c bf, .c e, .c (y 0), .c (i 0), .c (i 0), .c bf, .c (y 0), .c e, .c e, .c e, .c e], .c (.c bf), .c (.c (i 8))]
theorem g122 : vcall (VN tb2) rounds 6 23 p122 = some r122 := by kernel_rfl
theorem s122 : Spec Go.Proofs.Tryz.prog 23 p122 r122 := fact tk2 g122
def p126 : List PA := [.a [(y 1), (i 0), (i 0), e, e, e, m1, e, e], .c e, .c (l [[(i 1), e]])]
def r126 : List RA := [.c (.c bt), .c (.c (i 0))]
theorem g126 : vcall (VN tb2) rounds 6 108 p126 = some r126 := by kernel_rfl
theorem s126 : Spec Go.Proofs.Tryz.prog 108 p126 r126 := fact tk2 g126
def p128 : List PA := [.a [(y 1), (i 0), (i 0), e, e, e, m1, e, e], .c e]
def r128 : List RA := [.a [.c (y 1), .c (i 0), .c (i 0), .s 156 11 [], .s 2 1 [], .s 212 11 [], .s 34 5 [[bf, (i 0), (i 0), (i 3), (i 0)], [bt, (i 9223372036854775807), (i 0), (i 0), (i 0)]], .s 92 5 [], .s 32 3 []], .c (.c (i 0))]
theorem g128 : vcall (VN tb2) rounds 6 157 p128 = some r128 := by kernel_rfl
theorem s128 : Spec Go.Proofs.Tryz.prog 157 p128 r128 := fact tk2 g128
def p129 : List PA := [.a [(y 2), (i 0), (i 0), e, (l [[(i (-9223372036854775808))]]), e, e, e, e], .c e]
def r129 : List RA := [.a [.c (y 2), .c (i 0), .c (i 0), .s 156 11 [], .s 2 1 [[(i (-9223372036854775808))]], .s 212 11 [], .s 34 5 [], .s 92 5 [], .s 32 3 []], .c (.c (i 0))]
theorem g129 : vcall (VN tb2) rounds 6 157 p129 = some r129 := by kernel_rfl
theorem s129 : Spec Go.Proofs.Tryz.prog 157 p129 r129 := fact tk2 g129
def p130 : List PA := [.a [(y 4), (i 0), (i 0), e, (l [[(i (-9223372036854775808))]]), e, e, e, e], .c e]
def r130 : List RA := [.a [.c (y 4), .c (i 0), .c (i 0), .s 156 11 [], .s 2 1 [[(i (-9223372036854775808))]], .s 212 11 [], .s 34 5 [], .s 92 5 [], .s 32 3 []], .c (.c (i 0))]
theorem g130 : vcall (VN tb2) rounds 6 157 p130 = some r130 := by kernel_rfl
theorem s130 : Spec Go.Proofs.Tryz.prog 157 p130 r130 := fact tk2 g130
def p131 : List PA := [.a [(y 6), (i 0), (i 0), e, e, e, e, e, e], .c e]
def r131 : List RA := [.a [.c (y 6), .c (i 0), .c (i 0), .s 156 11 [], .s 2 1 [], .s 212 11 [], .s 34 5 [], .s 92 5 [], .s 32 3 []], .c (.c (i 0))]
theorem g131 : vcall (VN tb2) rounds 6 157 p131 = some r131 := by kernel_rfl
theorem s131 : Spec Go.Proofs.Tryz.prog 157 p131 r131 := fact tk2 g131
def p138 : List PA := [.a [(y 1), (i 0), (i 0), m8, e, e, m9, e, e], .c e, .c (l [[(i 1), e]])]
def r138 : List RA := [.c (.c bt), .c (.c (i 0))]
theorem g138 : vcall (VN tb2) rounds 6 108 p138 = some r138 := by kernel_rfl
theorem s138 : Spec Go.Proofs.Tryz.prog 108 p138 r138 := fact tk2 g138
def p140 : List PA := [.a [(y 1), (i 0), (i 0), m8, e, e, m9, e, e], .c (l [[(i 1), e]])]
def r140 : List RA := [.a [.c (y 1), .c (i 0), .c (i 0), .c e, .s 2 1 [], .s 212 11 [], .s 34 5 [[bt, (i 9223372036854775807), (i 0), (i 0), (i 0)]], .s 92 5 [], .s 32 3 []], .c (.s 59 2 [[(i 1), m11]]), .c (.c (i 0))]
theorem g140 : vcall (VN tb2) rounds 6 110 p140 = some r140 := by kernel_rfl
theorem s140 : Spec Go.Proofs.Tryz.prog 110 p140 r140 := fact tk2 g140
def p141 : List PA := [.a [(y 1), (i 0), (i 0), m8, e, e, m9, e, e], .c e]
def r141 : List RA := [.a [.c (y 1), .c (i 0), .c (i 0), .s 156 11 [[(i 0), (y 1), (i 0), (i 3), (i 0), (i 0), (i 0), (i 0), (i 0), (i 0), (i 0)]], .s 2 1 [], .s 212 11 [], .s 34 5 [[bt, (i 9223372036854775807), (i 0), (i 0), (i 0)]], .s 92 5 [], .s 32 3 []], .c (.c (i 0))]
theorem g141 : vcall (VN tb2) rounds 6 157 p141 = some r141 := by kernel_rfl
theorem s141 : Spec Go.Proofs.Tryz.prog 157 p141 r141 := fact tk2 g141
def p148 : List PA := [.a [(y 2), (i 0), (i 0), e, (l [[(i (-9223372036854775808))]]), e, e, e, e], .c m14, .c (l [[(i 1), e]])]
def r148 : List RA := [.c (.c bt), .c (.c (i 0))]
theorem g148 : vcall (VN tb2) rounds 6 108 p148 = some r148 := by kernel_rfl
theorem s148 : Spec Go.Proofs.Tryz.prog 108 p148 r148 := fact tk2 g148
def p149 : List PA := [.a [(y 2), (i 0), (i 0), e, (l [[(i (-9223372036854775808))]]), e, e, e, e], .c m14]
def r149 : List RA := [.c (.c (i 0)), .a [.c (y 2), .c (i 0), .c (i 0), .s 156 11 [], .s 2 1 [[(i (-9223372036854775808))]], .s 212 11 [], .s 34 5 [], .s 92 5 [], .s 32 3 []], .c (.c (i 0))]
theorem g149 : vcall (VN tb2) rounds 6 70 p149 = some r149 := by kernel_rfl
theorem s149 : Spec Go.Proofs.Tryz.prog 70 p149 r149 := fact tk2 g149
def p150 : List PA := [.a [(y 1), (i 0), (i 0), e, e, e, m9, e, e], .c e]
def r150 : List RA := [.a [.c (y 1), .c (i 0), .c (i 0), .s 156 11 [], .s 2 1 [], .s 212 11 [], .s 34 5 [[bt, (i 9223372036854775807), (i 0), (i 0), (i 0)]], .s 92 5 [], .s 32 3 []], .c (.c (i 0))]
theorem g150 : vcall (VN tb2) rounds 6 157 p150 = some r150 := by kernel_rfl
theorem s150 : Spec Go.Proofs.Tryz.prog 157 p150 r150 := fact tk2 g150
def p157 : List PA := [.a [(y 2), (i 0), (i 0), m8, (l [[(i (-9223372036854775808))]]), e, e, e, e], .c (l [[(i 1), e]]), .c (l [[(i 1), e]])]
def r157 : List RA := [.c (.c bt), .c (.c (i 0))]
theorem g157 : vcall (VN tb2) rounds 6 108 p157 = some r157 := by kernel_rfl
theorem s157 : Spec Go.Proofs.Tryz.prog 108 p157 r157 := fact tk2 g157
def p158 : List PA := [.a [(y 2), (i 0), (i 0), m8, (l [[(i (-9223372036854775808))]]), e, e, e, e], .c (l [[(i 1), e]])]
def r158 : List RA := [.a [.c (y 2), .c (i 0), .c (i 0), .c e, .s 2 1 [[(i (-9223372036854775808))]], .s 212 11 [], .s 34 5 [], .s 92 5 [], .s 32 3 []], .c (.s 59 2 [[(i 1), m11]]), .c (.c (i 0))]
theorem g158 : vcall (VN tb2) rounds 6 110 p158 = some r158 := by kernel_rfl
theorem s158 : Spec Go.Proofs.Tryz.prog 110 p158 r158 := fact tk2 g158
def p159 : List PA := [.a [(y 2), (i 0), (i 0), m8, (l [[(i (-9223372036854775808))]]), e, e, e, e], .c e]
def r159 : List RA := [.a [.c (y 2), .c (i 0), .c (i 0), .s 156 11 [[(i 0), (y 1), (i 0), (i 3), (i 0), (i 0), (i 0), (i 0), (i 0), (i 0), (i 0)]], .s 2 1 [[(i (-9223372036854775808))]], .s 212 11 [], .s 34 5 [], .s 92 5 [], .s 32 3 []], .c (.c (i 0))]
theorem g159 : vcall (VN tb2) rounds 6 157 p159 = some r159 := by kernel_rfl
theorem s159 : Spec Go.Proofs.Tryz.prog 157 p159 r159 := fact tk2 g159
def p165 : List PA := [.a [(y 1), (i 0), (i 0), e, e, e, m9, e, e], .c e, .c (l [[(i 1), e]])]
def r165 : List RA := [.c (.c bt), .c (.c (i 0))]
theorem g165 : vcall (VN tb2) rounds 6 108 p165 = some r165 := by kernel_rfl
theorem s165 : Spec Go.Proofs.Tryz.prog 108 p165 r165 := fact tk2 g165
def p173 : List PA := [.a [(y 1), (i 0), (i 0), m17, e, e, e, e, e], .c e, .c (l [[(i 1), e]])]
def r173 : List RA := [.c (.c bt), .c (.c (i 0))]
theorem g173 : vcall (VN tb2) rounds 6 108 p173 = some r173 := by kernel_rfl
theorem s173 : Spec Go.Proofs.Tryz.prog 108 p173 r173 := fact tk2 g173
def p175 : List PA := [.a [(y 1), (i 0), (i 0), m17, e, e, e, e, e], .c (l [[(i 1), e]])]
def r175 : List RA := [.a [.c (y 1), .c (i 0), .c (i 0), .c e, .s 2 1 [], .s 212 11 [], .s 34 5 [], .s 92 5 [], .s 32 3 []], .c (.s 59 2 [[(i 1), m19]]), .c (.c (i 0))]
theorem g175 : vcall (VN tb2) rounds 6 110 p175 = some r175 := by kernel_rfl
theorem s175 : Spec Go.Proofs.Tryz.prog 110 p175 r175 := fact tk2 g175
def p176 : List PA := [.a [(y 1), (i 0), (i 0), m17, e, e, e, e, e], .c e]
def r176 : List RA := [.a [.c (y 1), .c (i 0), .c (i 0), .s 156 11 [[(i 0), (y 2), (i 0), (i 0), (i 0), (i 9223372036854775807), (i 0), (i 0), (i 0), (i 0), (i 0)]], .s 2 1 [], .s 212 11 [], .s 34 5 [], .s 92 5 [], .s 32 3 []], .c (.c (i 0))]
theorem g176 : vcall (VN tb2) rounds 6 157 p176 = some r176 := by kernel_rfl
theorem s176 : Spec Go.Proofs.Tryz.prog 157 p176 r176 := fact tk2 g176
def p183 : List PA := [.a [(y 4), (i 0), (i 0), e, (l [[(i (-9223372036854775808))]]), e, e, e, e], .c m14, .c (l [[(i 1), e]])]
def r183 : List RA := [.c (.c bt), .c (.c (i 0))]
theorem g183 : vcall (VN tb2) rounds 6 108 p183 = some r183 := by kernel_rfl
theorem s183 : Spec Go.Proofs.Tryz.prog 108 p183 r183 := fact tk2 g183
def p184 : List PA := [.a [(y 4), (i 0), (i 0), e, (l [[(i (-9223372036854775808))]]), e, e, e, e], .c m14]
def r184 : List RA := [.c (.c (i 0)), .a [.c (y 4), .c (i 0), .c (i 0), .s 156 11 [], .s 2 1 [[(i (-9223372036854775808))]], .s 212 11 [], .s 34 5 [], .s 92 5 [], .s 32 3 []], .c (.c (i 0))]
theorem g184 : vcall (VN tb2) rounds 6 70 p184 = some r184 := by kernel_rfl
theorem s184 : Spec Go.Proofs.Tryz.prog 70 p184 r184 := fact tk2 g184
def p187 : List PA := [.a [(y 1), (i 0), (i 0), e, e, e, e, e, e], .c e]
def r187 : List RA := [.a [.c (y 1), .c (i 0), .c (i 0), .s 156 11 [], .s 2 1 [], .s 212 11 [], .s 34 5 [], .s 92 5 [], .s 32 3 []], .c (.c (i 0))]
theorem g187 : vcall (VN tb2) rounds 6 157 p187 = some r187 := by kernel_rfl
theorem s187 : Spec Go.Proofs.Tryz.prog 157 p187 r187 := fact tk2 g187
def p193 : List PA := [.a [(y 2), (i 0), (i 0), e, (l [[(i (-9223372036854775808))]]), e, e, e, e], .c m25, .c (l [[(i 1), e]])]
def r193 : List RA := [.c (.c bt), .c (.c (i 0))]
theorem g193 : vcall (VN tb2) rounds 6 108 p193 = some r193 := by kernel_rfl
theorem s193 : Spec Go.Proofs.Tryz.prog 108 p193 r193 := fact tk2 g193
def p194 : List PA := [.a [(y 2), (i 0), (i 0), e, (l [[(i (-9223372036854775808))]]), e, e, e, e], .c m25]
def r194 : List RA := [.c (.c (i 0)), .a [.c (y 2), .c (i 0), .c (i 0), .s 156 11 [], .s 2 1 [[(i (-9223372036854775808))]], .s 212 11 [], .s 34 5 [], .s 92 5 [], .s 32 3 []], .c (.c (i 0))]
theorem g194 : vcall (VN tb2) rounds 6 70 p194 = some r194 := by kernel_rfl
theorem s194 : Spec Go.Proofs.Tryz.prog 70 p194 r194 := fact tk2 g194
def p196 : List PA := [.a [(y 4), (i 0), (i 0), e, (l [[(i (-9223372036854775808))]]), m22, e, e, e], .c e]
def r196 : List RA := [.a [.c (y 4), .c (i 0), .c (i 0), .s 156 11 [], .s 2 1 [[(i (-9223372036854775808))]], .s 212 11 [[(i 0), (i 0), (i 5), (i 1), (i 0), (i 0), (i 0), (i 0), (i 0), (i 0), (i 0)]], .s 34 5 [], .s 92 5 [], .s 32 3 []], .c (.c (i 0))]
theorem g196 : vcall (VN tb2) rounds 6 157 p196 = some r196 := by kernel_rfl
theorem s196 : Spec Go.Proofs.Tryz.prog 157 p196 r196 := fact tk2 g196
def p203 : List PA := [.a [(y 2), (i 0), (i 0), m17, (l [[(i 9223372036854775807)]]), e, e, e, e], .c (l [[(i 1), e]]), .c (l [[(i 1), e]])]
def r203 : List RA := [.c (.c bt), .c (.c (i 0))]
theorem g203 : vcall (VN tb2) rounds 6 108 p203 = some r203 := by kernel_rfl
theorem s203 : Spec Go.Proofs.Tryz.prog 108 p203 r203 := fact tk2 g203
def p204 : List PA := [.a [(y 2), (i 0), (i 0), m17, (l [[(i 9223372036854775807)]]), e, e, e, e], .c (l [[(i 1), e]])]
def r204 : List RA := [.a [.c (y 2), .c (i 0), .c (i 0), .c e, .s 2 1 [[(i 9223372036854775807)]], .s 212 11 [], .s 34 5 [], .s 92 5 [], .s 32 3 []], .c (.s 59 2 [[(i 1), m19]]), .c (.c (i 0))]
theorem g204 : vcall (VN tb2) rounds 6 110 p204 = some r204 := by kernel_rfl
theorem s204 : Spec Go.Proofs.Tryz.prog 110 p204 r204 := fact tk2 g204
end Tn.Ru
