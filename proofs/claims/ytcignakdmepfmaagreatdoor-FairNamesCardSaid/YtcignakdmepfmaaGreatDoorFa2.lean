import Derived.Test.YtcignakdmepfmaaGreatDoorFa1
/- Closed facts of one run, each by the kernel. -/
set_option linter.unusedVariables false
namespace Tn.Fa
open Go Go.Abs Tn
def p91 : List PA := [.a [(y 2), (i 0), (i 0), e, (l [[(i (-9223372036854775808))]]), e, e, e, e]]
def r91 : List RA := [.c (.c (i 0))]
theorem g91 : vcall (VN tb1) rounds 6 153 p91 = some r91 := by kernel_rfl
theorem s91 : Spec Go.Proofs.Tryz.prog 153 p91 r91 := fact tk1 g91
def p95 : List PA := [.a [(y 4), (i 0), (i 0), e, (l [[(i (-9223372036854775808))]]), e, e, e, e]]
def r95 : List RA := [.c (.c (i 0))]
theorem g95 : vcall (VN tb1) rounds 6 153 p95 = some r95 := by kernel_rfl
theorem s95 : Spec Go.Proofs.Tryz.prog 153 p95 r95 := fact tk1 g95
def p98 : List PA := [.a [(y 6), (i 0), (i 0), e, e, e, e, e, e]]
def r98 : List RA := [.c (.c (i 0))]
theorem g98 : vcall (VN tb1) rounds 6 153 p98 = some r98 := by kernel_rfl
theorem s98 : Spec Go.Proofs.Tryz.prog 153 p98 r98 := fact tk1 g98
def p131 : List PA := [.a [(y 0), e, e, bf, e, (y 0), (i 0), (i 0), bf, (y 0), e, e, e, e]]
def r131 : List RA := [.c (.c (i 8))]
theorem g131 : vcall (VN tb1) rounds 6 58 p131 = some r131 := by kernel_rfl
theorem s131 : Spec Go.Proofs.Tryz.prog 58 p131 r131 := fact tk1 g131
def p144 : List PA := [.a [(y 1), (i 0), (i 0), e, e, e, e, e, e]]
def r144 : List RA := [.c (.c (i 0))]
theorem g144 : vcall (VN tb1) rounds 6 153 p144 = some r144 := by kernel_rfl
theorem s144 : Spec Go.Proofs.Tryz.prog 153 p144 r144 := fact tk1 g144
def p151 : List PA := [.a [(y 1), (i 0), (i 0), m7, e, e, e, e, e]]
def r151 : List RA := [.c (.c (i 0))]
theorem g151 : vcall (VN tb1) rounds 6 153 p151 = some r151 := by kernel_rfl
theorem s151 : Spec Go.Proofs.Tryz.prog 153 p151 r151 := fact tk1 g151
def p181 : List PA := [.a [(y 2), (i 0), (i 0), m7, (l [[(i (-9223372036854775808))]]), e, e, e, e]]
def r181 : List RA := [.c (.c (i 0))]
theorem g181 : vcall (VN tb1) rounds 6 153 p181 = some r181 := by kernel_rfl
theorem s181 : Spec Go.Proofs.Tryz.prog 153 p181 r181 := fact tk1 g181
def p205 : List PA := [.a [(y 4), (i 0), (i 0), e, (l [[(i (-9223372036854775808))]]), m15, e, e, e]]
def r205 : List RA := [.c (.c (i 0))]
theorem g205 : vcall (VN tb1) rounds 6 153 p205 = some r205 := by kernel_rfl
theorem s205 : Spec Go.Proofs.Tryz.prog 153 p205 r205 := fact tk1 g205
def tb2 : List (FuncId × List PA × List RA) := [(135, p6, r6), (135, p12, r12), (171, p14, r14), (171, p16, r16), (171, p18, r18), (171, p20, r20), (171, p22, r22), (171, p24, r24), (135, p28, r28), (135, p31, r31), (135, p36, r36), (135, p39, r39), (135, p42, r42), (218, p46, r46), (257, p48, r48), (43, p68, r68), (44, p70, r70), (151, p82, r82), (153, p87, r87), (153, p91, r91), (153, p95, r95), (153, p98, r98), (58, p131, r131), (153, p144, r144), (153, p151, r151), (153, p181, r181), (153, p205, r205)] ++ tb1
theorem tk2 : TOK Go.Proofs.Tryz.prog tb2 := TOK.app (l := [(135, p6, r6), (135, p12, r12), (171, p14, r14), (171, p16, r16), (171, p18, r18), (171, p20, r20), (171, p22, r22), (171, p24, r24), (135, p28, r28), (135, p31, r31), (135, p36, r36), (135, p39, r39), (135, p42, r42), (218, p46, r46), (257, p48, r48), (43, p68, r68), (44, p70, r70), (151, p82, r82), (153, p87, r87), (153, p91, r91), (153, p95, r95), (153, p98, r98), (58, p131, r131), (153, p144, r144), (153, p151, r151), (153, p181, r181), (153, p205, r205)]) ⟨s6, s12, s14, s16, s18, s20, s22, s24, s28, s31, s36, s39, s42, s46, s48, s68, s70, s82, s87, s91, s95, s98, s131, s144, s151, s181, s205, trivial⟩ tk1
def p15 : List PA := [.c (s [40, 42, 41, 32, 102, 114, 111, 109, 32, 97, 32, 119, 105, 110, 100, 111, 119, 32, 116, 117, 109, 98, 108, 101, 32, 53])]
def r15 : List RA := [.a [.c (y 3), .c (s [40]), .c (i 0)]]
theorem g15 : vcall (VN tb2) rounds 6 135 p15 = some r15 := by kernel_rfl
theorem s15 : Spec Go.Proofs.Tryz.prog 135 p15 r15 := fact tk2 g15
def p19 : List PA := [.c (s [42, 41, 32, 102, 114, 111, 109, 32, 97, 32, 119, 105, 110, 100, 111, 119, 32, 116, 117, 109, 98, 108, 101, 32, 53])]
def r19 : List RA := [.a [.c (y 3), .c (s [42]), .c (i 0)]]
theorem g19 : vcall (VN tb2) rounds 6 135 p19 = some r19 := by kernel_rfl
theorem s19 : Spec Go.Proofs.Tryz.prog 135 p19 r19 := fact tk2 g19
def p23 : List PA := [.c (s [41, 32, 102, 114, 111, 109, 32, 97, 32, 119, 105, 110, 100, 111, 119, 32, 116, 117, 109, 98, 108, 101, 32, 53])]
def r23 : List RA := [.a [.c (y 3), .c (s [41]), .c (i 0)]]
theorem g23 : vcall (VN tb2) rounds 6 135 p23 = some r23 := by kernel_rfl
theorem s23 : Spec Go.Proofs.Tryz.prog 135 p23 r23 := fact tk2 g23
def p49 : List PA := [.c (s [53]), .c (i 10), .c (i 64)]
def r49 : List RA := [.c (.c (i 5)), .c (.e false)]
theorem g49 : vcall (VN tb2) rounds 6 219 p49 = some r49 := by kernel_rfl
theorem s49 : Spec Go.Proofs.Tryz.prog 219 p49 r49 := fact tk2 g49
def p75 : List PA := [.a [(y 1), e, (l [[(i 0)]]), bf, e, (y 1), (i 5), (i 0), bf, (y 1)], .c m2, .c (i 1), .c (i 1)]
def r75 : List RA := [.a [.c (y 1), .c e, .c (l [[(i 0)]]), .c bf, .c e, .c (y 1), .c (i 5), .c (i 0), .c bf, .c (y 1), .c m3, .c m4, .c m5, .c m6], .c (.c (i 0))]
theorem g75 : vcall (VN tb2) rounds 6 9 p75 = some r75 := by kernel_rfl
theorem s75 : Spec Go.Proofs.Tryz.prog 9 p75 r75 := fact tk2 g75
def p83 : List PA := [.a [m3, m4]]
def r83 : List RA := [.c (.c (i 0))]
theorem g83 : vcall (VN tb2) rounds 6 102 p83 = some r83 := by kernel_rfl
theorem s83 : Spec Go.Proofs.Tryz.prog 102 p83 r83 := fact tk2 g83
def p132 : List PA := [.a [(y 0), e, e, bf, e, (y 0), (i 0), (i 0), bf, (y 0), e, e, e, e], .c e]
def r132 : List RA := [.c (.c (i 8))]
theorem g132 : vcall (VN tb2) rounds 6 32 p132 = some r132 := by kernel_rfl
theorem s132 : Spec Go.Proofs.Tryz.prog 32 p132 r132 := fact tk2 g132
def p143 : List PA := [.a [(y 1), (i 0), (i 0), e, e, e, m1, e, e], .c e, .c (l [[(i 1), e]])]
def r143 : List RA := [.c (.c bt), .c (.c (i 0))]
theorem g143 : vcall (VN tb2) rounds 6 108 p143 = some r143 := by kernel_rfl
theorem s143 : Spec Go.Proofs.Tryz.prog 108 p143 r143 := fact tk2 g143
def p145 : List PA := [.a [(y 1), (i 0), (i 0), e, e, e, m1, e, e], .c e]
def r145 : List RA := [.a [.c (y 1), .c (i 0), .c (i 0), .s 156 11 [], .s 2 1 [], .s 212 11 [], .s 34 5 [[bf, (i 0), (i 0), (i 1), (i 0)]], .s 92 5 [], .s 32 3 []], .c (.c (i 0))]
theorem g145 : vcall (VN tb2) rounds 6 157 p145 = some r145 := by kernel_rfl
theorem s145 : Spec Go.Proofs.Tryz.prog 157 p145 r145 := fact tk2 g145
def p146 : List PA := [.a [(y 2), (i 0), (i 0), e, (l [[(i (-9223372036854775808))]]), e, e, e, e], .c e]
def r146 : List RA := [.a [.c (y 2), .c (i 0), .c (i 0), .s 156 11 [], .s 2 1 [[(i (-9223372036854775808))]], .s 212 11 [], .s 34 5 [], .s 92 5 [], .s 32 3 []], .c (.c (i 0))]
theorem g146 : vcall (VN tb2) rounds 6 157 p146 = some r146 := by kernel_rfl
theorem s146 : Spec Go.Proofs.Tryz.prog 157 p146 r146 := fact tk2 g146
def p147 : List PA := [.a [(y 4), (i 0), (i 0), e, (l [[(i (-9223372036854775808))]]), e, e, e, e], .c e]
def r147 : List RA := [.a [.c (y 4), .c (i 0), .c (i 0), .s 156 11 [], .s 2 1 [[(i (-9223372036854775808))]], .s 212 11 [], .s 34 5 [], .s 92 5 [], .s 32 3 []], .c (.c (i 0))]
theorem g147 : vcall (VN tb2) rounds 6 157 p147 = some r147 := by kernel_rfl
theorem s147 : Spec Go.Proofs.Tryz.prog 157 p147 r147 := fact tk2 g147
def p148 : List PA := [.a [(y 6), (i 0), (i 0), e, e, e, e, e, e], .c e]
def r148 : List RA := [.a [.c (y 6), .c (i 0), .c (i 0), .s 156 11 [], .s 2 1 [], .s 212 11 [], .s 34 5 [], .s 92 5 [], .s 32 3 []], .c (.c (i 0))]
theorem g148 : vcall (VN tb2) rounds 6 157 p148 = some r148 := by kernel_rfl
theorem s148 : Spec Go.Proofs.Tryz.prog 157 p148 r148 := fact tk2 g148
def p155 : List PA := [.a [(y 2), (i 0), (i 0), e, (l [[(i (-9223372036854775808))]]), e, e, e, e], .c (l [[(i 1), e]]), .c (l [[(i 1), e]])]
def r155 : List RA := [.c (.c bf), .c (.c (i 0))]
theorem g155 : vcall (VN tb2) rounds 6 108 p155 = some r155 := by kernel_rfl
theorem s155 : Spec Go.Proofs.Tryz.prog 108 p155 r155 := fact tk2 g155
def p159 : List PA := [.a [(y 4), (i 0), (i 0), e, (l [[(i (-9223372036854775808))]]), e, e, e, e], .c (l [[(i 1), e]]), .c (l [[(i 1), e]])]
def r159 : List RA := [.c (.c bf), .c (.c (i 0))]
theorem g159 : vcall (VN tb2) rounds 6 108 p159 = some r159 := by kernel_rfl
theorem s159 : Spec Go.Proofs.Tryz.prog 108 p159 r159 := fact tk2 g159
def p163 : List PA := [.a [(y 6), (i 0), (i 0), e, e, e, e, e, e], .c (l [[(i 1), e]]), .c e]
def r163 : List RA := [.c (.c bf), .c (.c (i 0))]
theorem g163 : vcall (VN tb2) rounds 6 108 p163 = some r163 := by kernel_rfl
theorem s163 : Spec Go.Proofs.Tryz.prog 108 p163 r163 := fact tk2 g163
def p166 : List PA := [.a [(y 1), (i 0), (i 0), m7, e, e, e, e, e], .c e, .c (l [[(i 1), e]])]
def r166 : List RA := [.c (.c bt), .c (.c (i 0))]
theorem g166 : vcall (VN tb2) rounds 6 108 p166 = some r166 := by kernel_rfl
theorem s166 : Spec Go.Proofs.Tryz.prog 108 p166 r166 := fact tk2 g166
def p168 : List PA := [.a [(y 1), (i 0), (i 0), m7, e, e, e, e, e], .c (l [[(i 1), e]])]
def r168 : List RA := [.a [.c (y 1), .c (i 0), .c (i 0), .c e, .s 2 1 [], .s 212 11 [], .s 34 5 [], .s 92 5 [], .s 32 3 []], .c (.s 59 2 [[(i 1), m9]]), .c (.c (i 0))]
theorem g168 : vcall (VN tb2) rounds 6 110 p168 = some r168 := by kernel_rfl
theorem s168 : Spec Go.Proofs.Tryz.prog 110 p168 r168 := fact tk2 g168
def p169 : List PA := [.a [(y 1), (i 0), (i 0), m7, e, e, e, e, e], .c e]
def r169 : List RA := [.a [.c (y 1), .c (i 0), .c (i 0), .s 156 11 [[(i 0), (y 1), (i 0), (i 1), (i 0), (i 0), (i 0), (i 0), (i 0), (i 0), (i 0)]], .s 2 1 [], .s 212 11 [], .s 34 5 [], .s 92 5 [], .s 32 3 []], .c (.c (i 0))]
theorem g169 : vcall (VN tb2) rounds 6 157 p169 = some r169 := by kernel_rfl
theorem s169 : Spec Go.Proofs.Tryz.prog 157 p169 r169 := fact tk2 g169
def p176 : List PA := [.a [(y 2), (i 0), (i 0), e, (l [[(i (-9223372036854775808))]]), e, e, e, e], .c m12, .c (l [[(i 1), e]])]
def r176 : List RA := [.c (.c bt), .c (.c (i 0))]
theorem g176 : vcall (VN tb2) rounds 6 108 p176 = some r176 := by kernel_rfl
theorem s176 : Spec Go.Proofs.Tryz.prog 108 p176 r176 := fact tk2 g176
def p177 : List PA := [.a [(y 2), (i 0), (i 0), e, (l [[(i (-9223372036854775808))]]), e, e, e, e], .c m12]
def r177 : List RA := [.c (.c (i 0)), .a [.c (y 2), .c (i 0), .c (i 0), .s 156 11 [], .s 2 1 [[(i (-9223372036854775808))]], .s 212 11 [], .s 34 5 [], .s 92 5 [], .s 32 3 []], .c (.c (i 0))]
theorem g177 : vcall (VN tb2) rounds 6 70 p177 = some r177 := by kernel_rfl
theorem s177 : Spec Go.Proofs.Tryz.prog 70 p177 r177 := fact tk2 g177
def p178 : List PA := [.a [(y 1), (i 0), (i 0), e, e, e, e, e, e], .c e]
def r178 : List RA := [.a [.c (y 1), .c (i 0), .c (i 0), .s 156 11 [], .s 2 1 [], .s 212 11 [], .s 34 5 [], .s 92 5 [], .s 32 3 []], .c (.c (i 0))]
theorem g178 : vcall (VN tb2) rounds 6 157 p178 = some r178 := by kernel_rfl
theorem s178 : Spec Go.Proofs.Tryz.prog 157 p178 r178 := fact tk2 g178
def p191 : List PA := [.a [(y 1), (i 0), (i 0), e, e, e, e, e, e], .c e, .c (l [[(i 1), e]])]
def r191 : List RA := [.c (.c bf), .c (.c (i 0))]
theorem g191 : vcall (VN tb2) rounds 6 108 p191 = some r191 := by kernel_rfl
theorem s191 : Spec Go.Proofs.Tryz.prog 108 p191 r191 := fact tk2 g191
def p194 : List PA := [.a [(y 2), (i 0), (i 0), m7, (l [[(i (-9223372036854775808))]]), e, e, e, e], .c (l [[(i 1), e]]), .c (l [[(i 1), e]])]
def r194 : List RA := [.c (.c bt), .c (.c (i 0))]
theorem g194 : vcall (VN tb2) rounds 6 108 p194 = some r194 := by kernel_rfl
theorem s194 : Spec Go.Proofs.Tryz.prog 108 p194 r194 := fact tk2 g194
def p195 : List PA := [.a [(y 2), (i 0), (i 0), m7, (l [[(i (-9223372036854775808))]]), e, e, e, e], .c (l [[(i 1), e]])]
def r195 : List RA := [.a [.c (y 2), .c (i 0), .c (i 0), .c e, .s 2 1 [[(i (-9223372036854775808))]], .s 212 11 [], .s 34 5 [], .s 92 5 [], .s 32 3 []], .c (.s 59 2 [[(i 1), m9]]), .c (.c (i 0))]
theorem g195 : vcall (VN tb2) rounds 6 110 p195 = some r195 := by kernel_rfl
theorem s195 : Spec Go.Proofs.Tryz.prog 110 p195 r195 := fact tk2 g195
def p196 : List PA := [.a [(y 2), (i 0), (i 0), m7, (l [[(i (-9223372036854775808))]]), e, e, e, e], .c e]
def r196 : List RA := [.a [.c (y 2), .c (i 0), .c (i 0), .s 156 11 [[(i 0), (y 1), (i 0), (i 1), (i 0), (i 0), (i 0), (i 0), (i 0), (i 0), (i 0)]], .s 2 1 [[(i (-9223372036854775808))]], .s 212 11 [], .s 34 5 [], .s 92 5 [], .s 32 3 []], .c (.c (i 0))]
theorem g196 : vcall (VN tb2) rounds 6 157 p196 = some r196 := by kernel_rfl
theorem s196 : Spec Go.Proofs.Tryz.prog 157 p196 r196 := fact tk2 g196
def p202 : List PA := [.a [(y 4), (i 0), (i 0), e, (l [[(i (-9223372036854775808))]]), e, e, e, e], .c m12, .c (l [[(i 1), e]])]
def r202 : List RA := [.c (.c bt), .c (.c (i 0))]
theorem g202 : vcall (VN tb2) rounds 6 108 p202 = some r202 := by kernel_rfl
theorem s202 : Spec Go.Proofs.Tryz.prog 108 p202 r202 := fact tk2 g202
def p203 : List PA := [.a [(y 4), (i 0), (i 0), e, (l [[(i (-9223372036854775808))]]), e, e, e, e], .c m12]
def r203 : List RA := [.c (.c (i 0)), .a [.c (y 4), .c (i 0), .c (i 0), .s 156 11 [], .s 2 1 [[(i (-9223372036854775808))]], .s 212 11 [], .s 34 5 [], .s 92 5 [], .s 32 3 []], .c (.c (i 0))]
theorem g203 : vcall (VN tb2) rounds 6 70 p203 = some r203 := by kernel_rfl
theorem s203 : Spec Go.Proofs.Tryz.prog 70 p203 r203 := fact tk2 g203
def p219 : List PA := [.a [(y 4), (i 0), (i 0), e, (l [[(i (-9223372036854775808))]]), m15, e, e, e], .c (l [[(i 1), e]]), .c (l [[(i 1), e]])]
def r219 : List RA := [.c (.c bf), .c (.c (i 0))]
theorem g219 : vcall (VN tb2) rounds 6 108 p219 = some r219 := by kernel_rfl
theorem s219 : Spec Go.Proofs.Tryz.prog 108 p219 r219 := fact tk2 g219
def tb3 : List (FuncId × List PA × List RA) := [(135, p15, r15), (135, p19, r19), (135, p23, r23), (219, p49, r49), (9, p75, r75), (102, p83, r83), (32, p132, r132), (108, p143, r143), (157, p145, r145), (157, p146, r146), (157, p147, r147), (157, p148, r148), (108, p155, r155), (108, p159, r159), (108, p163, r163), (108, p166, r166), (110, p168, r168), (157, p169, r169), (108, p176, r176), (70, p177, r177), (157, p178, r178), (108, p191, r191), (108, p194, r194), (110, p195, r195), (157, p196, r196), (108, p202, r202), (70, p203, r203), (108, p219, r219)] ++ tb2
theorem tk3 : TOK Go.Proofs.Tryz.prog tb3 := TOK.app (l := [(135, p15, r15), (135, p19, r19), (135, p23, r23), (219, p49, r49), (9, p75, r75), (102, p83, r83), (32, p132, r132), (108, p143, r143), (157, p145, r145), (157, p146, r146), (157, p147, r147), (157, p148, r148), (108, p155, r155), (108, p159, r159), (108, p163, r163), (108, p166, r166), (110, p168, r168), (157, p169, r169), (108, p176, r176), (70, p177, r177), (157, p178, r178), (108, p191, r191), (108, p194, r194), (110, p195, r195), (157, p196, r196), (108, p202, r202), (70, p203, r203), (108, p219, r219)]) ⟨s15, s19, s23, s49, s75, s83, s132, s143, s145, s146, s147, s148, s155, s159, s163, s166, s168, s169, s176, s177, s178, s191, s194, s195, s196, s202, s203, s219, trivial⟩ tk2
def p50 : List PA := [.c (s [115, 101, 108, 101, 99, 116, 32, 99, 111, 117, 110, 116, 40, 42, 41, 32, 102, 114, 111, 109, 32, 97, 32, 119, 105, 110, 100, 111, 119, 32, 116, 117, 109, 98, 108, 101, 32, 53])]
def r50 : List RA := [.c (.c (l [[(y 2), (s [115, 101, 108, 101, 99, 116]), (i 0)], [(y 2), (s [99, 111, 117, 110, 116]), (i 7)], [(y 3), (s [40]), (i 12)], [(y 3), (s [42]), (i 13)], [(y 3), (s [41]), (i 14)], [(y 2), (s [102, 114, 111, 109]), (i 16)], [(y 2), (s [97]), (i 21)], [(y 2), (s [119, 105, 110, 100, 111, 119]), (i 23)], [(y 2), (s [116, 117, 109, 98, 108, 101]), (i 30)], [(y 1), (s [53]), (i 37)]])), .c (.c (i 38)), .c (.c (i 0))]
theorem g50 : vcall (VN tb3) rounds 6 86 p50 = some r50 := by kernel_rfl
theorem s50 : Spec Go.Proofs.Tryz.prog 86 p50 r50 := fact tk3 g50
def p63 : List PA := [.c (s [53])]
def r63 : List RA := [.c (.c (i 5)), .c (.c (i 0))]
theorem g63 : vcall (VN tb3) rounds 6 172 p63 = some r63 := by kernel_rfl
theorem s63 : Spec Go.Proofs.Tryz.prog 172 p63 r63 := fact tk3 g63
def p101 : List PA := [.a [(y 1), e, (l [[(i 0)]]), bf, e, (y 1), (i 5), (i 0), bf, (y 1), m3, m4, m5, m6]]
def r101 : List RA := [.c (.c (i 0))]
theorem g101 : vcall (VN tb3) rounds 6 58 p101 = some r101 := by kernel_rfl
theorem s101 : Spec Go.Proofs.Tryz.prog 58 p101 r101 := fact tk3 g101
def p133 : List PA := [.a [(y 0), e, e, bf, e, (y 0), (i 0), (i 0), bf, (y 0), e, e, e, e], .c e]
def r133 : List RA := [.a [.c (y 0), .c e, .c e, .c bf, .c e, .c (y 0), .c (i 0), .c (i 0), .c bf, .c (y 0), .c e, .c e, .c e, .c e], .c (.c (i 0)), .c (.c (i 8))]
theorem g133 : vcall (VN tb3) rounds 6 29 p133 = some r133 := by kernel_rfl
theorem s133 : Spec Go.Proofs.Tryz.prog 29 p133 r133 := fact tk3 g133
def p134 : List PA := [.a [(y 0), e, e, bf, e, (y 0), (i 0), (i 0), bf, (y 0), e, e, e, e], .c e, .c (i (-1))]
def r134 : List RA := [.a [.c (y 0), .c e, .c e, .c bf, .c e, .c (y 0), .c (i 0), .c (i 0), .c bf, .c (y 0), .c e, .c e, .c e, .c e], .c (.c (i 0)), .c (.c (i 8))]
theorem g134 : vcall (VN tb3) rounds 6 30 p134 = some r134 := by kernel_rfl
theorem s134 : Spec Go.Proofs.Tryz.prog 30 p134 r134 := fact tk3 g134
def p135 : List PA := [.a [(y 0), e, e, bf, e, (y 0), (i 0), (i 0), bf, (y 0), e, e, e, e], .c e]
def r135 : List RA := [.a [.c (y 0), .c e, .c e, .c bf, .c e, .c (y 0), .c (i 0), .c (i 0), .c bf, .c (y 0), .c e, .c e, .c e, .c e], .c (.c (i 0)), .c (.c (i 8))]
theorem g135 : vcall (VN tb3) rounds 6 31 p135 = some r135 := by kernel_rfl
theorem s135 : Spec Go.Proofs.Tryz.prog 31 p135 r135 := fact tk3 g135
def p152 : List PA := [.a [(y 1), e, (l [[(i 0)]]), bf, e, (y 1), (i 5), (i 0), bf, (y 1), m3, m4, m8, m6]]
def r152 : List RA := [.c (.c (i 0))]
theorem g152 : vcall (VN tb3) rounds 6 58 p152 = some r152 := by kernel_rfl
theorem s152 : Spec Go.Proofs.Tryz.prog 58 p152 r152 := fact tk3 g152
def p173 : List PA := [.a [(y 1), e, (l [[(i 0)]]), bf, e, (y 1), (i 5), (i 0), bf, (y 1), m3, m4, m10, m11]]
def r173 : List RA := [.c (.c (i 0))]
theorem g173 : vcall (VN tb3) rounds 6 58 p173 = some r173 := by kernel_rfl
theorem s173 : Spec Go.Proofs.Tryz.prog 58 p173 r173 := fact tk3 g173
def p182 : List PA := [.a [(y 1), e, (l [[(i 0)]]), bf, e, (y 1), (i 5), (i 0), bf, (y 1), m3, m4, m13, m6]]
def r182 : List RA := [.c (.c (i 0))]
theorem g182 : vcall (VN tb3) rounds 6 58 p182 = some r182 := by kernel_rfl
theorem s182 : Spec Go.Proofs.Tryz.prog 58 p182 r182 := fact tk3 g182
def p199 : List PA := [.a [(y 1), e, (l [[(i 0)]]), bf, e, (y 1), (i 5), (i 0), bf, (y 1), m3, m4, m10, m14]]
def r199 : List RA := [.c (.c (i 0))]
theorem g199 : vcall (VN tb3) rounds 6 58 p199 = some r199 := by kernel_rfl
theorem s199 : Spec Go.Proofs.Tryz.prog 58 p199 r199 := fact tk3 g199
def p208 : List PA := [.a [(y 1), e, (l [[(i 0)]]), bf, e, (y 1), (i 5), (i 0), bf, (y 1), m3, m4, m16, m6]]
def r208 : List RA := [.c (.c (i 0))]
theorem g208 : vcall (VN tb3) rounds 6 58 p208 = some r208 := by kernel_rfl
theorem s208 : Spec Go.Proofs.Tryz.prog 58 p208 r208 := fact tk3 g208
def tb4 : List (FuncId × List PA × List RA) := [(86, p50, r50), (172, p63, r63), (58, p101, r101), (29, p133, r133), (30, p134, r134), (31, p135, r135), (58, p152, r152), (58, p173, r173), (58, p182, r182), (58, p199, r199), (58, p208, r208)] ++ tb3
theorem tk4 : TOK Go.Proofs.Tryz.prog tb4 := TOK.app (l := [(86, p50, r50), (172, p63, r63), (58, p101, r101), (29, p133, r133), (30, p134, r134), (31, p135, r135), (58, p152, r152), (58, p173, r173), (58, p182, r182), (58, p199, r199), (58, p208, r208)]) ⟨s50, s63, s101, s133, s134, s135, s152, s173, s182, s199, s208, trivial⟩ tk3
def p64 : List PA := [.c (s [115, 101, 108, 101, 99, 116, 32, 99, 111, 117, 110, 116, 40, 42, 41, 32, 102, 114, 111, 109, 32, 97, 32, 119, 105, 110, 100, 111, 119, 32, 116, 117, 109, 98, 108, 101, 32, 53])]
def r64 : List RA := [.a [.c (y 1), .c e, .c (l [[(i 0)]]), .c bf, .c e, .c (y 1), .c (i 5), .c (i 0), .c bf, .c (y 1)], .c (.c (i 38)), .c (.c (i 0))]
theorem g64 : vcall (VN tb4) rounds 6 40 p64 = some r64 := by kernel_rfl
theorem s64 : Spec Go.Proofs.Tryz.prog 40 p64 r64 := fact tk4 g64
end Tn.Fa
