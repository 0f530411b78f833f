import Derived.Test.YtcignakdmepfmaaGreatDoorBo2
/- Closed facts of one run, each by the kernel. -/
set_option linter.unusedVariables false
namespace Tn.Bo
open Go Go.Abs Tn
def p200 : List PA := [.a [(i 1), m14]]
def r200 : List RA := [.c (.c (i 0))]
theorem g200 : vcall (VN tb0) rounds 6 103 p200 = some r200 := by kernel_rfl
theorem s200 : Spec Go.Proofs.Tryz.prog 103 p200 r200 := fact tk0 g200
def p206 : List PA := [.c (s [99, 111, 117, 110, 116])]
def r206 : List RA := [.c (.c bt)]
theorem g206 : vcall (VN tb0) rounds 6 173 p206 = some r206 := by kernel_rfl
theorem s206 : Spec Go.Proofs.Tryz.prog 173 p206 r206 := fact tk0 g206
def p209 : List PA := [.c (y 42)]
def r209 : List RA := [.c (.c (y 4))]
theorem g209 : vcall (VN tb0) rounds 6 134 p209 = some r209 := by kernel_rfl
theorem s209 : Spec Go.Proofs.Tryz.prog 134 p209 r209 := fact tk0 g209
def p219 : List PA := [.c (s [116, 117, 109, 98, 108, 101])]
def r219 : List RA := [.c (.c bt)]
theorem g219 : vcall (VN tb0) rounds 6 173 p219 = some r219 := by kernel_rfl
theorem s219 : Spec Go.Proofs.Tryz.prog 173 p219 r219 := fact tk0 g219
def p220 : List PA := [.c (y 53)]
def r220 : List RA := [.c (.c (y 2))]
theorem g220 : vcall (VN tb0) rounds 6 134 p220 = some r220 := by kernel_rfl
theorem s220 : Spec Go.Proofs.Tryz.prog 134 p220 r220 := fact tk0 g220
def p222 : List PA := [.c (s [53]), .q [bf, bf, bf, bf, bf, bf, bf, bf, bf, bf, bf, bf, bf, bf, bf, bf, bf, bf, bf, bf, bf, bf, bf, bf, bf, bf, bf, bf, bf, bf, bf, bf, bf, bf, bf, bf, bf, bf, bf, bf, bf, bf, bf, bf, bf, bf, bf, bf, bt, bt, bt, bt, bt, bt, bt, bt, bt, bt, bf, bf, bf, bf, bf, bf, bf, bf, bf, bf, bf, bf, bf, bf, bf, bf, bf, bf, bf, bf, bf, bf, bf, bf, bf, bf, bf, bf, bf, bf, bf, bf, bf, bf, bf, bf, bf, bf, bf, bf, bf, bf, bf, bf, bf, bf, bf, bf, bf, bf, bf, bf, bf, bf, bf, bf, bf, bf, bf, bf, bf, bf, bf, bf, bf, bf, bf, bf, bf, bf, bf, bf, bf, bf, bf, bf, bf, bf, bf, bf, bf, bf, bf, bf, bf, bf, bf, bf, bf, bf, bf, bf, bf, bf, bf, bf, bf, bf, bf, bf, bf, bf, bf, bf, bf, bf, bf, bf, bf, bf, bf, bf, bf, bf, bf, bf, bf, bf, bf, bf, bf, bf, bf, bf, bf, bf, bf, bf, bf, bf, bf, bf, bf, bf, bf, bf, bf, bf, bf, bf, bf, bf, bf, bf, bf, bf, bf, bf, bf, bf, bf, bf, bf, bf, bf, bf, bf, bf, bf, bf, bf, bf, bf, bf, bf, bf, bf, bf, bf, bf, bf, bf, bf, bf, bf, bf, bf, bf, bf, bf, bf, bf, bf, bf, bf, bf, bf, bf, bf, bf, bf, bf, bf, bf, bf, bf, bf, bf]]
def r222 : List RA := [.c (.c (s []))]
theorem g222 : vcall (VN tb0) rounds 6 254 p222 = some r222 := by kernel_rfl
theorem s222 : Spec Go.Proofs.Tryz.prog 254 p222 r222 := fact tk0 g222
def p224 : List PA := [.c (s [53]), .c (i 10), .c (i 64)]
def r224 : List RA := [.c (.c (.int .u64 5)), .c (.e false)]
theorem g224 : vcall (VN tb0) rounds 6 290 p224 = some r224 := by kernel_rfl
theorem s224 : Spec Go.Proofs.Tryz.prog 290 p224 r224 := fact tk0 g224
def p228 : List PA := [.c m0, .c (s [99, 111, 117, 110, 116])]
def r228 : List RA := [.c (.c (i 0))]
theorem g228 : vcall (VN tb0) rounds 6 224 p228 = some r228 := by kernel_rfl
theorem s228 : Spec Go.Proofs.Tryz.prog 224 p228 r228 := fact tk0 g228
def p229 : List PA := [.c (l [[(s [42])]]), .c (s [42])]
def r229 : List RA := [.c (.c (i 0))]
theorem g229 : vcall (VN tb0) rounds 6 224 p229 = some r229 := by kernel_rfl
theorem s229 : Spec Go.Proofs.Tryz.prog 224 p229 r229 := fact tk0 g229
def p230 : List PA := [.c m1, .c (s [116, 117, 109, 98, 108, 101])]
def r230 : List RA := [.c (.c (i 0))]
theorem g230 : vcall (VN tb0) rounds 6 224 p230 = some r230 := by kernel_rfl
theorem s230 : Spec Go.Proofs.Tryz.prog 224 p230 r230 := fact tk0 g230
def p233 : List PA := [.a [(y 1), e, (l [[(i 0)]]), bf, e, (y 1), (i 5), (i 0), bf, (y 1)]]
def r233 : List RA := [.c (.c (i 0)), .c (.c (i 0))]
theorem g233 : vcall (VN tb0) rounds 6 41 p233 = some r233 := by kernel_rfl
theorem s233 : Spec Go.Proofs.Tryz.prog 41 p233 r233 := fact tk0 g233
def p235 : List PA := [.a [(y 1), e, (l [[(i 0)]]), bf, e, (y 1), (i 5), (i 0), bf, (y 1)]]
def r235 : List RA := [.c (.s 5 1 [[(y 1)], [(y 2)], [(y 4)], [(y 6)], [(y 7)], [(y 9)]])]
theorem g235 : vcall (VN tb0) rounds 6 93 p235 = some r235 := by kernel_rfl
theorem s235 : Spec Go.Proofs.Tryz.prog 93 p235 r235 := fact tk0 g235
def m16 : PV := l [[(y 1)], [(y 2)], [(y 4)], [(y 6)], [(y 7)], [(y 9)]]
def p237 : List PA := [.c m16, .c m16]
def r237 : List RA := [.c (.c bt)]
theorem g237 : vcall (VN tb0) rounds 6 147 p237 = some r237 := by kernel_rfl
theorem s237 : Spec Go.Proofs.Tryz.prog 147 p237 r237 := fact tk0 g237
def p239 : List PA := [.c (i 0), .q [(l [[e]])]]
def r239 : List RA := [.a [.c (y 1), .c (i 0), .c (i 0), .c e, .c e, .c e, .s 34 5 [], .c e, .c e], .c (.c (i 0))]
theorem g239 : vcall (VN tb0) rounds 6 47 p239 = some r239 := by kernel_rfl
theorem s239 : Spec Go.Proofs.Tryz.prog 47 p239 r239 := fact tk0 g239
def p240 : List PA := [.c (i 0), .q [(y 1), e, (l [[(i 0)]]), bf, e, (y 1), (i 5), (i 0), bf, (y 1)]]
def r240 : List RA := [.a [.c (y 4), .c (i 0), .c (i 0), .c e, .s 2 1 [[(i (-9223372036854775808))]], .c e, .c e, .c e, .c e], .c (.c (i 0))]
theorem g240 : vcall (VN tb0) rounds 6 51 p240 = some r240 := by kernel_rfl
theorem s240 : Spec Go.Proofs.Tryz.prog 51 p240 r240 := fact tk0 g240
def p243 : List PA := [.c (l [[(i 0)]]), .a [(i 1), (i 2)]]
def r243 : List RA := [.c (.c bt)]
theorem g243 : vcall (VN tb0) rounds 6 187 p243 = some r243 := by kernel_rfl
theorem s243 : Spec Go.Proofs.Tryz.prog 187 p243 r243 := fact tk0 g243
def p244 : List PA := [.c (l [[(i 0)]]), .a [(i 1), (i 3)]]
def r244 : List RA := [.c (.c bt)]
theorem g244 : vcall (VN tb0) rounds 6 187 p244 = some r244 := by kernel_rfl
theorem s244 : Spec Go.Proofs.Tryz.prog 187 p244 r244 := fact tk0 g244
def m17 : PV := l [[(y 1), (i 0)], [(y 2), (i 0)], [(y 4), (i 0)], [(y 6), (i 0)]]
def m18 : PV := l [[(i 0), (i 0), (i 1), (i 0), (i 1)], [(i 1), (i 0), (i 2), (i 0), (i 1)], [(i 2), (i 0), (i 3), (i 0), (i 1)]]
def p248 : List PA := [.a [m17, m18], .c (i 0)]
def r248 : List RA := [.c (.c e)]
theorem g248 : vcall (VN tb0) rounds 6 72 p248 = some r248 := by kernel_rfl
theorem s248 : Spec Go.Proofs.Tryz.prog 72 p248 r248 := fact tk0 g248
def p249 : List PA := [.a [m17, m18], .c (i 0)]
def r249 : List RA := [.c (.c (l [[(i 0)]]))]
theorem g249 : vcall (VN tb0) rounds 6 109 p249 = some r249 := by kernel_rfl
theorem s249 : Spec Go.Proofs.Tryz.prog 109 p249 r249 := fact tk0 g249
def p250 : List PA := [.a [m17, m18], .c (i 1)]
def r250 : List RA := [.c (.c (l [[(i 0)]]))]
theorem g250 : vcall (VN tb0) rounds 6 72 p250 = some r250 := by kernel_rfl
theorem s250 : Spec Go.Proofs.Tryz.prog 72 p250 r250 := fact tk0 g250
def p251 : List PA := [.a [m17, m18], .c (i 1)]
def r251 : List RA := [.c (.c (l [[(i 1)]]))]
theorem g251 : vcall (VN tb0) rounds 6 109 p251 = some r251 := by kernel_rfl
theorem s251 : Spec Go.Proofs.Tryz.prog 109 p251 r251 := fact tk0 g251
def p252 : List PA := [.a [m17, m18], .c (i 2)]
def r252 : List RA := [.c (.c (l [[(i 1)]]))]
theorem g252 : vcall (VN tb0) rounds 6 72 p252 = some r252 := by kernel_rfl
theorem s252 : Spec Go.Proofs.Tryz.prog 72 p252 r252 := fact tk0 g252
def p253 : List PA := [.a [m17, m18], .c (i 2)]
def r253 : List RA := [.c (.c (l [[(i 2)]]))]
theorem g253 : vcall (VN tb0) rounds 6 109 p253 = some r253 := by kernel_rfl
theorem s253 : Spec Go.Proofs.Tryz.prog 109 p253 r253 := fact tk0 g253
def p254 : List PA := [.a [m17, m18], .c (i 3)]
def r254 : List RA := [.c (.c (l [[(i 2)]]))]
theorem g254 : vcall (VN tb0) rounds 6 72 p254 = some r254 := by kernel_rfl
theorem s254 : Spec Go.Proofs.Tryz.prog 72 p254 r254 := fact tk0 g254
def p255 : List PA := [.a [m17, m18], .c (i 3)]
def r255 : List RA := [.c (.c e)]
theorem g255 : vcall (VN tb0) rounds 6 109 p255 = some r255 := by kernel_rfl
theorem s255 : Spec Go.Proofs.Tryz.prog 109 p255 r255 := fact tk0 g255
def tb1 : List (FuncId × List PA × List RA) := [(134, p0, r0), (134, p1, r1), (134, p2, r2), (134, p3, r3), (134, p4, r4), (134, p5, r5), (173, p7, r7), (134, p8, r8), (134, p9, r9), (134, p10, r10), (173, p12, r12), (134, p16, r16), (134, p17, r17), (173, p19, r19), (134, p23, r23), (134, p24, r24), (134, p25, r25), (173, p27, r27), (134, p28, r28), (173, p30, r30), (134, p31, r31), (134, p32, r32), (134, p33, r33), (134, p34, r34), (173, p36, r36), (173, p38, r38), (134, p39, r39), (134, p40, r40), (252, p42, r42), (254, p43, r43), (253, p44, r44), (290, p46, r46), (134, p49, r49), (173, p51, r51), (134, p52, r52), (254, p54, r54), (290, p56, r56), (134, p59, r59), (173, p61, r61), (134, p62, r62), (173, p64, r64), (173, p66, r66), (173, p68, r68), (224, p70, r70), (224, p71, r71), (224, p72, r72), (264, p73, r73), (224, p74, r74), (224, p76, r76), (224, p77, r77), (224, p78, r78), (224, p79, r79), (224, p80, r80), (224, p81, r81), (224, p82, r82), (224, p83, r83), (224, p85, r85), (224, p87, r87), (224, p88, r88), (224, p89, r89), (224, p90, r90), (41, p92, r92), (93, p94, r94), (147, p96, r96), (47, p98, r98), (49, p99, r99), (50, p100, r100), (51, p101, r101), (51, p102, r102), (54, p103, r103), (56, p104, r104), (41, p124, r124), (41, p127, r127), (41, p129, r129), (187, p134, r134), (187, p135, r135), (308, p136, r136), (187, p139, r139), (103, p142, r142), (189, p143, r143), (189, p144, r144), (72, p146, r146), (109, p147, r147), (189, p148, r148), (72, p150, r150), (118, p151, r151), (72, p155, r155), (189, p158, r158), (72, p160, r160), (109, p161, r161), (72, p163, r163), (109, p164, r164), (109, p168, r168), (72, p170, r170), (109, p171, r171), (71, p175, r175), (71, p176, r176), (71, p190, r190), (71, p191, r191), (156, p193, r193), (78, p198, r198), (103, p200, r200), (173, p206, r206), (134, p209, r209), (173, p219, r219), (134, p220, r220), (254, p222, r222), (290, p224, r224), (224, p228, r228), (224, p229, r229), (224, p230, r230), (41, p233, r233), (93, p235, r235), (147, p237, r237), (47, p239, r239), (51, p240, r240), (187, p243, r243), (187, p244, r244), (72, p248, r248), (109, p249, r249), (72, p250, r250), (109, p251, r251), (72, p252, r252), (109, p253, r253), (72, p254, r254), (109, p255, r255)] ++ tb0
theorem tk1 : TOK Go.Proofs.Tryz.prog tb1 := TOK.app (l := [(134, p0, r0), (134, p1, r1), (134, p2, r2), (134, p3, r3), (134, p4, r4), (134, p5, r5), (173, p7, r7), (134, p8, r8), (134, p9, r9), (134, p10, r10), (173, p12, r12), (134, p16, r16), (134, p17, r17), (173, p19, r19), (134, p23, r23), (134, p24, r24), (134, p25, r25), (173, p27, r27), (134, p28, r28), (173, p30, r30), (134, p31, r31), (134, p32, r32), (134, p33, r33), (134, p34, r34), (173, p36, r36), (173, p38, r38), (134, p39, r39), (134, p40, r40), (252, p42, r42), (254, p43, r43), (253, p44, r44), (290, p46, r46), (134, p49, r49), (173, p51, r51), (134, p52, r52), (254, p54, r54), (290, p56, r56), (134, p59, r59), (173, p61, r61), (134, p62, r62), (173, p64, r64), (173, p66, r66), (173, p68, r68), (224, p70, r70), (224, p71, r71), (224, p72, r72), (264, p73, r73), (224, p74, r74), (224, p76, r76), (224, p77, r77), (224, p78, r78), (224, p79, r79), (224, p80, r80), (224, p81, r81), (224, p82, r82), (224, p83, r83), (224, p85, r85), (224, p87, r87), (224, p88, r88), (224, p89, r89), (224, p90, r90), (41, p92, r92), (93, p94, r94), (147, p96, r96), (47, p98, r98), (49, p99, r99), (50, p100, r100), (51, p101, r101), (51, p102, r102), (54, p103, r103), (56, p104, r104), (41, p124, r124), (41, p127, r127), (41, p129, r129), (187, p134, r134), (187, p135, r135), (308, p136, r136), (187, p139, r139), (103, p142, r142), (189, p143, r143), (189, p144, r144), (72, p146, r146), (109, p147, r147), (189, p148, r148), (72, p150, r150), (118, p151, r151), (72, p155, r155), (189, p158, r158), (72, p160, r160), (109, p161, r161), (72, p163, r163), (109, p164, r164), (109, p168, r168), (72, p170, r170), (109, p171, r171), (71, p175, r175), (71, p176, r176), (71, p190, r190), (71, p191, r191), (156, p193, r193), (78, p198, r198), (103, p200, r200), (173, p206, r206), (134, p209, r209), (173, p219, r219), (134, p220, r220), (254, p222, r222), (290, p224, r224), (224, p228, r228), (224, p229, r229), (224, p230, r230), (41, p233, r233), (93, p235, r235), (147, p237, r237), (47, p239, r239), (51, p240, r240), (187, p243, r243), (187, p244, r244), (72, p248, r248), (109, p249, r249), (72, p250, r250), (109, p251, r251), (72, p252, r252), (109, p253, r253), (72, p254, r254), (109, p255, r255)]) ⟨s0, s1, s2, s3, s4, s5, s7, s8, s9, s10, s12, s16, s17, s19, s23, s24, s25, s27, s28, s30, s31, s32, s33, s34, s36, s38, s39, s40, s42, s43, s44, s46, s49, s51, s52, s54, s56, s59, s61, s62, s64, s66, s68, s70, s71, s72, s73, s74, s76, s77, s78, s79, s80, s81, s82, s83, s85, s87, s88, s89, s90, s92, s94, s96, s98, s99, s100, s101, s102, s103, s104, s124, s127, s129, s134, s135, s136, s139, s142, s143, s144, s146, s147, s148, s150, s151, s155, s158, s160, s161, s163, s164, s168, s170, s171, s175, s176, s190, s191, s193, s198, s200, s206, s209, s219, s220, s222, s224, s228, s229, s230, s233, s235, s237, s239, s240, s243, s244, s248, s249, s250, s251, s252, s253, s254, s255, trivial⟩ tk0
def p6 : List PA := [.c (s [115, 101, 108, 101, 99, 116, 32, 115, 117, 109, 40, 118, 41, 32, 102, 114, 111, 109, 32, 97, 32, 119, 105, 110, 100, 111, 119, 32, 115, 108, 105, 100, 101, 32, 49, 48, 32, 101, 118, 101, 114, 121, 32, 52, 32, 98, 121, 32, 107, 101, 121, 32, 108, 97, 116, 101, 32, 115, 105, 100, 101])]
def r6 : List RA := [.a [.c (y 2), .c (s [115, 101, 108, 101, 99, 116]), .c (i 0)]]
theorem g6 : vcall (VN tb1) rounds 6 135 p6 = some r6 := by kernel_rfl
theorem s6 : Spec Go.Proofs.Tryz.prog 135 p6 r6 := fact tk1 g6
def p11 : List PA := [.c (s [115, 117, 109, 40, 118, 41, 32, 102, 114, 111, 109, 32, 97, 32, 119, 105, 110, 100, 111, 119, 32, 115, 108, 105, 100, 101, 32, 49, 48, 32, 101, 118, 101, 114, 121, 32, 52, 32, 98, 121, 32, 107, 101, 121, 32, 108, 97, 116, 101, 32, 115, 105, 100, 101])]
def r11 : List RA := [.a [.c (y 2), .c (s [115, 117, 109]), .c (i 0)]]
theorem g11 : vcall (VN tb1) rounds 6 135 p11 = some r11 := by kernel_rfl
theorem s11 : Spec Go.Proofs.Tryz.prog 135 p11 r11 := fact tk1 g11
def p13 : List PA := [.c (s [40, 118, 41, 32, 102, 114, 111, 109, 32, 97, 32, 119, 105, 110, 100, 111, 119, 32, 115, 108, 105, 100, 101, 32, 49, 48, 32, 101, 118, 101, 114, 121, 32, 52, 32, 98, 121, 32, 107, 101, 121, 32, 108, 97, 116, 101, 32, 115, 105, 100, 101]), .c (i 0)]
def r13 : List RA := [.c (.c (i 1)), .c (.c (i 0))]
theorem g13 : vcall (VN tb1) rounds 6 171 p13 = some r13 := by kernel_rfl
theorem s13 : Spec Go.Proofs.Tryz.prog 171 p13 r13 := fact tk1 g13
def p15 : List PA := [.c (s [40]), .c (i 0)]
def r15 : List RA := [.c (.c (i 1)), .c (.c (i 0))]
theorem g15 : vcall (VN tb1) rounds 6 171 p15 = some r15 := by kernel_rfl
theorem s15 : Spec Go.Proofs.Tryz.prog 171 p15 r15 := fact tk1 g15
def p18 : List PA := [.c (s [118, 41, 32, 102, 114, 111, 109, 32, 97, 32, 119, 105, 110, 100, 111, 119, 32, 115, 108, 105, 100, 101, 32, 49, 48, 32, 101, 118, 101, 114, 121, 32, 52, 32, 98, 121, 32, 107, 101, 121, 32, 108, 97, 116, 101, 32, 115, 105, 100, 101])]
def r18 : List RA := [.a [.c (y 2), .c (s [118]), .c (i 0)]]
theorem g18 : vcall (VN tb1) rounds 6 135 p18 = some r18 := by kernel_rfl
theorem s18 : Spec Go.Proofs.Tryz.prog 135 p18 r18 := fact tk1 g18
def p20 : List PA := [.c (s [41, 32, 102, 114, 111, 109, 32, 97, 32, 119, 105, 110, 100, 111, 119, 32, 115, 108, 105, 100, 101, 32, 49, 48, 32, 101, 118, 101, 114, 121, 32, 52, 32, 98, 121, 32, 107, 101, 121, 32, 108, 97, 116, 101, 32, 115, 105, 100, 101]), .c (i 0)]
def r20 : List RA := [.c (.c (i 1)), .c (.c (i 0))]
theorem g20 : vcall (VN tb1) rounds 6 171 p20 = some r20 := by kernel_rfl
theorem s20 : Spec Go.Proofs.Tryz.prog 171 p20 r20 := fact tk1 g20
def p22 : List PA := [.c (s [41]), .c (i 0)]
def r22 : List RA := [.c (.c (i 1)), .c (.c (i 0))]
theorem g22 : vcall (VN tb1) rounds 6 171 p22 = some r22 := by kernel_rfl
theorem s22 : Spec Go.Proofs.Tryz.prog 171 p22 r22 := fact tk1 g22
def p26 : List PA := [.c (s [102, 114, 111, 109, 32, 97, 32, 119, 105, 110, 100, 111, 119, 32, 115, 108, 105, 100, 101, 32, 49, 48, 32, 101, 118, 101, 114, 121, 32, 52, 32, 98, 121, 32, 107, 101, 121, 32, 108, 97, 116, 101, 32, 115, 105, 100, 101])]
def r26 : List RA := [.a [.c (y 2), .c (s [102, 114, 111, 109]), .c (i 0)]]
theorem g26 : vcall (VN tb1) rounds 6 135 p26 = some r26 := by kernel_rfl
theorem s26 : Spec Go.Proofs.Tryz.prog 135 p26 r26 := fact tk1 g26
def p29 : List PA := [.c (s [97, 32, 119, 105, 110, 100, 111, 119, 32, 115, 108, 105, 100, 101, 32, 49, 48, 32, 101, 118, 101, 114, 121, 32, 52, 32, 98, 121, 32, 107, 101, 121, 32, 108, 97, 116, 101, 32, 115, 105, 100, 101])]
def r29 : List RA := [.a [.c (y 2), .c (s [97]), .c (i 0)]]
theorem g29 : vcall (VN tb1) rounds 6 135 p29 = some r29 := by kernel_rfl
theorem s29 : Spec Go.Proofs.Tryz.prog 135 p29 r29 := fact tk1 g29
def p35 : List PA := [.c (s [119, 105, 110, 100, 111, 119, 32, 115, 108, 105, 100, 101, 32, 49, 48, 32, 101, 118, 101, 114, 121, 32, 52, 32, 98, 121, 32, 107, 101, 121, 32, 108, 97, 116, 101, 32, 115, 105, 100, 101])]
def r35 : List RA := [.a [.c (y 2), .c (s [119, 105, 110, 100, 111, 119]), .c (i 0)]]
theorem g35 : vcall (VN tb1) rounds 6 135 p35 = some r35 := by kernel_rfl
theorem s35 : Spec Go.Proofs.Tryz.prog 135 p35 r35 := fact tk1 g35
def p37 : List PA := [.c (s [115, 108, 105, 100, 101, 32, 49, 48, 32, 101, 118, 101, 114, 121, 32, 52, 32, 98, 121, 32, 107, 101, 121, 32, 108, 97, 116, 101, 32, 115, 105, 100, 101])]
def r37 : List RA := [.a [.c (y 2), .c (s [115, 108, 105, 100, 101]), .c (i 0)]]
theorem g37 : vcall (VN tb1) rounds 6 135 p37 = some r37 := by kernel_rfl
theorem s37 : Spec Go.Proofs.Tryz.prog 135 p37 r37 := fact tk1 g37
def p41 : List PA := [.c (s [49, 48, 32, 101, 118, 101, 114, 121, 32, 52, 32, 98, 121, 32, 107, 101, 121, 32, 108, 97, 116, 101, 32, 115, 105, 100, 101])]
def r41 : List RA := [.a [.c (y 1), .c (s [49, 48]), .c (i 0)]]
theorem g41 : vcall (VN tb1) rounds 6 135 p41 = some r41 := by kernel_rfl
theorem s41 : Spec Go.Proofs.Tryz.prog 135 p41 r41 := fact tk1 g41
def p45 : List PA := [.c (s [49, 48]), .c (s [48, 49, 50, 51, 52, 53, 54, 55, 56, 57])]
def r45 : List RA := [.c (.c (s []))]
theorem g45 : vcall (VN tb1) rounds 6 218 p45 = some r45 := by kernel_rfl
theorem s45 : Spec Go.Proofs.Tryz.prog 218 p45 r45 := fact tk1 g45
def p47 : List PA := [.c (s [49, 48]), .c (i 10), .c (i 64)]
def r47 : List RA := [.c (.c (i 10)), .c (.e false)]
theorem g47 : vcall (VN tb1) rounds 6 257 p47 = some r47 := by kernel_rfl
theorem s47 : Spec Go.Proofs.Tryz.prog 257 p47 r47 := fact tk1 g47
def p50 : List PA := [.c (s [101, 118, 101, 114, 121, 32, 52, 32, 98, 121, 32, 107, 101, 121, 32, 108, 97, 116, 101, 32, 115, 105, 100, 101])]
def r50 : List RA := [.a [.c (y 2), .c (s [101, 118, 101, 114, 121]), .c (i 0)]]
theorem g50 : vcall (VN tb1) rounds 6 135 p50 = some r50 := by kernel_rfl
theorem s50 : Spec Go.Proofs.Tryz.prog 135 p50 r50 := fact tk1 g50
def p53 : List PA := [.c (s [52, 32, 98, 121, 32, 107, 101, 121, 32, 108, 97, 116, 101, 32, 115, 105, 100, 101])]
def r53 : List RA := [.a [.c (y 1), .c (s [52]), .c (i 0)]]
theorem g53 : vcall (VN tb1) rounds 6 135 p53 = some r53 := by kernel_rfl
theorem s53 : Spec Go.Proofs.Tryz.prog 135 p53 r53 := fact tk1 g53
def p55 : List PA := [.c (s [52]), .c (s [48, 49, 50, 51, 52, 53, 54, 55, 56, 57])]
def r55 : List RA := [.c (.c (s []))]
theorem g55 : vcall (VN tb1) rounds 6 218 p55 = some r55 := by kernel_rfl
theorem s55 : Spec Go.Proofs.Tryz.prog 218 p55 r55 := fact tk1 g55
def p57 : List PA := [.c (s [52]), .c (i 10), .c (i 64)]
def r57 : List RA := [.c (.c (i 4)), .c (.e false)]
theorem g57 : vcall (VN tb1) rounds 6 257 p57 = some r57 := by kernel_rfl
theorem s57 : Spec Go.Proofs.Tryz.prog 257 p57 r57 := fact tk1 g57
def p60 : List PA := [.c (s [98, 121, 32, 107, 101, 121, 32, 108, 97, 116, 101, 32, 115, 105, 100, 101])]
def r60 : List RA := [.a [.c (y 2), .c (s [98, 121]), .c (i 0)]]
theorem g60 : vcall (VN tb1) rounds 6 135 p60 = some r60 := by kernel_rfl
theorem s60 : Spec Go.Proofs.Tryz.prog 135 p60 r60 := fact tk1 g60
def p63 : List PA := [.c (s [107, 101, 121, 32, 108, 97, 116, 101, 32, 115, 105, 100, 101])]
def r63 : List RA := [.a [.c (y 2), .c (s [107, 101, 121]), .c (i 0)]]
theorem g63 : vcall (VN tb1) rounds 6 135 p63 = some r63 := by kernel_rfl
theorem s63 : Spec Go.Proofs.Tryz.prog 135 p63 r63 := fact tk1 g63
def p65 : List PA := [.c (s [108, 97, 116, 101, 32, 115, 105, 100, 101])]
def r65 : List RA := [.a [.c (y 2), .c (s [108, 97, 116, 101]), .c (i 0)]]
theorem g65 : vcall (VN tb1) rounds 6 135 p65 = some r65 := by kernel_rfl
theorem s65 : Spec Go.Proofs.Tryz.prog 135 p65 r65 := fact tk1 g65
def p67 : List PA := [.c (s [115, 105, 100, 101])]
def r67 : List RA := [.a [.c (y 2), .c (s [115, 105, 100, 101]), .c (i 0)]]
theorem g67 : vcall (VN tb1) rounds 6 135 p67 = some r67 := by kernel_rfl
theorem s67 : Spec Go.Proofs.Tryz.prog 135 p67 r67 := fact tk1 g67
def p95 : List PA := [.a [(y 2), m2, (l [[(i 0)]]), bf, e, (y 2), (i 10), (i 4), bt, (y 2)]]
def r95 : List RA := [.a [.c m3, .c (y 2), .c m2, .c (l [[(i 0)]]), .c bf, .c e, .c (y 2), .c (i 10), .c (i 4), .c bt, .c (y 2)], .c (.c (i 0))]
theorem g95 : vcall (VN tb1) rounds 6 43 p95 = some r95 := by kernel_rfl
theorem s95 : Spec Go.Proofs.Tryz.prog 43 p95 r95 := fact tk1 g95
def p97 : List PA := [.a [m3, (y 2), m2, (l [[(i 0)]]), bf, e, (y 2), (i 10), (i 4), bt, (y 2)], .c (i 2), .c (i 1)]
def r97 : List RA := [.a [.c m6, .c m7], .c (.c (i 0))]
theorem g97 : vcall (VN tb1) rounds 6 44 p97 = some r97 := by kernel_rfl
theorem s97 : Spec Go.Proofs.Tryz.prog 44 p97 r97 := fact tk1 g97
def p107 : List PA := [.c (s [115, 101, 108, 101, 99, 116, 32, 115, 117, 109, 40, 118, 41, 32, 102, 114, 111, 109, 32, 97, 32, 119, 105, 110, 100, 111, 119, 32, 115, 108, 105, 100, 101, 32, 49, 48, 32, 101, 118, 101, 114, 121, 32, 52])]
def r107 : List RA := [.a [.c (y 2), .c (s [115, 101, 108, 101, 99, 116]), .c (i 0)]]
theorem g107 : vcall (VN tb1) rounds 6 135 p107 = some r107 := by kernel_rfl
theorem s107 : Spec Go.Proofs.Tryz.prog 135 p107 r107 := fact tk1 g107
def p108 : List PA := [.c (s [115, 117, 109, 40, 118, 41, 32, 102, 114, 111, 109, 32, 97, 32, 119, 105, 110, 100, 111, 119, 32, 115, 108, 105, 100, 101, 32, 49, 48, 32, 101, 118, 101, 114, 121, 32, 52])]
def r108 : List RA := [.a [.c (y 2), .c (s [115, 117, 109]), .c (i 0)]]
theorem g108 : vcall (VN tb1) rounds 6 135 p108 = some r108 := by kernel_rfl
theorem s108 : Spec Go.Proofs.Tryz.prog 135 p108 r108 := fact tk1 g108
def p109 : List PA := [.c (s [40, 118, 41, 32, 102, 114, 111, 109, 32, 97, 32, 119, 105, 110, 100, 111, 119, 32, 115, 108, 105, 100, 101, 32, 49, 48, 32, 101, 118, 101, 114, 121, 32, 52]), .c (i 0)]
def r109 : List RA := [.c (.c (i 1)), .c (.c (i 0))]
theorem g109 : vcall (VN tb1) rounds 6 171 p109 = some r109 := by kernel_rfl
theorem s109 : Spec Go.Proofs.Tryz.prog 171 p109 r109 := fact tk1 g109
def p111 : List PA := [.c (s [118, 41, 32, 102, 114, 111, 109, 32, 97, 32, 119, 105, 110, 100, 111, 119, 32, 115, 108, 105, 100, 101, 32, 49, 48, 32, 101, 118, 101, 114, 121, 32, 52])]
def r111 : List RA := [.a [.c (y 2), .c (s [118]), .c (i 0)]]
theorem g111 : vcall (VN tb1) rounds 6 135 p111 = some r111 := by kernel_rfl
theorem s111 : Spec Go.Proofs.Tryz.prog 135 p111 r111 := fact tk1 g111
def p112 : List PA := [.c (s [41, 32, 102, 114, 111, 109, 32, 97, 32, 119, 105, 110, 100, 111, 119, 32, 115, 108, 105, 100, 101, 32, 49, 48, 32, 101, 118, 101, 114, 121, 32, 52]), .c (i 0)]
def r112 : List RA := [.c (.c (i 1)), .c (.c (i 0))]
theorem g112 : vcall (VN tb1) rounds 6 171 p112 = some r112 := by kernel_rfl
theorem s112 : Spec Go.Proofs.Tryz.prog 171 p112 r112 := fact tk1 g112
end Tn.Bo
