import Derived.Test.YtdfikojbpojmfaaGreatDoorLn2
/- Closed facts of one run, each by the kernel. -/
set_option linter.unusedVariables false
namespace Tn.Ln
open Go Go.Abs Tn
def p271 : List PA := [.a [(y 2), m14, (l [[(i 1)], [(i 3)]]), bt, e, (y 1), (i 5), (i 0), bt, (y 2)]]
def r271 : List RA := [.c (.s 5 1 [[(y 1)], [(y 2)], [(y 4)], [(y 5)], [(y 6)], [(y 8)], [(y 9)], [(y 10)]])]
theorem g271 : vcall (VN tb0) rounds 6 88 p271 = some r271 := by kernel_rfl
theorem s271 : Spec Go.Proofs.Tryz.prog 88 p271 r271 := fact tk0 g271
def m15 : PV := l [[(y 1)], [(y 2)], [(y 4)], [(y 5)], [(y 6)], [(y 8)], [(y 9)], [(y 10)]]
def p273 : List PA := [.c m15, .c m15]
def r273 : List RA := [.c (.c bt)]
theorem g273 : vcall (VN tb0) rounds 6 129 p273 = some r273 := by kernel_rfl
theorem s273 : Spec Go.Proofs.Tryz.prog 129 p273 r273 := fact tk0 g273
def p275 : List PA := [.c (i 0), .q [(l [[e], [e]])]]
def r275 : List RA := [.a [.c (y 1), .c (i 0), .c (i 0), .c e, .c e, .c e, .s 180 5 [], .c e, .c e], .c (.c (i 0))]
theorem g275 : vcall (VN tb0) rounds 6 53 p275 = some r275 := by kernel_rfl
theorem s275 : Spec Go.Proofs.Tryz.prog 53 p275 r275 := fact tk0 g275
def p276 : List PA := [.c (i 1), .q [(l [[e], [e]])]]
def r276 : List RA := [.a [.c (y 1), .c (i 1), .c (i 0), .c e, .c e, .c e, .s 180 5 [], .c e, .c e], .c (.c (i 0))]
theorem g276 : vcall (VN tb0) rounds 6 53 p276 = some r276 := by kernel_rfl
theorem s276 : Spec Go.Proofs.Tryz.prog 53 p276 r276 := fact tk0 g276
def p277 : List PA := [.c (i 0)]
def r277 : List RA := [.a [.c (y 2), .c (i 0), .c (i 0), .c e, .s 2 1 [[(i (-9223372036854775808))]], .c e, .c e, .c e, .c e], .c (.c (i 0))]
theorem g277 : vcall (VN tb0) rounds 6 55 p277 = some r277 := by kernel_rfl
theorem s277 : Spec Go.Proofs.Tryz.prog 55 p277 r277 := fact tk0 g277
def p278 : List PA := [.c (i 1)]
def r278 : List RA := [.a [.c (y 2), .c (i 1), .c (i 0), .c e, .s 2 1 [[(i (-9223372036854775808))]], .c e, .c e, .c e, .c e], .c (.c (i 0))]
theorem g278 : vcall (VN tb0) rounds 6 55 p278 = some r278 := by kernel_rfl
theorem s278 : Spec Go.Proofs.Tryz.prog 55 p278 r278 := fact tk0 g278
def p279 : List PA := [.c (i 0)]
def r279 : List RA := [.a [.c (y 3), .c (i 0), .c (i 0), .c e, .c e, .c e, .c e, .c e, .c e], .c (.c (i 0))]
theorem g279 : vcall (VN tb0) rounds 6 56 p279 = some r279 := by kernel_rfl
theorem s279 : Spec Go.Proofs.Tryz.prog 56 p279 r279 := fact tk0 g279
def p280 : List PA := [.c (i 1)]
def r280 : List RA := [.a [.c (y 3), .c (i 1), .c (i 0), .c e, .c e, .c e, .c e, .c e, .c e], .c (.c (i 0))]
theorem g280 : vcall (VN tb0) rounds 6 56 p280 = some r280 := by kernel_rfl
theorem s280 : Spec Go.Proofs.Tryz.prog 56 p280 r280 := fact tk0 g280
def p281 : List PA := [.c (i 0)]
def r281 : List RA := [.a [.c (y 5), .c (i 0), .c (i 0), .c e, .s 2 1 [[(i (-9223372036854775808))], [(i (-9223372036854775808))]], .c e, .c e, .c e, .c e], .c (.c (i 0))]
theorem g281 : vcall (VN tb0) rounds 6 59 p281 = some r281 := by kernel_rfl
theorem s281 : Spec Go.Proofs.Tryz.prog 59 p281 r281 := fact tk0 g281
def p282 : List PA := [.c (i 0)]
def r282 : List RA := [.a [.c (y 6), .c (i 0), .c (i 0), .c e, .c e, .c e, .c e, .c e, .c e], .c (.c (i 0))]
theorem g282 : vcall (VN tb0) rounds 6 60 p282 = some r282 := by kernel_rfl
theorem s282 : Spec Go.Proofs.Tryz.prog 60 p282 r282 := fact tk0 g282
def p283 : List PA := [.c (i 0)]
def r283 : List RA := [.a [.c (y 7), .c (i 0), .c (i 0), .c e, .c e, .c e, .c e, .c e, .c e], .c (.c (i 0))]
theorem g283 : vcall (VN tb0) rounds 6 62 p283 = some r283 := by kernel_rfl
theorem s283 : Spec Go.Proofs.Tryz.prog 62 p283 r283 := fact tk0 g283
def p286 : List PA := [.c (l [[(i 0)]]), .a [(i 1), (i 1)]]
def r286 : List RA := [.c (.c bt)]
theorem g286 : vcall (VN tb0) rounds 6 80 p286 = some r286 := by kernel_rfl
theorem s286 : Spec Go.Proofs.Tryz.prog 80 p286 r286 := fact tk0 g286
def p287 : List PA := [.c (i 1), .c (i 0)]
def r287 : List RA := [.c (.c bf)]
theorem g287 : vcall (VN tb0) rounds 6 178 p287 = some r287 := by kernel_rfl
theorem s287 : Spec Go.Proofs.Tryz.prog 178 p287 r287 := fact tk0 g287
def p289 : List PA := [.c (l [[(i 0)]]), .a [(i 1), (i 3)]]
def r289 : List RA := [.c (.c bt)]
theorem g289 : vcall (VN tb0) rounds 6 80 p289 = some r289 := by kernel_rfl
theorem s289 : Spec Go.Proofs.Tryz.prog 80 p289 r289 := fact tk0 g289
def m16 : PV := l [[(i 0), (i 0), (i 5), (i 2), (i 0)]]
def p296 : List PA := [.a [m16, e], .a [m16, e]]
def r296 : List RA := [.c (.c bt)]
theorem g296 : vcall (VN tb0) rounds 6 15 p296 = some r296 := by kernel_rfl
theorem s296 : Spec Go.Proofs.Tryz.prog 15 p296 r296 := fact tk0 g296
def p298 : List PA := [.c (l [[(i 0), (i (-1))], [(i 3), (i 1)]])]
def r298 : List RA := [.c (.c (i 0))]
theorem g298 : vcall (VN tb0) rounds 6 21 p298 = some r298 := by kernel_rfl
theorem s298 : Spec Go.Proofs.Tryz.prog 21 p298 r298 := fact tk0 g298
def p299 : List PA := [.a [(i 3), (i 1)]]
def r299 : List RA := [.c (.c (s [51, 46, 49]))]
theorem g299 : vcall (VN tb0) rounds 6 22 p299 = some r299 := by kernel_rfl
theorem s299 : Spec Go.Proofs.Tryz.prog 22 p299 r299 := fact tk0 g299
def p301 : List PA := [.c (s [51, 46, 49]), .c (s [46])]
def r301 : List RA := [.c (.c (s [51])), .c (.c (s [49])), .c (.c bt)]
theorem g301 : vcall (VN tb0) rounds 6 34 p301 = some r301 := by kernel_rfl
theorem s301 : Spec Go.Proofs.Tryz.prog 34 p301 r301 := fact tk0 g301
def tb1 : List (FuncId × List PA × List RA) := [(9, p0, r0), (15, p2, r2), (5, p4, r4), (36, p5, r5), (36, p7, r7), (30, p10, r10), (98, p11, r11), (67, p13, r13), (30, p15, r15), (98, p16, r16), (67, p18, r18), (15, p21, r21), (21, p23, r23), (16, p25, r25), (21, p27, r27), (22, p28, r28), (34, p30, r30), (21, p33, r33), (22, p34, r34), (22, p35, r35), (34, p37, r37), (34, p38, r38), (30, p41, r41), (30, p45, r45), (98, p46, r46), (67, p48, r48), (30, p52, r52), (98, p53, r53), (67, p55, r55), (30, p59, r59), (98, p60, r60), (67, p62, r62), (36, p63, r63), (30, p67, r67), (98, p68, r68), (67, p70, r70), (36, p71, r71), (30, p77, r77), (98, p78, r78), (36, p80, r80), (30, p84, r84), (98, p85, r85), (67, p87, r87), (36, p88, r88), (30, p94, r94), (98, p95, r95), (67, p97, r97), (30, p101, r101), (98, p102, r102), (67, p104, r104), (36, p105, r105), (30, p109, r109), (98, p110, r110), (67, p112, r112), (34, p116, r116), (34, p119, r119), (22, p120, r120), (34, p127, r127), (22, p128, r128), (21, p129, r129), (34, p132, r132), (22, p133, r133), (21, p134, r134), (34, p137, r137), (34, p140, r140), (34, p143, r143), (34, p146, r146), (34, p149, r149), (22, p150, r150), (21, p151, r151), (34, p154, r154), (34, p157, r157), (34, p160, r160), (34, p163, r163), (22, p164, r164), (21, p165, r165), (9, p168, r168), (9, p169, r169), (36, p170, r170), (36, p173, r173), (21, p176, r176), (21, p178, r178), (24, p180, r180), (80, p182, r182), (80, p183, r183), (116, p187, r187), (116, p188, r188), (116, p189, r189), (116, p190, r190), (116, p191, r191), (116, p192, r192), (154, p194, r194), (116, p195, r195), (116, p196, r196), (116, p197, r197), (154, p199, r199), (116, p203, r203), (116, p204, r204), (154, p206, r206), (116, p210, r210), (116, p211, r211), (116, p212, r212), (154, p214, r214), (116, p215, r215), (154, p217, r217), (116, p218, r218), (116, p219, r219), (116, p220, r220), (154, p222, r222), (116, p223, r223), (154, p225, r225), (116, p226, r226), (154, p228, r228), (154, p230, r230), (116, p231, r231), (201, p233, r233), (203, p234, r234), (202, p235, r235), (116, p237, r237), (154, p239, r239), (116, p240, r240), (154, p242, r242), (116, p243, r243), (154, p245, r245), (154, p247, r247), (187, p249, r249), (187, p250, r250), (187, p251, r251), (209, p252, r252), (187, p253, r253), (187, p255, r255), (187, p256, r256), (187, p257, r257), (187, p258, r258), (187, p259, r259), (187, p260, r260), (187, p261, r261), (187, p262, r262), (187, p264, r264), (187, p265, r265), (187, p266, r266), (187, p267, r267), (47, p269, r269), (88, p271, r271), (129, p273, r273), (53, p275, r275), (53, p276, r276), (55, p277, r277), (55, p278, r278), (56, p279, r279), (56, p280, r280), (59, p281, r281), (60, p282, r282), (62, p283, r283), (80, p286, r286), (178, p287, r287), (80, p289, r289), (15, p296, r296), (21, p298, r298), (22, p299, r299), (34, p301, r301)] ++ tb0
theorem tk1 : TOK Go.Proofs.Tryz.prog tb1 := TOK.app (l := [(9, p0, r0), (15, p2, r2), (5, p4, r4), (36, p5, r5), (36, p7, r7), (30, p10, r10), (98, p11, r11), (67, p13, r13), (30, p15, r15), (98, p16, r16), (67, p18, r18), (15, p21, r21), (21, p23, r23), (16, p25, r25), (21, p27, r27), (22, p28, r28), (34, p30, r30), (21, p33, r33), (22, p34, r34), (22, p35, r35), (34, p37, r37), (34, p38, r38), (30, p41, r41), (30, p45, r45), (98, p46, r46), (67, p48, r48), (30, p52, r52), (98, p53, r53), (67, p55, r55), (30, p59, r59), (98, p60, r60), (67, p62, r62), (36, p63, r63), (30, p67, r67), (98, p68, r68), (67, p70, r70), (36, p71, r71), (30, p77, r77), (98, p78, r78), (36, p80, r80), (30, p84, r84), (98, p85, r85), (67, p87, r87), (36, p88, r88), (30, p94, r94), (98, p95, r95), (67, p97, r97), (30, p101, r101), (98, p102, r102), (67, p104, r104), (36, p105, r105), (30, p109, r109), (98, p110, r110), (67, p112, r112), (34, p116, r116), (34, p119, r119), (22, p120, r120), (34, p127, r127), (22, p128, r128), (21, p129, r129), (34, p132, r132), (22, p133, r133), (21, p134, r134), (34, p137, r137), (34, p140, r140), (34, p143, r143), (34, p146, r146), (34, p149, r149), (22, p150, r150), (21, p151, r151), (34, p154, r154), (34, p157, r157), (34, p160, r160), (34, p163, r163), (22, p164, r164), (21, p165, r165), (9, p168, r168), (9, p169, r169), (36, p170, r170), (36, p173, r173), (21, p176, r176), (21, p178, r178), (24, p180, r180), (80, p182, r182), (80, p183, r183), (116, p187, r187), (116, p188, r188), (116, p189, r189), (116, p190, r190), (116, p191, r191), (116, p192, r192), (154, p194, r194), (116, p195, r195), (116, p196, r196), (116, p197, r197), (154, p199, r199), (116, p203, r203), (116, p204, r204), (154, p206, r206), (116, p210, r210), (116, p211, r211), (116, p212, r212), (154, p214, r214), (116, p215, r215), (154, p217, r217), (116, p218, r218), (116, p219, r219), (116, p220, r220), (154, p222, r222), (116, p223, r223), (154, p225, r225), (116, p226, r226), (154, p228, r228), (154, p230, r230), (116, p231, r231), (201, p233, r233), (203, p234, r234), (202, p235, r235), (116, p237, r237), (154, p239, r239), (116, p240, r240), (154, p242, r242), (116, p243, r243), (154, p245, r245), (154, p247, r247), (187, p249, r249), (187, p250, r250), (187, p251, r251), (209, p252, r252), (187, p253, r253), (187, p255, r255), (187, p256, r256), (187, p257, r257), (187, p258, r258), (187, p259, r259), (187, p260, r260), (187, p261, r261), (187, p262, r262), (187, p264, r264), (187, p265, r265), (187, p266, r266), (187, p267, r267), (47, p269, r269), (88, p271, r271), (129, p273, r273), (53, p275, r275), (53, p276, r276), (55, p277, r277), (55, p278, r278), (56, p279, r279), (56, p280, r280), (59, p281, r281), (60, p282, r282), (62, p283, r283), (80, p286, r286), (178, p287, r287), (80, p289, r289), (15, p296, r296), (21, p298, r298), (22, p299, r299), (34, p301, r301)]) ⟨s0, s2, s4, s5, s7, s10, s11, s13, s15, s16, s18, s21, s23, s25, s27, s28, s30, s33, s34, s35, s37, s38, s41, s45, s46, s48, s52, s53, s55, s59, s60, s62, s63, s67, s68, s70, s71, s77, s78, s80, s84, s85, s87, s88, s94, s95, s97, s101, s102, s104, s105, s109, s110, s112, s116, s119, s120, s127, s128, s129, s132, s133, s134, s137, s140, s143, s146, s149, s150, s151, s154, s157, s160, s163, s164, s165, s168, s169, s170, s173, s176, s178, s180, s182, s183, s187, s188, s189, s190, s191, s192, s194, s195, s196, s197, s199, s203, s204, s206, s210, s211, s212, s214, s215, s217, s218, s219, s220, s222, s223, s225, s226, s228, s230, s231, s233, s234, s235, s237, s239, s240, s242, s243, s245, s247, s249, s250, s251, s252, s253, s255, s256, s257, s258, s259, s260, s261, s262, s264, s265, s266, s267, s269, s271, s273, s275, s276, s277, s278, s279, s280, s281, s282, s283, s286, s287, s289, s296, s298, s299, s301, trivial⟩ tk0
def p1 : List PA := [.c (s [])]
def r1 : List RA := [.a [.c e, .c e], .c (.c (i 0))]
theorem g1 : vcall (VN tb1) rounds 6 14 p1 = some r1 := by kernel_rfl
theorem s1 : Spec Go.Proofs.Tryz.prog 14 p1 r1 := fact tk1 g1
def p6 : List PA := [.a [(y 3), (i 0), (i 0), (i 0), (i 0), (i 0), (i 0), (i 5), (i 2), (i 0)]]
def r6 : List RA := [.c (.c (s [114, 111, 119, 32, 48, 32, 48, 32, 53, 32, 50, 32, 48])), .c (.c (i 0))]
theorem g6 : vcall (VN tb1) rounds 6 18 p6 = some r6 := by kernel_rfl
theorem s6 : Spec Go.Proofs.Tryz.prog 18 p6 r6 := fact tk1 g6
def p8 : List PA := [.a [(y 4), (i (-9223372036854775808)), (i (-1099511627776)), (i 7), (i 0), (i 0), (i 0), (i 0), (i 0), (i 0)]]
def r8 : List RA := [.c (.c (s [108, 97, 116, 101, 32, 45, 57, 50, 50, 51, 51, 55, 50, 48, 51, 54, 56, 53, 52, 55, 55, 53, 56, 48, 56, 32, 45, 49, 48, 57, 57, 53, 49, 49, 54, 50, 55, 55, 55, 54, 32, 55])), .c (.c (i 0))]
theorem g8 : vcall (VN tb1) rounds 6 18 p8 = some r8 := by kernel_rfl
theorem s8 : Spec Go.Proofs.Tryz.prog 18 p8 r8 := fact tk1 g8
def p12 : List PA := [.c (s [114, 111, 119, 32, 48, 32, 48, 32, 53, 32, 50, 32, 48]), .c (s [32])]
def r12 : List RA := [.c (.c m0)]
theorem g12 : vcall (VN tb1) rounds 6 66 p12 = some r12 := by kernel_rfl
theorem s12 : Spec Go.Proofs.Tryz.prog 66 p12 r12 := fact tk1 g12
def p17 : List PA := [.c (s [108, 97, 116, 101, 32, 45, 57, 50, 50, 51, 51, 55, 50, 48, 51, 54, 56, 53, 52, 55, 55, 53, 56, 48, 56, 32, 45, 49, 48, 57, 57, 53, 49, 49, 54, 50, 55, 55, 55, 54, 32, 55]), .c (s [32])]
def r17 : List RA := [.c (.c m1)]
theorem g17 : vcall (VN tb1) rounds 6 66 p17 = some r17 := by kernel_rfl
theorem s17 : Spec Go.Proofs.Tryz.prog 66 p17 r17 := fact tk1 g17
def p24 : List PA := [.c e]
def r24 : List RA := [.c (.c (s [])), .c (.c (i 0))]
theorem g24 : vcall (VN tb1) rounds 6 10 p24 = some r24 := by kernel_rfl
theorem s24 : Spec Go.Proofs.Tryz.prog 10 p24 r24 := fact tk1 g24
def p29 : List PA := [.c (l [[(i 19), (i 3)]])]
def r29 : List RA := [.c (.c (s [49, 57, 46, 51])), .c (.c (i 0))]
theorem g29 : vcall (VN tb1) rounds 6 10 p29 = some r29 := by kernel_rfl
theorem s29 : Spec Go.Proofs.Tryz.prog 10 p29 r29 := fact tk1 g29
def p31 : List PA := [.c (s [49, 57, 46, 51])]
def r31 : List RA := [.c (.c (l [[(i 19), (i 3)]])), .c (.c (i 0))]
theorem g31 : vcall (VN tb1) rounds 6 16 p31 = some r31 := by kernel_rfl
theorem s31 : Spec Go.Proofs.Tryz.prog 16 p31 r31 := fact tk1 g31
def p36 : List PA := [.c (l [[(i 19), (i (-1))], [(i 0), (i 0)]])]
def r36 : List RA := [.c (.c (s [49, 57, 32, 48, 46, 48])), .c (.c (i 0))]
theorem g36 : vcall (VN tb1) rounds 6 10 p36 = some r36 := by kernel_rfl
theorem s36 : Spec Go.Proofs.Tryz.prog 10 p36 r36 := fact tk1 g36
def p39 : List PA := [.c (s [49, 57, 32, 48, 46, 48])]
def r39 : List RA := [.c (.c (l [[(i 19), (i (-1))], [(i 0), (i 0)]])), .c (.c (i 0))]
theorem g39 : vcall (VN tb1) rounds 6 16 p39 = some r39 := by kernel_rfl
theorem s39 : Spec Go.Proofs.Tryz.prog 16 p39 r39 := fact tk1 g39
def p47 : List PA := [.c (s []), .c (s [32])]
def r47 : List RA := [.c (.c (l [[(s [])]]))]
theorem g47 : vcall (VN tb1) rounds 6 66 p47 = some r47 := by kernel_rfl
theorem s47 : Spec Go.Proofs.Tryz.prog 66 p47 r47 := fact tk1 g47
def p54 : List PA := [.c (s [114, 111, 119, 32, 48, 32, 48, 32, 53, 32, 50]), .c (s [32])]
def r54 : List RA := [.c (.c m4)]
theorem g54 : vcall (VN tb1) rounds 6 66 p54 = some r54 := by kernel_rfl
theorem s54 : Spec Go.Proofs.Tryz.prog 66 p54 r54 := fact tk1 g54
def p61 : List PA := [.c (s [114, 111, 119, 32, 48, 32, 53, 32, 53, 32, 50, 32, 48]), .c (s [32])]
def r61 : List RA := [.c (.c m5)]
theorem g61 : vcall (VN tb1) rounds 6 66 p61 = some r61 := by kernel_rfl
theorem s61 : Spec Go.Proofs.Tryz.prog 66 p61 r61 := fact tk1 g61
def p69 : List PA := [.c (s [108, 97, 116, 101, 32, 49, 32, 50, 32, 51]), .c (s [32])]
def r69 : List RA := [.c (.c (l [[(s [108, 97, 116, 101])], [(s [49])], [(s [50])], [(s [51])]]))]
theorem g69 : vcall (VN tb1) rounds 6 66 p69 = some r69 := by kernel_rfl
theorem s69 : Spec Go.Proofs.Tryz.prog 66 p69 r69 := fact tk1 g69
def p73 : List PA := [.a [(y 4), (i 1), (i 2), (i 3), (i 0), (i 0), (i 0), (i 0), (i 0), (i 0)]]
def r73 : List RA := [.c (.c (s [108, 97, 116, 101, 32, 49, 32, 50, 32, 51])), .c (.c (i 0))]
theorem g73 : vcall (VN tb1) rounds 6 18 p73 = some r73 := by kernel_rfl
theorem s73 : Spec Go.Proofs.Tryz.prog 18 p73 r73 := fact tk1 g73
def p79 : List PA := [.c (s [114, 101, 99, 111, 114, 100, 32, 49, 32, 50, 32, 51]), .c (s [32])]
def r79 : List RA := [.c (.c m6)]
theorem g79 : vcall (VN tb1) rounds 6 66 p79 = some r79 := by kernel_rfl
theorem s79 : Spec Go.Proofs.Tryz.prog 66 p79 r79 := fact tk1 g79
def p86 : List PA := [.c (s [109, 97, 114, 107, 32, 52]), .c (s [32])]
def r86 : List RA := [.c (.c (l [[(s [109, 97, 114, 107])], [(s [52])]]))]
theorem g86 : vcall (VN tb1) rounds 6 66 p86 = some r86 := by kernel_rfl
theorem s86 : Spec Go.Proofs.Tryz.prog 66 p86 r86 := fact tk1 g86
def p96 : List PA := [.c (s [114, 111, 119, 32, 48, 32, 48, 32, 48, 53, 32, 50, 32, 48]), .c (s [32])]
def r96 : List RA := [.c (.c m7)]
theorem g96 : vcall (VN tb1) rounds 6 66 p96 = some r96 := by kernel_rfl
theorem s96 : Spec Go.Proofs.Tryz.prog 66 p96 r96 := fact tk1 g96
def p103 : List PA := [.c (s [108, 97, 116, 101, 32, 48, 32, 49, 48, 57, 57, 53, 49, 49, 54, 50, 55, 55, 55, 55, 32, 48]), .c (s [32])]
def r103 : List RA := [.c (.c m8)]
theorem g103 : vcall (VN tb1) rounds 6 66 p103 = some r103 := by kernel_rfl
theorem s103 : Spec Go.Proofs.Tryz.prog 66 p103 r103 := fact tk1 g103
def p111 : List PA := [.c (s [114, 111, 119, 32, 48, 32, 48, 32, 53, 32, 50, 32, 48, 32]), .c (s [32])]
def r111 : List RA := [.c (.c m9)]
theorem g111 : vcall (VN tb1) rounds 6 66 p111 = some r111 := by kernel_rfl
theorem s111 : Spec Go.Proofs.Tryz.prog 66 p111 r111 := fact tk1 g111
def p117 : List PA := [.c (s [32])]
def r117 : List RA := [.c (.c e), .c (.c (i 12))]
theorem g117 : vcall (VN tb1) rounds 6 16 p117 = some r117 := by kernel_rfl
theorem s117 : Spec Go.Proofs.Tryz.prog 16 p117 r117 := fact tk1 g117
def p121 : List PA := [.c (s [48, 32])]
def r121 : List RA := [.c (.c e), .c (.c (i 12))]
theorem g121 : vcall (VN tb1) rounds 6 16 p121 = some r121 := by kernel_rfl
theorem s121 : Spec Go.Proofs.Tryz.prog 16 p121 r121 := fact tk1 g121
def p123 : List PA := [.c (s [32, 48])]
def r123 : List RA := [.c (.c e), .c (.c (i 12))]
theorem g123 : vcall (VN tb1) rounds 6 16 p123 = some r123 := by kernel_rfl
theorem s123 : Spec Go.Proofs.Tryz.prog 16 p123 r123 := fact tk1 g123
def p125 : List PA := [.c (s [48, 32, 32, 49])]
def r125 : List RA := [.c (.c e), .c (.c (i 12))]
theorem g125 : vcall (VN tb1) rounds 6 16 p125 = some r125 := by kernel_rfl
theorem s125 : Spec Go.Proofs.Tryz.prog 16 p125 r125 := fact tk1 g125
def p130 : List PA := [.c (s [50, 48])]
def r130 : List RA := [.c (.c e), .c (.c (i 12))]
theorem g130 : vcall (VN tb1) rounds 6 16 p130 = some r130 := by kernel_rfl
theorem s130 : Spec Go.Proofs.Tryz.prog 16 p130 r130 := fact tk1 g130
def p135 : List PA := [.c (s [48, 46, 52])]
def r135 : List RA := [.c (.c e), .c (.c (i 12))]
theorem g135 : vcall (VN tb1) rounds 6 16 p135 = some r135 := by kernel_rfl
theorem s135 : Spec Go.Proofs.Tryz.prog 16 p135 r135 := fact tk1 g135
def p138 : List PA := [.c (s [48, 48])]
def r138 : List RA := [.c (.c e), .c (.c (i 12))]
theorem g138 : vcall (VN tb1) rounds 6 16 p138 = some r138 := by kernel_rfl
theorem s138 : Spec Go.Proofs.Tryz.prog 16 p138 r138 := fact tk1 g138
def p141 : List PA := [.c (s [48, 46])]
def r141 : List RA := [.c (.c e), .c (.c (i 12))]
theorem g141 : vcall (VN tb1) rounds 6 16 p141 = some r141 := by kernel_rfl
theorem s141 : Spec Go.Proofs.Tryz.prog 16 p141 r141 := fact tk1 g141
def p144 : List PA := [.c (s [46, 48])]
def r144 : List RA := [.c (.c e), .c (.c (i 12))]
theorem g144 : vcall (VN tb1) rounds 6 16 p144 = some r144 := by kernel_rfl
theorem s144 : Spec Go.Proofs.Tryz.prog 16 p144 r144 := fact tk1 g144
def p147 : List PA := [.c (s [48, 46, 49, 46, 50])]
def r147 : List RA := [.c (.c e), .c (.c (i 12))]
theorem g147 : vcall (VN tb1) rounds 6 16 p147 = some r147 := by kernel_rfl
theorem s147 : Spec Go.Proofs.Tryz.prog 16 p147 r147 := fact tk1 g147
def p152 : List PA := [.c (s [45, 49])]
def r152 : List RA := [.c (.c e), .c (.c (i 12))]
theorem g152 : vcall (VN tb1) rounds 6 16 p152 = some r152 := by kernel_rfl
theorem s152 : Spec Go.Proofs.Tryz.prog 16 p152 r152 := fact tk1 g152
def p155 : List PA := [.c (s [48, 46, 45, 49])]
def r155 : List RA := [.c (.c e), .c (.c (i 12))]
theorem g155 : vcall (VN tb1) rounds 6 16 p155 = some r155 := by kernel_rfl
theorem s155 : Spec Go.Proofs.Tryz.prog 16 p155 r155 := fact tk1 g155
def p158 : List PA := [.c (s [97])]
def r158 : List RA := [.c (.c e), .c (.c (i 12))]
theorem g158 : vcall (VN tb1) rounds 6 16 p158 = some r158 := by kernel_rfl
theorem s158 : Spec Go.Proofs.Tryz.prog 16 p158 r158 := fact tk1 g158
def p161 : List PA := [.c (s [48, 44, 49])]
def r161 : List RA := [.c (.c e), .c (.c (i 12))]
theorem g161 : vcall (VN tb1) rounds 6 16 p161 = some r161 := by kernel_rfl
theorem s161 : Spec Go.Proofs.Tryz.prog 16 p161 r161 := fact tk1 g161
def p166 : List PA := [.c (s [49, 48, 48])]
def r166 : List RA := [.c (.c e), .c (.c (i 12))]
theorem g166 : vcall (VN tb1) rounds 6 16 p166 = some r166 := by kernel_rfl
theorem s166 : Spec Go.Proofs.Tryz.prog 16 p166 r166 := fact tk1 g166
def p171 : List PA := [.a [(y 3), (i 0), (i 0), (i 0), (i 0), (i 0), (i 0), (i 0), (i 0), (i 0)]]
def r171 : List RA := [.c (.c (s [])), .c (.c (i 8))]
theorem g171 : vcall (VN tb1) rounds 6 18 p171 = some r171 := by kernel_rfl
theorem s171 : Spec Go.Proofs.Tryz.prog 18 p171 r171 := fact tk1 g171
def p174 : List PA := [.a [(y 4), (i 0), (i 2199023255552), (i 0), (i 0), (i 0), (i 0), (i 0), (i 0), (i 0)]]
def r174 : List RA := [.c (.c (s [])), .c (.c (i 8))]
theorem g174 : vcall (VN tb1) rounds 6 18 p174 = some r174 := by kernel_rfl
theorem s174 : Spec Go.Proofs.Tryz.prog 18 p174 r174 := fact tk1 g174
def p177 : List PA := [.c m12]
def r177 : List RA := [.c (.c (s [])), .c (.c (i 4))]
theorem g177 : vcall (VN tb1) rounds 6 10 p177 = some r177 := by kernel_rfl
theorem s177 : Spec Go.Proofs.Tryz.prog 10 p177 r177 := fact tk1 g177
def p179 : List PA := [.c (l [[(i 20), (i 0)]])]
def r179 : List RA := [.c (.c (s [])), .c (.c (i 2))]
theorem g179 : vcall (VN tb1) rounds 6 10 p179 = some r179 := by kernel_rfl
theorem s179 : Spec Go.Proofs.Tryz.prog 10 p179 r179 := fact tk1 g179
def p181 : List PA := [.a [m13, e]]
def r181 : List RA := [.c (.c (s [])), .c (.c (i 4))]
theorem g181 : vcall (VN tb1) rounds 6 11 p181 = some r181 := by kernel_rfl
theorem s181 : Spec Go.Proofs.Tryz.prog 11 p181 r181 := fact tk1 g181
def p184 : List PA := [.a [(l [[(y 1), (i 0)]]), e]]
def r184 : List RA := [.c (.c bf)]
theorem g184 : vcall (VN tb1) rounds 6 43 p184 = some r184 := by kernel_rfl
theorem s184 : Spec Go.Proofs.Tryz.prog 43 p184 r184 := fact tk1 g184
def p193 : List PA := [.c (s [115, 101, 108, 101, 99, 116, 32, 115, 117, 109, 40, 118, 41, 32, 102, 114, 111, 109, 32, 98, 32, 106, 111, 105, 110, 32, 100, 32, 119, 105, 110, 100, 111, 119, 32, 116, 117, 109, 98, 108, 101, 32, 53, 32, 98, 121, 32, 107, 101, 121, 32, 108, 97, 116, 101, 32, 115, 105, 100, 101])]
def r193 : List RA := [.a [.c (y 2), .c (s [115, 101, 108, 101, 99, 116]), .c (i 0)]]
theorem g193 : vcall (VN tb1) rounds 6 117 p193 = some r193 := by kernel_rfl
theorem s193 : Spec Go.Proofs.Tryz.prog 117 p193 r193 := fact tk1 g193
def p198 : List PA := [.c (s [115, 117, 109, 40, 118, 41, 32, 102, 114, 111, 109, 32, 98, 32, 106, 111, 105, 110, 32, 100, 32, 119, 105, 110, 100, 111, 119, 32, 116, 117, 109, 98, 108, 101, 32, 53, 32, 98, 121, 32, 107, 101, 121, 32, 108, 97, 116, 101, 32, 115, 105, 100, 101])]
def r198 : List RA := [.a [.c (y 2), .c (s [115, 117, 109]), .c (i 0)]]
theorem g198 : vcall (VN tb1) rounds 6 117 p198 = some r198 := by kernel_rfl
theorem s198 : Spec Go.Proofs.Tryz.prog 117 p198 r198 := fact tk1 g198
def p200 : List PA := [.c (s [40, 118, 41, 32, 102, 114, 111, 109, 32, 98, 32, 106, 111, 105, 110, 32, 100, 32, 119, 105, 110, 100, 111, 119, 32, 116, 117, 109, 98, 108, 101, 32, 53, 32, 98, 121, 32, 107, 101, 121, 32, 108, 97, 116, 101, 32, 115, 105, 100, 101]), .c (i 0)]
def r200 : List RA := [.c (.c (i 1)), .c (.c (i 0))]
theorem g200 : vcall (VN tb1) rounds 6 152 p200 = some r200 := by kernel_rfl
theorem s200 : Spec Go.Proofs.Tryz.prog 152 p200 r200 := fact tk1 g200
def p202 : List PA := [.c (s [40]), .c (i 0)]
def r202 : List RA := [.c (.c (i 1)), .c (.c (i 0))]
theorem g202 : vcall (VN tb1) rounds 6 152 p202 = some r202 := by kernel_rfl
theorem s202 : Spec Go.Proofs.Tryz.prog 152 p202 r202 := fact tk1 g202
def p205 : List PA := [.c (s [118, 41, 32, 102, 114, 111, 109, 32, 98, 32, 106, 111, 105, 110, 32, 100, 32, 119, 105, 110, 100, 111, 119, 32, 116, 117, 109, 98, 108, 101, 32, 53, 32, 98, 121, 32, 107, 101, 121, 32, 108, 97, 116, 101, 32, 115, 105, 100, 101])]
def r205 : List RA := [.a [.c (y 2), .c (s [118]), .c (i 0)]]
theorem g205 : vcall (VN tb1) rounds 6 117 p205 = some r205 := by kernel_rfl
theorem s205 : Spec Go.Proofs.Tryz.prog 117 p205 r205 := fact tk1 g205
def p207 : List PA := [.c (s [41, 32, 102, 114, 111, 109, 32, 98, 32, 106, 111, 105, 110, 32, 100, 32, 119, 105, 110, 100, 111, 119, 32, 116, 117, 109, 98, 108, 101, 32, 53, 32, 98, 121, 32, 107, 101, 121, 32, 108, 97, 116, 101, 32, 115, 105, 100, 101]), .c (i 0)]
def r207 : List RA := [.c (.c (i 1)), .c (.c (i 0))]
theorem g207 : vcall (VN tb1) rounds 6 152 p207 = some r207 := by kernel_rfl
theorem s207 : Spec Go.Proofs.Tryz.prog 152 p207 r207 := fact tk1 g207
def p209 : List PA := [.c (s [41]), .c (i 0)]
def r209 : List RA := [.c (.c (i 1)), .c (.c (i 0))]
theorem g209 : vcall (VN tb1) rounds 6 152 p209 = some r209 := by kernel_rfl
theorem s209 : Spec Go.Proofs.Tryz.prog 152 p209 r209 := fact tk1 g209
def p213 : List PA := [.c (s [102, 114, 111, 109, 32, 98, 32, 106, 111, 105, 110, 32, 100, 32, 119, 105, 110, 100, 111, 119, 32, 116, 117, 109, 98, 108, 101, 32, 53, 32, 98, 121, 32, 107, 101, 121, 32, 108, 97, 116, 101, 32, 115, 105, 100, 101])]
def r213 : List RA := [.a [.c (y 2), .c (s [102, 114, 111, 109]), .c (i 0)]]
theorem g213 : vcall (VN tb1) rounds 6 117 p213 = some r213 := by kernel_rfl
theorem s213 : Spec Go.Proofs.Tryz.prog 117 p213 r213 := fact tk1 g213
def p216 : List PA := [.c (s [98, 32, 106, 111, 105, 110, 32, 100, 32, 119, 105, 110, 100, 111, 119, 32, 116, 117, 109, 98, 108, 101, 32, 53, 32, 98, 121, 32, 107, 101, 121, 32, 108, 97, 116, 101, 32, 115, 105, 100, 101])]
def r216 : List RA := [.a [.c (y 2), .c (s [98]), .c (i 0)]]
theorem g216 : vcall (VN tb1) rounds 6 117 p216 = some r216 := by kernel_rfl
theorem s216 : Spec Go.Proofs.Tryz.prog 117 p216 r216 := fact tk1 g216
def p221 : List PA := [.c (s [106, 111, 105, 110, 32, 100, 32, 119, 105, 110, 100, 111, 119, 32, 116, 117, 109, 98, 108, 101, 32, 53, 32, 98, 121, 32, 107, 101, 121, 32, 108, 97, 116, 101, 32, 115, 105, 100, 101])]
def r221 : List RA := [.a [.c (y 2), .c (s [106, 111, 105, 110]), .c (i 0)]]
theorem g221 : vcall (VN tb1) rounds 6 117 p221 = some r221 := by kernel_rfl
theorem s221 : Spec Go.Proofs.Tryz.prog 117 p221 r221 := fact tk1 g221
def p224 : List PA := [.c (s [100, 32, 119, 105, 110, 100, 111, 119, 32, 116, 117, 109, 98, 108, 101, 32, 53, 32, 98, 121, 32, 107, 101, 121, 32, 108, 97, 116, 101, 32, 115, 105, 100, 101])]
def r224 : List RA := [.a [.c (y 2), .c (s [100]), .c (i 0)]]
theorem g224 : vcall (VN tb1) rounds 6 117 p224 = some r224 := by kernel_rfl
theorem s224 : Spec Go.Proofs.Tryz.prog 117 p224 r224 := fact tk1 g224
def p227 : List PA := [.c (s [119, 105, 110, 100, 111, 119, 32, 116, 117, 109, 98, 108, 101, 32, 53, 32, 98, 121, 32, 107, 101, 121, 32, 108, 97, 116, 101, 32, 115, 105, 100, 101])]
def r227 : List RA := [.a [.c (y 2), .c (s [119, 105, 110, 100, 111, 119]), .c (i 0)]]
theorem g227 : vcall (VN tb1) rounds 6 117 p227 = some r227 := by kernel_rfl
theorem s227 : Spec Go.Proofs.Tryz.prog 117 p227 r227 := fact tk1 g227
def p229 : List PA := [.c (s [116, 117, 109, 98, 108, 101, 32, 53, 32, 98, 121, 32, 107, 101, 121, 32, 108, 97, 116, 101, 32, 115, 105, 100, 101])]
def r229 : List RA := [.a [.c (y 2), .c (s [116, 117, 109, 98, 108, 101]), .c (i 0)]]
theorem g229 : vcall (VN tb1) rounds 6 117 p229 = some r229 := by kernel_rfl
theorem s229 : Spec Go.Proofs.Tryz.prog 117 p229 r229 := fact tk1 g229
def p232 : List PA := [.c (s [53, 32, 98, 121, 32, 107, 101, 121, 32, 108, 97, 116, 101, 32, 115, 105, 100, 101])]
def r232 : List RA := [.a [.c (y 1), .c (s [53]), .c (i 0)]]
theorem g232 : vcall (VN tb1) rounds 6 117 p232 = some r232 := by kernel_rfl
theorem s232 : Spec Go.Proofs.Tryz.prog 117 p232 r232 := fact tk1 g232
def p236 : List PA := [.c (s [53]), .c (s [48, 49, 50, 51, 52, 53, 54, 55, 56, 57])]
def r236 : List RA := [.c (.c (s []))]
theorem g236 : vcall (VN tb1) rounds 6 182 p236 = some r236 := by kernel_rfl
theorem s236 : Spec Go.Proofs.Tryz.prog 182 p236 r236 := fact tk1 g236
def p238 : List PA := [.c (s [98, 121, 32, 107, 101, 121, 32, 108, 97, 116, 101, 32, 115, 105, 100, 101])]
def r238 : List RA := [.a [.c (y 2), .c (s [98, 121]), .c (i 0)]]
theorem g238 : vcall (VN tb1) rounds 6 117 p238 = some r238 := by kernel_rfl
theorem s238 : Spec Go.Proofs.Tryz.prog 117 p238 r238 := fact tk1 g238
def p241 : List PA := [.c (s [107, 101, 121, 32, 108, 97, 116, 101, 32, 115, 105, 100, 101])]
def r241 : List RA := [.a [.c (y 2), .c (s [107, 101, 121]), .c (i 0)]]
theorem g241 : vcall (VN tb1) rounds 6 117 p241 = some r241 := by kernel_rfl
theorem s241 : Spec Go.Proofs.Tryz.prog 117 p241 r241 := fact tk1 g241
def p244 : List PA := [.c (s [108, 97, 116, 101, 32, 115, 105, 100, 101])]
def r244 : List RA := [.a [.c (y 2), .c (s [108, 97, 116, 101]), .c (i 0)]]
theorem g244 : vcall (VN tb1) rounds 6 117 p244 = some r244 := by kernel_rfl
theorem s244 : Spec Go.Proofs.Tryz.prog 117 p244 r244 := fact tk1 g244
def p246 : List PA := [.c (s [115, 105, 100, 101])]
def r246 : List RA := [.a [.c (y 2), .c (s [115, 105, 100, 101]), .c (i 0)]]
theorem g246 : vcall (VN tb1) rounds 6 117 p246 = some r246 := by kernel_rfl
theorem s246 : Spec Go.Proofs.Tryz.prog 117 p246 r246 := fact tk1 g246
def p272 : List PA := [.a [(y 2), m14, (l [[(i 1)], [(i 3)]]), bt, e, (y 1), (i 5), (i 0), bt, (y 2)]]
def r272 : List RA := [.a [.c m15, .c (y 2), .c m14, .c (l [[(i 1)], [(i 3)]]), .c bt, .c e, .c (y 1), .c (i 5), .c (i 0), .c bt, .c (y 2)], .c (.c (i 0))]
theorem g272 : vcall (VN tb1) rounds 6 49 p272 = some r272 := by kernel_rfl
theorem s272 : Spec Go.Proofs.Tryz.prog 49 p272 r272 := fact tk1 g272
def m17 : PV := l [[(y 1), (i 0)], [(y 1), (i 1)], [(y 2), (i 0)], [(y 2), (i 1)], [(y 3), (i 0)], [(y 3), (i 1)], [(y 5), (i 0)], [(y 6), (i 0)], [(y 7), (i 0)]]
def m18 : PV := l [[(i 0), (i 0), (i 2), (i 0), (i 8)], [(i 1), (i 0), (i 3), (i 0), (i 8)], [(i 2), (i 0), (i 4), (i 0), (i 8)], [(i 2), (i 1), (i 8), (i 0), (i 8)], [(i 3), (i 0), (i 5), (i 0), (i 8)], [(i 3), (i 1), (i 8), (i 1), (i 8)], [(i 4), (i 0), (i 6), (i 0), (i 8)], [(i 5), (i 0), (i 6), (i 1), (i 8)], [(i 6), (i 0), (i 7), (i 0), (i 8)]]
def p274 : List PA := [.a [m15, (y 2), m14, (l [[(i 1)], [(i 3)]]), bt, e, (y 1), (i 5), (i 0), bt, (y 2)], .c (i 1), .c (i 8)]
def r274 : List RA := [.a [.c m17, .c m18], .c (.c (i 0))]
theorem g274 : vcall (VN tb1) rounds 6 50 p274 = some r274 := by kernel_rfl
theorem s274 : Spec Go.Proofs.Tryz.prog 50 p274 r274 := fact tk1 g274
def p288 : List PA := [.c (l [[(i 0)], [(i 1)]]), .a [(i 1), (i 2)]]
def r288 : List RA := [.c (.c bt)]
theorem g288 : vcall (VN tb1) rounds 6 80 p288 = some r288 := by kernel_rfl
theorem s288 : Spec Go.Proofs.Tryz.prog 80 p288 r288 := fact tk1 g288
def p290 : List PA := [.c (l [[(i 0)], [(i 1)]]), .a [(i 2), (i 2)]]
def r290 : List RA := [.c (.c bt)]
theorem g290 : vcall (VN tb1) rounds 6 80 p290 = some r290 := by kernel_rfl
theorem s290 : Spec Go.Proofs.Tryz.prog 80 p290 r290 := fact tk1 g290
def p291 : List PA := [.c (l [[(i 0)], [(i 1)]]), .a [(i 1), (i 4)]]
def r291 : List RA := [.c (.c bt)]
theorem g291 : vcall (VN tb1) rounds 6 80 p291 = some r291 := by kernel_rfl
theorem s291 : Spec Go.Proofs.Tryz.prog 80 p291 r291 := fact tk1 g291
def p300 : List PA := [.c (l [[(i 0), (i (-1))], [(i 3), (i 1)]])]
def r300 : List RA := [.c (.c (s [48, 32, 51, 46, 49])), .c (.c (i 0))]
theorem g300 : vcall (VN tb1) rounds 6 10 p300 = some r300 := by kernel_rfl
theorem s300 : Spec Go.Proofs.Tryz.prog 10 p300 r300 := fact tk1 g300
def p302 : List PA := [.c (s [48, 32, 51, 46, 49])]
def r302 : List RA := [.c (.c (l [[(i 0), (i (-1))], [(i 3), (i 1)]])), .c (.c (i 0))]
theorem g302 : vcall (VN tb1) rounds 6 16 p302 = some r302 := by kernel_rfl
theorem s302 : Spec Go.Proofs.Tryz.prog 16 p302 r302 := fact tk1 g302
def tb2 : List (FuncId × List PA × List RA) := [(14, p1, r1), (18, p6, r6), (18, p8, r8), (66, p12, r12), (66, p17, r17), (10, p24, r24), (10, p29, r29), (16, p31, r31), (10, p36, r36), (16, p39, r39), (66, p47, r47), (66, p54, r54), (66, p61, r61), (66, p69, r69), (18, p73, r73), (66, p79, r79), (66, p86, r86), (66, p96, r96), (66, p103, r103), (66, p111, r111), (16, p117, r117), (16, p121, r121), (16, p123, r123), (16, p125, r125), (16, p130, r130), (16, p135, r135), (16, p138, r138), (16, p141, r141), (16, p144, r144), (16, p147, r147), (16, p152, r152), (16, p155, r155), (16, p158, r158), (16, p161, r161), (16, p166, r166), (18, p171, r171), (18, p174, r174), (10, p177, r177), (10, p179, r179), (11, p181, r181), (43, p184, r184), (117, p193, r193), (117, p198, r198), (152, p200, r200), (152, p202, r202), (117, p205, r205), (152, p207, r207), (152, p209, r209), (117, p213, r213), (117, p216, r216), (117, p221, r221), (117, p224, r224), (117, p227, r227), (117, p229, r229), (117, p232, r232), (182, p236, r236), (117, p238, r238), (117, p241, r241), (117, p244, r244), (117, p246, r246), (49, p272, r272), (50, p274, r274), (80, p288, r288), (80, p290, r290), (80, p291, r291), (10, p300, r300), (16, p302, r302)] ++ tb1
theorem tk2 : TOK Go.Proofs.Tryz.prog tb2 := TOK.app (l := [(14, p1, r1), (18, p6, r6), (18, p8, r8), (66, p12, r12), (66, p17, r17), (10, p24, r24), (10, p29, r29), (16, p31, r31), (10, p36, r36), (16, p39, r39), (66, p47, r47), (66, p54, r54), (66, p61, r61), (66, p69, r69), (18, p73, r73), (66, p79, r79), (66, p86, r86), (66, p96, r96), (66, p103, r103), (66, p111, r111), (16, p117, r117), (16, p121, r121), (16, p123, r123), (16, p125, r125), (16, p130, r130), (16, p135, r135), (16, p138, r138), (16, p141, r141), (16, p144, r144), (16, p147, r147), (16, p152, r152), (16, p155, r155), (16, p158, r158), (16, p161, r161), (16, p166, r166), (18, p171, r171), (18, p174, r174), (10, p177, r177), (10, p179, r179), (11, p181, r181), (43, p184, r184), (117, p193, r193), (117, p198, r198), (152, p200, r200), (152, p202, r202), (117, p205, r205), (152, p207, r207), (152, p209, r209), (117, p213, r213), (117, p216, r216), (117, p221, r221), (117, p224, r224), (117, p227, r227), (117, p229, r229), (117, p232, r232), (182, p236, r236), (117, p238, r238), (117, p241, r241), (117, p244, r244), (117, p246, r246), (49, p272, r272), (50, p274, r274), (80, p288, r288), (80, p290, r290), (80, p291, r291), (10, p300, r300), (16, p302, r302)]) ⟨s1, s6, s8, s12, s17, s24, s29, s31, s36, s39, s47, s54, s61, s69, s73, s79, s86, s96, s103, s111, s117, s121, s123, s125, s130, s135, s138, s141, s144, s147, s152, s155, s158, s161, s166, s171, s174, s177, s179, s181, s184, s193, s198, s200, s202, s205, s207, s209, s213, s216, s221, s224, s227, s229, s232, s236, s238, s241, s244, s246, s272, s274, s288, s290, s291, s300, s302, trivial⟩ tk1
def p3 : List PA := [.a [e, e], .c (s [])]
def r3 : List RA := [.c (.c bt)]
theorem g3 : vcall (VN tb2) rounds 6 4 p3 = some r3 := by kernel_rfl
theorem s3 : Spec Go.Proofs.Tryz.prog 4 p3 r3 := fact tk2 g3
def p9 : List PA := [.a [m2, m3]]
def r9 : List RA := [.c (.c (s [114, 111, 119, 32, 48, 32, 48, 32, 53, 32, 50, 32, 48, 10, 114, 111, 119, 32, 48, 32, 48, 32, 53, 32, 50, 32, 48, 10, 108, 97, 116, 101, 32, 45, 57, 50, 50, 51, 51, 55, 50, 48, 51, 54, 56, 53, 52, 55, 55, 53, 56, 48, 56, 32, 45, 49, 48, 57, 57, 53, 49, 49, 54, 50, 55, 55, 55, 54, 32, 55, 10])), .c (.c (i 0))]
theorem g9 : vcall (VN tb2) rounds 6 9 p9 = some r9 := by kernel_rfl
theorem s9 : Spec Go.Proofs.Tryz.prog 9 p9 r9 := fact tk2 g9
def p14 : List PA := [.c (s [114, 111, 119, 32, 48, 32, 48, 32, 53, 32, 50, 32, 48])]
def r14 : List RA := [.a [.c (y 3), .c (i 0), .c (i 0), .c (i 0), .c (i 0), .c (i 0), .c (i 0), .c (i 5), .c (i 2), .c (i 0)], .c (.c (i 0))]
theorem g14 : vcall (VN tb2) rounds 6 29 p14 = some r14 := by kernel_rfl
theorem s14 : Spec Go.Proofs.Tryz.prog 29 p14 r14 := fact tk2 g14
def p19 : List PA := [.c (s [108, 97, 116, 101, 32, 45, 57, 50, 50, 51, 51, 55, 50, 48, 51, 54, 56, 53, 52, 55, 55, 53, 56, 48, 56, 32, 45, 49, 48, 57, 57, 53, 49, 49, 54, 50, 55, 55, 55, 54, 32, 55])]
def r19 : List RA := [.a [.c (y 4), .c (i (-9223372036854775808)), .c (i (-1099511627776)), .c (i 7), .c (i 0), .c (i 0), .c (i 0), .c (i 0), .c (i 0), .c (i 0)], .c (.c (i 0))]
theorem g19 : vcall (VN tb2) rounds 6 29 p19 = some r19 := by kernel_rfl
theorem s19 : Spec Go.Proofs.Tryz.prog 29 p19 r19 := fact tk2 g19
def p26 : List PA := [.c e, .c (s [])]
def r26 : List RA := [.c (.c bt)]
theorem g26 : vcall (VN tb2) rounds 6 6 p26 = some r26 := by kernel_rfl
theorem s26 : Spec Go.Proofs.Tryz.prog 6 p26 r26 := fact tk2 g26
def p32 : List PA := [.c (l [[(i 19), (i 3)]]), .c (s [49, 57, 46, 51])]
def r32 : List RA := [.c (.c bt)]
theorem g32 : vcall (VN tb2) rounds 6 6 p32 = some r32 := by kernel_rfl
theorem s32 : Spec Go.Proofs.Tryz.prog 6 p32 r32 := fact tk2 g32
def p40 : List PA := [.c (l [[(i 19), (i (-1))], [(i 0), (i 0)]]), .c (s [49, 57, 32, 48, 46, 48])]
def r40 : List RA := [.c (.c bt)]
theorem g40 : vcall (VN tb2) rounds 6 6 p40 = some r40 := by kernel_rfl
theorem s40 : Spec Go.Proofs.Tryz.prog 6 p40 r40 := fact tk2 g40
def p42 : List PA := [.a [m16, e]]
def r42 : List RA := [.c (.c (s [114, 111, 119, 32, 48, 32, 48, 32, 53, 32, 50, 32, 48, 10])), .c (.c (i 0))]
theorem g42 : vcall (VN tb2) rounds 6 9 p42 = some r42 := by kernel_rfl
theorem s42 : Spec Go.Proofs.Tryz.prog 9 p42 r42 := fact tk2 g42
def p49 : List PA := [.c (s [])]
def r49 : List RA := [.a [.c (y 0), .c (i 0), .c (i 0), .c (i 0), .c (i 0), .c (i 0), .c (i 0), .c (i 0), .c (i 0), .c (i 0)], .c (.c (i 12))]
theorem g49 : vcall (VN tb2) rounds 6 29 p49 = some r49 := by kernel_rfl
theorem s49 : Spec Go.Proofs.Tryz.prog 29 p49 r49 := fact tk2 g49
def p56 : List PA := [.c (s [114, 111, 119, 32, 48, 32, 48, 32, 53, 32, 50])]
def r56 : List RA := [.a [.c (y 0), .c (i 0), .c (i 0), .c (i 0), .c (i 0), .c (i 0), .c (i 0), .c (i 0), .c (i 0), .c (i 0)], .c (.c (i 12))]
theorem g56 : vcall (VN tb2) rounds 6 29 p56 = some r56 := by kernel_rfl
theorem s56 : Spec Go.Proofs.Tryz.prog 29 p56 r56 := fact tk2 g56
def p64 : List PA := [.c (s [114, 111, 119, 32, 48, 32, 53, 32, 53, 32, 50, 32, 48])]
def r64 : List RA := [.a [.c (y 0), .c (i 0), .c (i 0), .c (i 0), .c (i 0), .c (i 0), .c (i 0), .c (i 0), .c (i 0), .c (i 0)], .c (.c (i 12))]
theorem g64 : vcall (VN tb2) rounds 6 29 p64 = some r64 := by kernel_rfl
theorem s64 : Spec Go.Proofs.Tryz.prog 29 p64 r64 := fact tk2 g64
def p72 : List PA := [.c (s [108, 97, 116, 101, 32, 49, 32, 50, 32, 51])]
def r72 : List RA := [.a [.c (y 4), .c (i 1), .c (i 2), .c (i 3), .c (i 0), .c (i 0), .c (i 0), .c (i 0), .c (i 0), .c (i 0)], .c (.c (i 0))]
theorem g72 : vcall (VN tb2) rounds 6 29 p72 = some r72 := by kernel_rfl
theorem s72 : Spec Go.Proofs.Tryz.prog 29 p72 r72 := fact tk2 g72
def p74 : List PA := [.a [m16, (l [[(i 1), (i 2), (i 3)]])]]
def r74 : List RA := [.c (.c (s [114, 111, 119, 32, 48, 32, 48, 32, 53, 32, 50, 32, 48, 10, 108, 97, 116, 101, 32, 49, 32, 50, 32, 51, 10])), .c (.c (i 0))]
theorem g74 : vcall (VN tb2) rounds 6 9 p74 = some r74 := by kernel_rfl
theorem s74 : Spec Go.Proofs.Tryz.prog 9 p74 r74 := fact tk2 g74
def p81 : List PA := [.c (s [114, 101, 99, 111, 114, 100, 32, 49, 32, 50, 32, 51])]
def r81 : List RA := [.a [.c (y 1), .c (i 1), .c (i 2), .c (i 3), .c (i 0), .c (i 0), .c (i 0), .c (i 0), .c (i 0), .c (i 0)], .c (.c (i 0))]
theorem g81 : vcall (VN tb2) rounds 6 29 p81 = some r81 := by kernel_rfl
theorem s81 : Spec Go.Proofs.Tryz.prog 29 p81 r81 := fact tk2 g81
def p89 : List PA := [.c (s [109, 97, 114, 107, 32, 52])]
def r89 : List RA := [.a [.c (y 2), .c (i 0), .c (i 0), .c (i 0), .c (i 4), .c (i 0), .c (i 0), .c (i 0), .c (i 0), .c (i 0)], .c (.c (i 0))]
theorem g89 : vcall (VN tb2) rounds 6 29 p89 = some r89 := by kernel_rfl
theorem s89 : Spec Go.Proofs.Tryz.prog 29 p89 r89 := fact tk2 g89
def p98 : List PA := [.c (s [114, 111, 119, 32, 48, 32, 48, 32, 48, 53, 32, 50, 32, 48])]
def r98 : List RA := [.a [.c (y 0), .c (i 0), .c (i 0), .c (i 0), .c (i 0), .c (i 0), .c (i 0), .c (i 0), .c (i 0), .c (i 0)], .c (.c (i 12))]
theorem g98 : vcall (VN tb2) rounds 6 29 p98 = some r98 := by kernel_rfl
theorem s98 : Spec Go.Proofs.Tryz.prog 29 p98 r98 := fact tk2 g98
def p106 : List PA := [.c (s [108, 97, 116, 101, 32, 48, 32, 49, 48, 57, 57, 53, 49, 49, 54, 50, 55, 55, 55, 55, 32, 48])]
def r106 : List RA := [.a [.c (y 0), .c (i 0), .c (i 0), .c (i 0), .c (i 0), .c (i 0), .c (i 0), .c (i 0), .c (i 0), .c (i 0)], .c (.c (i 12))]
theorem g106 : vcall (VN tb2) rounds 6 29 p106 = some r106 := by kernel_rfl
theorem s106 : Spec Go.Proofs.Tryz.prog 29 p106 r106 := fact tk2 g106
end Tn.Ln
