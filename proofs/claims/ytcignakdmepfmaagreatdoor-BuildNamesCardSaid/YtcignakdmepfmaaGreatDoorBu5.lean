import Derived.Test.YtcignakdmepfmaaGreatDoorBu4
/- Closed facts of one run, each by the kernel. -/
set_option linter.unusedVariables false
namespace Tn.Bu
open Go Go.Abs Tn
def p242 : List PA := [.c (s [40, 42, 41, 32, 102, 114, 111, 109, 32, 97, 32, 119, 105, 110, 100, 111, 119, 32, 116, 117, 109, 98, 108, 101, 32, 53]), .c (i 0)]
def r242 : List RA := [.c (.c (i 1)), .c (.c (i 0))]
theorem g242 : vcall (VN tb1) rounds 6 171 p242 = some r242 := by kernel_rfl
theorem s242 : Spec Go.Proofs.Tryz.prog 171 p242 r242 := fact tk1 g242
def p245 : List PA := [.c (s [42, 41, 32, 102, 114, 111, 109, 32, 97, 32, 119, 105, 110, 100, 111, 119, 32, 116, 117, 109, 98, 108, 101, 32, 53]), .c (i 0)]
def r245 : List RA := [.c (.c (i 1)), .c (.c (i 0))]
theorem g245 : vcall (VN tb1) rounds 6 171 p245 = some r245 := by kernel_rfl
theorem s245 : Spec Go.Proofs.Tryz.prog 171 p245 r245 := fact tk1 g245
def p247 : List PA := [.c (s [42]), .c (i 0)]
def r247 : List RA := [.c (.c (i 1)), .c (.c (i 0))]
theorem g247 : vcall (VN tb1) rounds 6 171 p247 = some r247 := by kernel_rfl
theorem s247 : Spec Go.Proofs.Tryz.prog 171 p247 r247 := fact tk1 g247
def p248 : List PA := [.c (s [41, 32, 102, 114, 111, 109, 32, 97, 32, 119, 105, 110, 100, 111, 119, 32, 116, 117, 109, 98, 108, 101, 32, 53]), .c (i 0)]
def r248 : List RA := [.c (.c (i 1)), .c (.c (i 0))]
theorem g248 : vcall (VN tb1) rounds 6 171 p248 = some r248 := by kernel_rfl
theorem s248 : Spec Go.Proofs.Tryz.prog 171 p248 r248 := fact tk1 g248
def p250 : List PA := [.c (s [102, 114, 111, 109, 32, 97, 32, 119, 105, 110, 100, 111, 119, 32, 116, 117, 109, 98, 108, 101, 32, 53])]
def r250 : List RA := [.a [.c (y 2), .c (s [102, 114, 111, 109]), .c (i 0)]]
theorem g250 : vcall (VN tb1) rounds 6 135 p250 = some r250 := by kernel_rfl
theorem s250 : Spec Go.Proofs.Tryz.prog 135 p250 r250 := fact tk1 g250
def p251 : List PA := [.c (s [97, 32, 119, 105, 110, 100, 111, 119, 32, 116, 117, 109, 98, 108, 101, 32, 53])]
def r251 : List RA := [.a [.c (y 2), .c (s [97]), .c (i 0)]]
theorem g251 : vcall (VN tb1) rounds 6 135 p251 = some r251 := by kernel_rfl
theorem s251 : Spec Go.Proofs.Tryz.prog 135 p251 r251 := fact tk1 g251
def p252 : List PA := [.c (s [119, 105, 110, 100, 111, 119, 32, 116, 117, 109, 98, 108, 101, 32, 53])]
def r252 : List RA := [.a [.c (y 2), .c (s [119, 105, 110, 100, 111, 119]), .c (i 0)]]
theorem g252 : vcall (VN tb1) rounds 6 135 p252 = some r252 := by kernel_rfl
theorem s252 : Spec Go.Proofs.Tryz.prog 135 p252 r252 := fact tk1 g252
def p253 : List PA := [.c (s [116, 117, 109, 98, 108, 101, 32, 53])]
def r253 : List RA := [.a [.c (y 2), .c (s [116, 117, 109, 98, 108, 101]), .c (i 0)]]
theorem g253 : vcall (VN tb1) rounds 6 135 p253 = some r253 := by kernel_rfl
theorem s253 : Spec Go.Proofs.Tryz.prog 135 p253 r253 := fact tk1 g253
def p254 : List PA := [.c (s [53])]
def r254 : List RA := [.a [.c (y 1), .c (s [53]), .c (i 0)]]
theorem g254 : vcall (VN tb1) rounds 6 135 p254 = some r254 := by kernel_rfl
theorem s254 : Spec Go.Proofs.Tryz.prog 135 p254 r254 := fact tk1 g254
def p263 : List PA := [.a [(y 1), e, (l [[(i 0)]]), bf, e, (y 1), (i 5), (i 0), bf, (y 1)], .c e, .c (i 1), .c (i 1)]
def r263 : List RA := [.a [.c (y 0), .c e, .c e, .c bf, .c e, .c (y 0), .c (i 0), .c (i 0), .c bf, .c (y 0), .c e, .c e, .c e, .c e], .c (.c (i 2))]
theorem g263 : vcall (VN tb1) rounds 6 9 p263 = some r263 := by kernel_rfl
theorem s263 : Spec Go.Proofs.Tryz.prog 9 p263 r263 := fact tk1 g263
def p265 : List PA := [.c (s [115, 101, 108, 101, 99, 116, 32, 99, 111, 117, 110, 116, 40, 42, 41, 32, 102, 114, 111, 109, 32, 97, 32, 102, 114, 111, 109])]
def r265 : List RA := [.a [.c (y 2), .c (s [115, 101, 108, 101, 99, 116]), .c (i 0)]]
theorem g265 : vcall (VN tb1) rounds 6 135 p265 = some r265 := by kernel_rfl
theorem s265 : Spec Go.Proofs.Tryz.prog 135 p265 r265 := fact tk1 g265
def p266 : List PA := [.c (s [99, 111, 117, 110, 116, 40, 42, 41, 32, 102, 114, 111, 109, 32, 97, 32, 102, 114, 111, 109])]
def r266 : List RA := [.a [.c (y 2), .c (s [99, 111, 117, 110, 116]), .c (i 0)]]
theorem g266 : vcall (VN tb1) rounds 6 135 p266 = some r266 := by kernel_rfl
theorem s266 : Spec Go.Proofs.Tryz.prog 135 p266 r266 := fact tk1 g266
def p267 : List PA := [.c (s [40, 42, 41, 32, 102, 114, 111, 109, 32, 97, 32, 102, 114, 111, 109]), .c (i 0)]
def r267 : List RA := [.c (.c (i 1)), .c (.c (i 0))]
theorem g267 : vcall (VN tb1) rounds 6 171 p267 = some r267 := by kernel_rfl
theorem s267 : Spec Go.Proofs.Tryz.prog 171 p267 r267 := fact tk1 g267
def p269 : List PA := [.c (s [42, 41, 32, 102, 114, 111, 109, 32, 97, 32, 102, 114, 111, 109]), .c (i 0)]
def r269 : List RA := [.c (.c (i 1)), .c (.c (i 0))]
theorem g269 : vcall (VN tb1) rounds 6 171 p269 = some r269 := by kernel_rfl
theorem s269 : Spec Go.Proofs.Tryz.prog 171 p269 r269 := fact tk1 g269
def p271 : List PA := [.c (s [41, 32, 102, 114, 111, 109, 32, 97, 32, 102, 114, 111, 109]), .c (i 0)]
def r271 : List RA := [.c (.c (i 1)), .c (.c (i 0))]
theorem g271 : vcall (VN tb1) rounds 6 171 p271 = some r271 := by kernel_rfl
theorem s271 : Spec Go.Proofs.Tryz.prog 171 p271 r271 := fact tk1 g271
def p273 : List PA := [.c (s [102, 114, 111, 109, 32, 97, 32, 102, 114, 111, 109])]
def r273 : List RA := [.a [.c (y 2), .c (s [102, 114, 111, 109]), .c (i 0)]]
theorem g273 : vcall (VN tb1) rounds 6 135 p273 = some r273 := by kernel_rfl
theorem s273 : Spec Go.Proofs.Tryz.prog 135 p273 r273 := fact tk1 g273
def p274 : List PA := [.c (s [97, 32, 102, 114, 111, 109])]
def r274 : List RA := [.a [.c (y 2), .c (s [97]), .c (i 0)]]
theorem g274 : vcall (VN tb1) rounds 6 135 p274 = some r274 := by kernel_rfl
theorem s274 : Spec Go.Proofs.Tryz.prog 135 p274 r274 := fact tk1 g274
def p275 : List PA := [.c (s [102, 114, 111, 109])]
def r275 : List RA := [.a [.c (y 2), .c (s [102, 114, 111, 109]), .c (i 0)]]
theorem g275 : vcall (VN tb1) rounds 6 135 p275 = some r275 := by kernel_rfl
theorem s275 : Spec Go.Proofs.Tryz.prog 135 p275 r275 := fact tk1 g275
def p284 : List PA := [.a [(y 0), e, e, bf, e, (y 0), (i 0), (i 0), bf, (y 0), e, e, e, e]]
def r284 : List RA := [.c (.c (i 8))]
theorem g284 : vcall (VN tb1) rounds 6 58 p284 = some r284 := by kernel_rfl
theorem s284 : Spec Go.Proofs.Tryz.prog 58 p284 r284 := fact tk1 g284
def p288 : List PA := [.a [(y 1), e, (l [[(i 0)]]), bf, e, (y 1), (i 5), (i 0), bf, (y 1)]]
def r288 : List RA := [.a [.c m16, .c (y 1), .c e, .c (l [[(i 0)]]), .c bf, .c e, .c (y 1), .c (i 5), .c (i 0), .c bf, .c (y 1)], .c (.c (i 0))]
theorem g288 : vcall (VN tb1) rounds 6 43 p288 = some r288 := by kernel_rfl
theorem s288 : Spec Go.Proofs.Tryz.prog 43 p288 r288 := fact tk1 g288
def p290 : List PA := [.a [m16, (y 1), e, (l [[(i 0)]]), bf, e, (y 1), (i 5), (i 0), bf, (y 1)], .c (i 1), .c (i 1)]
def r290 : List RA := [.a [.c m17, .c m18], .c (.c (i 0))]
theorem g290 : vcall (VN tb1) rounds 6 44 p290 = some r290 := by kernel_rfl
theorem s290 : Spec Go.Proofs.Tryz.prog 44 p290 r290 := fact tk1 g290
def p298 : List PA := [.a [m17, m18]]
def r298 : List RA := [.c (.c bt)]
theorem g298 : vcall (VN tb1) rounds 6 151 p298 = some r298 := by kernel_rfl
theorem s298 : Spec Go.Proofs.Tryz.prog 151 p298 r298 := fact tk1 g298
def p301 : List PA := [.a [(y 1), (i 0), (i 0), e, e, e, e, e, e]]
def r301 : List RA := [.c (.c (i 0))]
theorem g301 : vcall (VN tb1) rounds 6 153 p301 = some r301 := by kernel_rfl
theorem s301 : Spec Go.Proofs.Tryz.prog 153 p301 r301 := fact tk1 g301
def p306 : List PA := [.a [(y 4), (i 0), (i 0), e, (l [[(i (-9223372036854775808))]]), e, e, e, e]]
def r306 : List RA := [.c (.c (i 0))]
theorem g306 : vcall (VN tb1) rounds 6 153 p306 = some r306 := by kernel_rfl
theorem s306 : Spec Go.Proofs.Tryz.prog 153 p306 r306 := fact tk1 g306
def tb2 : List (FuncId × List PA × List RA) := [(135, p6, r6), (135, p11, r11), (171, p13, r13), (171, p15, r15), (135, p18, r18), (171, p20, r20), (171, p22, r22), (135, p26, r26), (135, p29, r29), (135, p34, r34), (135, p37, r37), (135, p41, r41), (135, p43, r43), (135, p46, r46), (218, p50, r50), (257, p52, r52), (135, p55, r55), (135, p58, r58), (135, p60, r60), (135, p62, r62), (43, p88, r88), (44, p90, r90), (187, p105, r105), (187, p106, r106), (187, p107, r107), (187, p108, r108), (153, p114, r114), (153, p117, r117), (153, p121, r121), (155, p124, r124), (153, p126, r126), (155, p128, r128), (153, p130, r130), (155, p132, r132), (153, p134, r134), (155, p136, r136), (153, p139, r139), (117, p140, r140), (153, p143, r143), (117, p144, r144), (153, p147, r147), (117, p148, r148), (153, p151, r151), (117, p152, r152), (44, p157, r157), (44, p159, r159), (44, p161, r161), (44, p163, r163), (44, p165, r165), (44, p167, r167), (44, p169, r169), (44, p171, r171), (44, p173, r173), (44, p175, r175), (153, p181, r181), (153, p193, r193), (9, p223, r223), (9, p224, r224), (9, p225, r225), (9, p226, r226), (44, p227, r227), (44, p229, r229), (44, p231, r231), (44, p233, r233), (40, p236, r236), (135, p239, r239), (135, p240, r240), (171, p242, r242), (171, p245, r245), (171, p247, r247), (171, p248, r248), (135, p250, r250), (135, p251, r251), (135, p252, r252), (135, p253, r253), (135, p254, r254), (9, p263, r263), (135, p265, r265), (135, p266, r266), (171, p267, r267), (171, p269, r269), (171, p271, r271), (135, p273, r273), (135, p274, r274), (135, p275, r275), (58, p284, r284), (43, p288, r288), (44, p290, r290), (151, p298, r298), (153, p301, r301), (153, p306, r306)] ++ tb1
theorem tk2 : TOK Go.Proofs.Tryz.prog tb2 := TOK.app (l := [(135, p6, r6), (135, p11, r11), (171, p13, r13), (171, p15, r15), (135, p18, r18), (171, p20, r20), (171, p22, r22), (135, p26, r26), (135, p29, r29), (135, p34, r34), (135, p37, r37), (135, p41, r41), (135, p43, r43), (135, p46, r46), (218, p50, r50), (257, p52, r52), (135, p55, r55), (135, p58, r58), (135, p60, r60), (135, p62, r62), (43, p88, r88), (44, p90, r90), (187, p105, r105), (187, p106, r106), (187, p107, r107), (187, p108, r108), (153, p114, r114), (153, p117, r117), (153, p121, r121), (155, p124, r124), (153, p126, r126), (155, p128, r128), (153, p130, r130), (155, p132, r132), (153, p134, r134), (155, p136, r136), (153, p139, r139), (117, p140, r140), (153, p143, r143), (117, p144, r144), (153, p147, r147), (117, p148, r148), (153, p151, r151), (117, p152, r152), (44, p157, r157), (44, p159, r159), (44, p161, r161), (44, p163, r163), (44, p165, r165), (44, p167, r167), (44, p169, r169), (44, p171, r171), (44, p173, r173), (44, p175, r175), (153, p181, r181), (153, p193, r193), (9, p223, r223), (9, p224, r224), (9, p225, r225), (9, p226, r226), (44, p227, r227), (44, p229, r229), (44, p231, r231), (44, p233, r233), (40, p236, r236), (135, p239, r239), (135, p240, r240), (171, p242, r242), (171, p245, r245), (171, p247, r247), (171, p248, r248), (135, p250, r250), (135, p251, r251), (135, p252, r252), (135, p253, r253), (135, p254, r254), (9, p263, r263), (135, p265, r265), (135, p266, r266), (171, p267, r267), (171, p269, r269), (171, p271, r271), (135, p273, r273), (135, p274, r274), (135, p275, r275), (58, p284, r284), (43, p288, r288), (44, p290, r290), (151, p298, r298), (153, p301, r301), (153, p306, r306)]) ⟨s6, s11, s13, s15, s18, s20, s22, s26, s29, s34, s37, s41, s43, s46, s50, s52, s55, s58, s60, s62, s88, s90, s105, s106, s107, s108, s114, s117, s121, s124, s126, s128, s130, s132, s134, s136, s139, s140, s143, s144, s147, s148, s151, s152, s157, s159, s161, s163, s165, s167, s169, s171, s173, s175, s181, s193, s223, s224, s225, s226, s227, s229, s231, s233, s236, s239, s240, s242, s245, s247, s248, s250, s251, s252, s253, s254, s263, s265, s266, s267, s269, s271, s273, s274, s275, s284, s288, s290, s298, s301, s306, trivial⟩ tk1
def p14 : List PA := [.c (s [40, 118, 41, 32, 102, 114, 111, 109, 32, 97, 32, 106, 111, 105, 110, 32, 98, 32, 119, 105, 110, 100, 111, 119, 32, 116, 117, 109, 98, 108, 101, 32, 53, 32, 98, 121, 32, 107, 101, 121, 32, 108, 97, 116, 101, 32, 115, 105, 100, 101])]
def r14 : List RA := [.a [.c (y 3), .c (s [40]), .c (i 0)]]
theorem g14 : vcall (VN tb2) rounds 6 135 p14 = some r14 := by kernel_rfl
theorem s14 : Spec Go.Proofs.Tryz.prog 135 p14 r14 := fact tk2 g14
def p21 : List PA := [.c (s [41, 32, 102, 114, 111, 109, 32, 97, 32, 106, 111, 105, 110, 32, 98, 32, 119, 105, 110, 100, 111, 119, 32, 116, 117, 109, 98, 108, 101, 32, 53, 32, 98, 121, 32, 107, 101, 121, 32, 108, 97, 116, 101, 32, 115, 105, 100, 101])]
def r21 : List RA := [.a [.c (y 3), .c (s [41]), .c (i 0)]]
theorem g21 : vcall (VN tb2) rounds 6 135 p21 = some r21 := by kernel_rfl
theorem s21 : Spec Go.Proofs.Tryz.prog 135 p21 r21 := fact tk2 g21
def p53 : List PA := [.c (s [53]), .c (i 10), .c (i 64)]
def r53 : List RA := [.c (.c (i 5)), .c (.e false)]
theorem g53 : vcall (VN tb2) rounds 6 219 p53 = some r53 := by kernel_rfl
theorem s53 : Spec Go.Proofs.Tryz.prog 219 p53 r53 := fact tk2 g53
def p101 : List PA := [.a [(y 2), m1, (l [[(i 0)], [(i 1)]]), bt, e, (y 1), (i 5), (i 0), bt, (y 2)], .c m4, .c (i 2), .c (i 3)]
def r101 : List RA := [.a [.c (y 2), .c m1, .c (l [[(i 0)], [(i 1)]]), .c bt, .c e, .c (y 1), .c (i 5), .c (i 0), .c bt, .c (y 2), .c m5, .c m6, .c m7, .c m8], .c (.c (i 0))]
theorem g101 : vcall (VN tb2) rounds 6 9 p101 = some r101 := by kernel_rfl
theorem s101 : Spec Go.Proofs.Tryz.prog 9 p101 r101 := fact tk2 g101
def p109 : List PA := [.a [m5, m6]]
def r109 : List RA := [.c (.c bt)]
theorem g109 : vcall (VN tb2) rounds 6 151 p109 = some r109 := by kernel_rfl
theorem s109 : Spec Go.Proofs.Tryz.prog 151 p109 r109 := fact tk2 g109
def p125 : List PA := [.a [m5, m6], .c (i 2)]
def r125 : List RA := [.c (.c (l [[(i 2)], [(i 3)]]))]
theorem g125 : vcall (VN tb2) rounds 6 109 p125 = some r125 := by kernel_rfl
theorem s125 : Spec Go.Proofs.Tryz.prog 109 p125 r125 := fact tk2 g125
def p129 : List PA := [.a [m5, m6], .c (i 3)]
def r129 : List RA := [.c (.c (l [[(i 4)], [(i 5)]]))]
theorem g129 : vcall (VN tb2) rounds 6 109 p129 = some r129 := by kernel_rfl
theorem s129 : Spec Go.Proofs.Tryz.prog 109 p129 r129 := fact tk2 g129
def p133 : List PA := [.a [m5, m6], .c (i 4)]
def r133 : List RA := [.c (.c (l [[(i 6)], [(i 7)]]))]
theorem g133 : vcall (VN tb2) rounds 6 109 p133 = some r133 := by kernel_rfl
theorem s133 : Spec Go.Proofs.Tryz.prog 109 p133 r133 := fact tk2 g133
def p137 : List PA := [.a [m5, m6], .c (i 5)]
def r137 : List RA := [.c (.c (l [[(i 8)], [(i 9)]]))]
theorem g137 : vcall (VN tb2) rounds 6 109 p137 = some r137 := by kernel_rfl
theorem s137 : Spec Go.Proofs.Tryz.prog 109 p137 r137 := fact tk2 g137
def p141 : List PA := [.a [m5, m6], .c (i 6)]
def r141 : List RA := [.c (.c (l [[(i 6)], [(i 8)]]))]
theorem g141 : vcall (VN tb2) rounds 6 72 p141 = some r141 := by kernel_rfl
theorem s141 : Spec Go.Proofs.Tryz.prog 72 p141 r141 := fact tk2 g141
def p145 : List PA := [.a [m5, m6], .c (i 7)]
def r145 : List RA := [.c (.c (l [[(i 7)], [(i 9)]]))]
theorem g145 : vcall (VN tb2) rounds 6 72 p145 = some r145 := by kernel_rfl
theorem s145 : Spec Go.Proofs.Tryz.prog 72 p145 r145 := fact tk2 g145
def p149 : List PA := [.a [m5, m6], .c (i 8)]
def r149 : List RA := [.c (.c (l [[(i 10)], [(i 11)]]))]
theorem g149 : vcall (VN tb2) rounds 6 72 p149 = some r149 := by kernel_rfl
theorem s149 : Spec Go.Proofs.Tryz.prog 72 p149 r149 := fact tk2 g149
def p153 : List PA := [.a [m5, m6], .c (i 9)]
def r153 : List RA := [.c (.c (l [[(i 3)], [(i 5)]]))]
theorem g153 : vcall (VN tb2) rounds 6 72 p153 = some r153 := by kernel_rfl
theorem s153 : Spec Go.Proofs.Tryz.prog 72 p153 r153 := fact tk2 g153
def m30 : PV := l [[(y 1), (i 0), (i 0), e, e, e, m3, e, e], [(y 1), (i 1), (i 0), e, e, e, e, e, e], [(y 2), (i 0), (i 0), e, (l [[(i (-9223372036854775808))]]), e, e, e, e], [(y 2), (i 1), (i 0), e, (l [[(i (-9223372036854775808))]]), e, e, e, e], [(y 3), (i 0), (i 0), e, e, e, e, e, e], [(y 3), (i 1), (i 0), e, e, e, e, e, e], [(y 5), (i 0), (i 0), e, (l [[(i (-9223372036854775808))], [(i (-9223372036854775808))]]), e, e, e, e], [(y 6), (i 0), (i 0), e, e, e, e, e, e], [(y 7), (i 0), (i 0), e, e, e, e, e, e]]
def m31 : PV := l [[(i 1), e], [(i 1), e], [(i 1), e], [(i 1), e], [(i 1), e], [(i 1), e], [(i 1), e], [(i 1), e], [(i 1), e]]
def p158 : List PA := [.a [(y 2), m1, (l [[(i 0)], [(i 1)]]), bt, e, (y 1), (i 5), (i 0), bt, (y 2)], .c m4, .c (i 1), .c (i 1)]
def r158 : List RA := [.a [.c (y 2), .c m1, .c (l [[(i 0)], [(i 1)]]), .c bt, .c e, .c (y 1), .c (i 5), .c (i 0), .c bt, .c (y 2), .c m19, .c m20, .c m30, .c m31], .c (.c (i 0))]
theorem g158 : vcall (VN tb2) rounds 6 9 p158 = some r158 := by kernel_rfl
theorem s158 : Spec Go.Proofs.Tryz.prog 9 p158 r158 := fact tk2 g158
def m32 : PV := l [[(i 2), e], [(i 2), e], [(i 2), e], [(i 2), e], [(i 2), e], [(i 2), e], [(i 2), e], [(i 2), e], [(i 2), e]]
def p160 : List PA := [.a [(y 2), m1, (l [[(i 0)], [(i 1)]]), bt, e, (y 1), (i 5), (i 0), bt, (y 2)], .c m4, .c (i 1), .c (i 2)]
def r160 : List RA := [.a [.c (y 2), .c m1, .c (l [[(i 0)], [(i 1)]]), .c bt, .c e, .c (y 1), .c (i 5), .c (i 0), .c bt, .c (y 2), .c m19, .c m21, .c m30, .c m32], .c (.c (i 0))]
theorem g160 : vcall (VN tb2) rounds 6 9 p160 = some r160 := by kernel_rfl
theorem s160 : Spec Go.Proofs.Tryz.prog 9 p160 r160 := fact tk2 g160
def m33 : PV := l [[(i 3), e], [(i 3), e], [(i 3), e], [(i 3), e], [(i 3), e], [(i 3), e], [(i 3), e], [(i 3), e], [(i 3), e]]
def p162 : List PA := [.a [(y 2), m1, (l [[(i 0)], [(i 1)]]), bt, e, (y 1), (i 5), (i 0), bt, (y 2)], .c m4, .c (i 1), .c (i 3)]
def r162 : List RA := [.a [.c (y 2), .c m1, .c (l [[(i 0)], [(i 1)]]), .c bt, .c e, .c (y 1), .c (i 5), .c (i 0), .c bt, .c (y 2), .c m19, .c m22, .c m30, .c m33], .c (.c (i 0))]
theorem g162 : vcall (VN tb2) rounds 6 9 p162 = some r162 := by kernel_rfl
theorem s162 : Spec Go.Proofs.Tryz.prog 9 p162 r162 := fact tk2 g162
def m34 : PV := l [[(i 4), e], [(i 4), e], [(i 4), e], [(i 4), e], [(i 4), e], [(i 4), e], [(i 4), e], [(i 4), e], [(i 4), e]]
def p164 : List PA := [.a [(y 2), m1, (l [[(i 0)], [(i 1)]]), bt, e, (y 1), (i 5), (i 0), bt, (y 2)], .c m4, .c (i 1), .c (i 4)]
def r164 : List RA := [.a [.c (y 2), .c m1, .c (l [[(i 0)], [(i 1)]]), .c bt, .c e, .c (y 1), .c (i 5), .c (i 0), .c bt, .c (y 2), .c m19, .c m23, .c m30, .c m34], .c (.c (i 0))]
theorem g164 : vcall (VN tb2) rounds 6 9 p164 = some r164 := by kernel_rfl
theorem s164 : Spec Go.Proofs.Tryz.prog 9 p164 r164 := fact tk2 g164
def m35 : PV := l [[(i 5), e], [(i 5), e], [(i 5), e], [(i 5), e], [(i 5), e], [(i 5), e], [(i 5), e], [(i 5), e], [(i 5), e]]
def p166 : List PA := [.a [(y 2), m1, (l [[(i 0)], [(i 1)]]), bt, e, (y 1), (i 5), (i 0), bt, (y 2)], .c m4, .c (i 1), .c (i 5)]
def r166 : List RA := [.a [.c (y 2), .c m1, .c (l [[(i 0)], [(i 1)]]), .c bt, .c e, .c (y 1), .c (i 5), .c (i 0), .c bt, .c (y 2), .c m19, .c m24, .c m30, .c m35], .c (.c (i 0))]
theorem g166 : vcall (VN tb2) rounds 6 9 p166 = some r166 := by kernel_rfl
theorem s166 : Spec Go.Proofs.Tryz.prog 9 p166 r166 := fact tk2 g166
end Tn.Bu
