import Derived.Test.YtdfikojbpojmfaaGreatDoorLn3
/- Closed facts of one run, each by the kernel. -/
set_option linter.unusedVariables false
namespace Tn.Ln
open Go Go.Abs Tn
def p113 : List PA := [.c (s [114, 111, 119, 32, 48, 32, 48, 32, 53, 32, 50, 32, 48, 32])]
def r113 : List RA := [.a [.c (y 0), .c (i 0), .c (i 0), .c (i 0), .c (i 0), .c (i 0), .c (i 0), .c (i 0), .c (i 0), .c (i 0)], .c (.c (i 12))]
theorem g113 : vcall (VN tb2) rounds 6 29 p113 = some r113 := by kernel_rfl
theorem s113 : Spec Go.Proofs.Tryz.prog 29 p113 r113 := fact tk2 g113
def p118 : List PA := [.c (s [32])]
def r118 : List RA := [.c (.c bt)]
theorem g118 : vcall (VN tb2) rounds 6 8 p118 = some r118 := by kernel_rfl
theorem s118 : Spec Go.Proofs.Tryz.prog 8 p118 r118 := fact tk2 g118
def p122 : List PA := [.c (s [48, 32])]
def r122 : List RA := [.c (.c bt)]
theorem g122 : vcall (VN tb2) rounds 6 8 p122 = some r122 := by kernel_rfl
theorem s122 : Spec Go.Proofs.Tryz.prog 8 p122 r122 := fact tk2 g122
def p124 : List PA := [.c (s [32, 48])]
def r124 : List RA := [.c (.c bt)]
theorem g124 : vcall (VN tb2) rounds 6 8 p124 = some r124 := by kernel_rfl
theorem s124 : Spec Go.Proofs.Tryz.prog 8 p124 r124 := fact tk2 g124
def p126 : List PA := [.c (s [48, 32, 32, 49])]
def r126 : List RA := [.c (.c bt)]
theorem g126 : vcall (VN tb2) rounds 6 8 p126 = some r126 := by kernel_rfl
theorem s126 : Spec Go.Proofs.Tryz.prog 8 p126 r126 := fact tk2 g126
def p131 : List PA := [.c (s [50, 48])]
def r131 : List RA := [.c (.c bt)]
theorem g131 : vcall (VN tb2) rounds 6 8 p131 = some r131 := by kernel_rfl
theorem s131 : Spec Go.Proofs.Tryz.prog 8 p131 r131 := fact tk2 g131
def p136 : List PA := [.c (s [48, 46, 52])]
def r136 : List RA := [.c (.c bt)]
theorem g136 : vcall (VN tb2) rounds 6 8 p136 = some r136 := by kernel_rfl
theorem s136 : Spec Go.Proofs.Tryz.prog 8 p136 r136 := fact tk2 g136
def p139 : List PA := [.c (s [48, 48])]
def r139 : List RA := [.c (.c bt)]
theorem g139 : vcall (VN tb2) rounds 6 8 p139 = some r139 := by kernel_rfl
theorem s139 : Spec Go.Proofs.Tryz.prog 8 p139 r139 := fact tk2 g139
def p142 : List PA := [.c (s [48, 46])]
def r142 : List RA := [.c (.c bt)]
theorem g142 : vcall (VN tb2) rounds 6 8 p142 = some r142 := by kernel_rfl
theorem s142 : Spec Go.Proofs.Tryz.prog 8 p142 r142 := fact tk2 g142
def p145 : List PA := [.c (s [46, 48])]
def r145 : List RA := [.c (.c bt)]
theorem g145 : vcall (VN tb2) rounds 6 8 p145 = some r145 := by kernel_rfl
theorem s145 : Spec Go.Proofs.Tryz.prog 8 p145 r145 := fact tk2 g145
def p148 : List PA := [.c (s [48, 46, 49, 46, 50])]
def r148 : List RA := [.c (.c bt)]
theorem g148 : vcall (VN tb2) rounds 6 8 p148 = some r148 := by kernel_rfl
theorem s148 : Spec Go.Proofs.Tryz.prog 8 p148 r148 := fact tk2 g148
def p153 : List PA := [.c (s [45, 49])]
def r153 : List RA := [.c (.c bt)]
theorem g153 : vcall (VN tb2) rounds 6 8 p153 = some r153 := by kernel_rfl
theorem s153 : Spec Go.Proofs.Tryz.prog 8 p153 r153 := fact tk2 g153
def p156 : List PA := [.c (s [48, 46, 45, 49])]
def r156 : List RA := [.c (.c bt)]
theorem g156 : vcall (VN tb2) rounds 6 8 p156 = some r156 := by kernel_rfl
theorem s156 : Spec Go.Proofs.Tryz.prog 8 p156 r156 := fact tk2 g156
def p159 : List PA := [.c (s [97])]
def r159 : List RA := [.c (.c bt)]
theorem g159 : vcall (VN tb2) rounds 6 8 p159 = some r159 := by kernel_rfl
theorem s159 : Spec Go.Proofs.Tryz.prog 8 p159 r159 := fact tk2 g159
def p162 : List PA := [.c (s [48, 44, 49])]
def r162 : List RA := [.c (.c bt)]
theorem g162 : vcall (VN tb2) rounds 6 8 p162 = some r162 := by kernel_rfl
theorem s162 : Spec Go.Proofs.Tryz.prog 8 p162 r162 := fact tk2 g162
def p167 : List PA := [.c (s [49, 48, 48])]
def r167 : List RA := [.c (.c bt)]
theorem g167 : vcall (VN tb2) rounds 6 8 p167 = some r167 := by kernel_rfl
theorem s167 : Spec Go.Proofs.Tryz.prog 8 p167 r167 := fact tk2 g167
def p172 : List PA := [.a [(l [[(i 0), (i 0), (i 0), (i 0), (i 0)]]), e]]
def r172 : List RA := [.c (.c (s [])), .c (.c (i 8))]
theorem g172 : vcall (VN tb2) rounds 6 9 p172 = some r172 := by kernel_rfl
theorem s172 : Spec Go.Proofs.Tryz.prog 9 p172 r172 := fact tk2 g172
def p175 : List PA := [.a [e, (l [[(i 0), (i 2199023255552), (i 0)]])]]
def r175 : List RA := [.c (.c (s [])), .c (.c (i 8))]
theorem g175 : vcall (VN tb2) rounds 6 9 p175 = some r175 := by kernel_rfl
theorem s175 : Spec Go.Proofs.Tryz.prog 9 p175 r175 := fact tk2 g175
def p185 : List PA := [.a [(l [[(y 1), (i 0)]]), e]]
def r185 : List RA := [.c (.c (i 8))]
theorem g185 : vcall (VN tb2) rounds 6 24 p185 = some r185 := by kernel_rfl
theorem s185 : Spec Go.Proofs.Tryz.prog 24 p185 r185 := fact tk2 g185
def p201 : List PA := [.c (s [40, 118, 41, 32, 102, 114, 111, 109, 32, 98, 32, 106, 111, 105, 110, 32, 100, 32, 119, 105, 110, 100, 111, 119, 32, 116, 117, 109, 98, 108, 101, 32, 53, 32, 98, 121, 32, 107, 101, 121, 32, 108, 97, 116, 101, 32, 115, 105, 100, 101])]
def r201 : List RA := [.a [.c (y 3), .c (s [40]), .c (i 0)]]
theorem g201 : vcall (VN tb2) rounds 6 117 p201 = some r201 := by kernel_rfl
theorem s201 : Spec Go.Proofs.Tryz.prog 117 p201 r201 := fact tk2 g201
def p208 : List PA := [.c (s [41, 32, 102, 114, 111, 109, 32, 98, 32, 106, 111, 105, 110, 32, 100, 32, 119, 105, 110, 100, 111, 119, 32, 116, 117, 109, 98, 108, 101, 32, 53, 32, 98, 121, 32, 107, 101, 121, 32, 108, 97, 116, 101, 32, 115, 105, 100, 101])]
def r208 : List RA := [.a [.c (y 3), .c (s [41]), .c (i 0)]]
theorem g208 : vcall (VN tb2) rounds 6 117 p208 = some r208 := by kernel_rfl
theorem s208 : Spec Go.Proofs.Tryz.prog 117 p208 r208 := fact tk2 g208
def m19 : PV := l [[(y 2), (s [115, 101, 108, 101, 99, 116]), (i 0)], [(y 2), (s [115, 117, 109]), (i 7)], [(y 3), (s [40]), (i 10)], [(y 2), (s [118]), (i 11)], [(y 3), (s [41]), (i 12)], [(y 2), (s [102, 114, 111, 109]), (i 14)], [(y 2), (s [98]), (i 19)], [(y 2), (s [106, 111, 105, 110]), (i 21)], [(y 2), (s [100]), (i 26)], [(y 2), (s [119, 105, 110, 100, 111, 119]), (i 28)], [(y 2), (s [116, 117, 109, 98, 108, 101]), (i 35)], [(y 1), (s [53]), (i 42)], [(y 2), (s [98, 121]), (i 44)], [(y 2), (s [107, 101, 121]), (i 47)], [(y 2), (s [108, 97, 116, 101]), (i 51)], [(y 2), (s [115, 105, 100, 101]), (i 56)]]
def p254 : List PA := [.c m19, .c (i 3)]
def r254 : List RA := [.c (.c m14), .c (.c (i 4)), .c (.c (i 0))]
theorem g254 : vcall (VN tb2) rounds 6 155 p254 = some r254 := by kernel_rfl
theorem s254 : Spec Go.Proofs.Tryz.prog 155 p254 r254 := fact tk2 g254
def p263 : List PA := [.c (s [53])]
def r263 : List RA := [.c (.c (i 5)), .c (.c (i 0))]
theorem g263 : vcall (VN tb2) rounds 6 153 p263 = some r263 := by kernel_rfl
theorem s263 : Spec Go.Proofs.Tryz.prog 153 p263 r263 := fact tk2 g263
def m20 : PV := l [[(y 1), (i 0), (i 0), e, e, e, e, e, e], [(y 1), (i 1), (i 0), e, e, e, e, e, e], [(y 2), (i 0), (i 0), e, (l [[(i (-9223372036854775808))]]), e, e, e, e], [(y 2), (i 1), (i 0), e, (l [[(i (-9223372036854775808))]]), e, e, e, e], [(y 3), (i 0), (i 0), e, e, e, e, e, e], [(y 3), (i 1), (i 0), e, e, e, e, e, e], [(y 5), (i 0), (i 0), e, (l [[(i (-9223372036854775808))], [(i (-9223372036854775808))]]), e, e, e, e], [(y 6), (i 0), (i 0), e, e, e, e, e, e], [(y 7), (i 0), (i 0), e, e, e, e, e, e]]
def m21 : PV := l [[(i 8), e], [(i 8), e], [(i 8), e], [(i 8), e], [(i 8), e], [(i 8), e], [(i 8), e], [(i 8), e], [(i 8), e]]
def p284 : List PA := [.a [(y 2), m14, (l [[(i 1)], [(i 3)]]), bt, e, (y 1), (i 5), (i 0), bt, (y 2)], .c (l [[e], [e]]), .c (i 1), .c (i 8)]
def r284 : List RA := [.a [.c (y 2), .c m14, .c (l [[(i 1)], [(i 3)]]), .c bt, .c e, .c (y 1), .c (i 5), .c (i 0), .c bt, .c (y 2), .c m17, .c m18, .c m20, .c m21], .c (.c (i 0))]
theorem g284 : vcall (VN tb2) rounds 6 27 p284 = some r284 := by kernel_rfl
theorem s284 : Spec Go.Proofs.Tryz.prog 27 p284 r284 := fact tk2 g284
def p292 : List PA := [.a [m17, m18]]
def r292 : List RA := [.c (.c bt)]
theorem g292 : vcall (VN tb2) rounds 6 43 p292 = some r292 := by kernel_rfl
theorem s292 : Spec Go.Proofs.Tryz.prog 43 p292 r292 := fact tk2 g292
def p303 : List PA := [.c (l [[(i 0), (i (-1))], [(i 3), (i 1)]]), .c (s [48, 32, 51, 46, 49])]
def r303 : List RA := [.c (.c bt)]
theorem g303 : vcall (VN tb2) rounds 6 6 p303 = some r303 := by kernel_rfl
theorem s303 : Spec Go.Proofs.Tryz.prog 6 p303 r303 := fact tk2 g303
def tb3 : List (FuncId × List PA × List RA) := [(4, p3, r3), (9, p9, r9), (29, p14, r14), (29, p19, r19), (6, p26, r26), (6, p32, r32), (6, p40, r40), (9, p42, r42), (29, p49, r49), (29, p56, r56), (29, p64, r64), (29, p72, r72), (9, p74, r74), (29, p81, r81), (29, p89, r89), (29, p98, r98), (29, p106, r106), (29, p113, r113), (8, p118, r118), (8, p122, r122), (8, p124, r124), (8, p126, r126), (8, p131, r131), (8, p136, r136), (8, p139, r139), (8, p142, r142), (8, p145, r145), (8, p148, r148), (8, p153, r153), (8, p156, r156), (8, p159, r159), (8, p162, r162), (8, p167, r167), (9, p172, r172), (9, p175, r175), (24, p185, r185), (117, p201, r201), (117, p208, r208), (155, p254, r254), (153, p263, r263), (27, p284, r284), (43, p292, r292), (6, p303, r303)] ++ tb2
theorem tk3 : TOK Go.Proofs.Tryz.prog tb3 := TOK.app (l := [(4, p3, r3), (9, p9, r9), (29, p14, r14), (29, p19, r19), (6, p26, r26), (6, p32, r32), (6, p40, r40), (9, p42, r42), (29, p49, r49), (29, p56, r56), (29, p64, r64), (29, p72, r72), (9, p74, r74), (29, p81, r81), (29, p89, r89), (29, p98, r98), (29, p106, r106), (29, p113, r113), (8, p118, r118), (8, p122, r122), (8, p124, r124), (8, p126, r126), (8, p131, r131), (8, p136, r136), (8, p139, r139), (8, p142, r142), (8, p145, r145), (8, p148, r148), (8, p153, r153), (8, p156, r156), (8, p159, r159), (8, p162, r162), (8, p167, r167), (9, p172, r172), (9, p175, r175), (24, p185, r185), (117, p201, r201), (117, p208, r208), (155, p254, r254), (153, p263, r263), (27, p284, r284), (43, p292, r292), (6, p303, r303)]) ⟨s3, s9, s14, s19, s26, s32, s40, s42, s49, s56, s64, s72, s74, s81, s89, s98, s106, s113, s118, s122, s124, s126, s131, s136, s139, s142, s145, s148, s153, s156, s159, s162, s167, s172, s175, s185, s201, s208, s254, s263, s284, s292, s303, trivial⟩ tk2
def p20 : List PA := [.c (s [114, 111, 119, 32, 48, 32, 48, 32, 53, 32, 50, 32, 48, 10, 114, 111, 119, 32, 48, 32, 48, 32, 53, 32, 50, 32, 48, 10, 108, 97, 116, 101, 32, 45, 57, 50, 50, 51, 51, 55, 50, 48, 51, 54, 56, 53, 52, 55, 55, 53, 56, 48, 56, 32, 45, 49, 48, 57, 57, 53, 49, 49, 54, 50, 55, 55, 55, 54, 32, 55, 10])]
def r20 : List RA := [.a [.c m2, .c m3], .c (.c (i 0))]
theorem g20 : vcall (VN tb3) rounds 6 14 p20 = some r20 := by kernel_rfl
theorem s20 : Spec Go.Proofs.Tryz.prog 14 p20 r20 := fact tk3 g20
def p43 : List PA := [.c (s [114, 111, 119, 32, 48, 32, 48, 32, 53, 32, 50, 32, 48])]
def r43 : List RA := [.a [.c e, .c e], .c (.c (i 12))]
theorem g43 : vcall (VN tb3) rounds 6 14 p43 = some r43 := by kernel_rfl
theorem s43 : Spec Go.Proofs.Tryz.prog 14 p43 r43 := fact tk3 g43
def p50 : List PA := [.c (s [10])]
def r50 : List RA := [.a [.c e, .c e], .c (.c (i 12))]
theorem g50 : vcall (VN tb3) rounds 6 14 p50 = some r50 := by kernel_rfl
theorem s50 : Spec Go.Proofs.Tryz.prog 14 p50 r50 := fact tk3 g50
def p57 : List PA := [.c (s [114, 111, 119, 32, 48, 32, 48, 32, 53, 32, 50, 10])]
def r57 : List RA := [.a [.c e, .c e], .c (.c (i 12))]
theorem g57 : vcall (VN tb3) rounds 6 14 p57 = some r57 := by kernel_rfl
theorem s57 : Spec Go.Proofs.Tryz.prog 14 p57 r57 := fact tk3 g57
def p65 : List PA := [.c (s [114, 111, 119, 32, 48, 32, 53, 32, 53, 32, 50, 32, 48, 10])]
def r65 : List RA := [.a [.c e, .c e], .c (.c (i 12))]
theorem g65 : vcall (VN tb3) rounds 6 14 p65 = some r65 := by kernel_rfl
theorem s65 : Spec Go.Proofs.Tryz.prog 14 p65 r65 := fact tk3 g65
def p75 : List PA := [.c (s [108, 97, 116, 101, 32, 49, 32, 50, 32, 51, 10, 114, 111, 119, 32, 48, 32, 48, 32, 53, 32, 50, 32, 48, 10])]
def r75 : List RA := [.a [.c e, .c e], .c (.c (i 12))]
theorem g75 : vcall (VN tb3) rounds 6 14 p75 = some r75 := by kernel_rfl
theorem s75 : Spec Go.Proofs.Tryz.prog 14 p75 r75 := fact tk3 g75
def p82 : List PA := [.c (s [114, 101, 99, 111, 114, 100, 32, 49, 32, 50, 32, 51, 10])]
def r82 : List RA := [.a [.c e, .c e], .c (.c (i 12))]
theorem g82 : vcall (VN tb3) rounds 6 14 p82 = some r82 := by kernel_rfl
theorem s82 : Spec Go.Proofs.Tryz.prog 14 p82 r82 := fact tk3 g82
def p90 : List PA := [.c (s [109, 97, 114, 107, 32, 52, 10])]
def r90 : List RA := [.a [.c e, .c e], .c (.c (i 12))]
theorem g90 : vcall (VN tb3) rounds 6 14 p90 = some r90 := by kernel_rfl
theorem s90 : Spec Go.Proofs.Tryz.prog 14 p90 r90 := fact tk3 g90
def p92 : List PA := [.c (s [114, 111, 119, 32, 48, 32, 48, 32, 53, 32, 50, 32, 48, 10, 10])]
def r92 : List RA := [.a [.c e, .c e], .c (.c (i 12))]
theorem g92 : vcall (VN tb3) rounds 6 14 p92 = some r92 := by kernel_rfl
theorem s92 : Spec Go.Proofs.Tryz.prog 14 p92 r92 := fact tk3 g92
def p99 : List PA := [.c (s [114, 111, 119, 32, 48, 32, 48, 32, 48, 53, 32, 50, 32, 48, 10])]
def r99 : List RA := [.a [.c e, .c e], .c (.c (i 12))]
theorem g99 : vcall (VN tb3) rounds 6 14 p99 = some r99 := by kernel_rfl
theorem s99 : Spec Go.Proofs.Tryz.prog 14 p99 r99 := fact tk3 g99
def p107 : List PA := [.c (s [108, 97, 116, 101, 32, 48, 32, 49, 48, 57, 57, 53, 49, 49, 54, 50, 55, 55, 55, 55, 32, 48, 10])]
def r107 : List RA := [.a [.c e, .c e], .c (.c (i 12))]
theorem g107 : vcall (VN tb3) rounds 6 14 p107 = some r107 := by kernel_rfl
theorem s107 : Spec Go.Proofs.Tryz.prog 14 p107 r107 := fact tk3 g107
def p114 : List PA := [.c (s [114, 111, 119, 32, 48, 32, 48, 32, 53, 32, 50, 32, 48, 32, 10])]
def r114 : List RA := [.a [.c e, .c e], .c (.c (i 12))]
theorem g114 : vcall (VN tb3) rounds 6 14 p114 = some r114 := by kernel_rfl
theorem s114 : Spec Go.Proofs.Tryz.prog 14 p114 r114 := fact tk3 g114
def p186 : List PA := [.a [(l [[(y 1), (i 0)]]), e]]
def r186 : List RA := [.c (.c (s [])), .c (.c (i 8))]
theorem g186 : vcall (VN tb3) rounds 6 11 p186 = some r186 := by kernel_rfl
theorem s186 : Spec Go.Proofs.Tryz.prog 11 p186 r186 := fact tk3 g186
def p248 : List PA := [.c (s [115, 101, 108, 101, 99, 116, 32, 115, 117, 109, 40, 118, 41, 32, 102, 114, 111, 109, 32, 98, 32, 106, 111, 105, 110, 32, 100, 32, 119, 105, 110, 100, 111, 119, 32, 116, 117, 109, 98, 108, 101, 32, 53, 32, 98, 121, 32, 107, 101, 121, 32, 108, 97, 116, 101, 32, 115, 105, 100, 101])]
def r248 : List RA := [.c (.c m19), .c (.c (i 60)), .c (.c (i 0))]
theorem g248 : vcall (VN tb3) rounds 6 81 p248 = some r248 := by kernel_rfl
theorem s248 : Spec Go.Proofs.Tryz.prog 81 p248 r248 := fact tk3 g248
def p293 : List PA := [.a [m17, m18]]
def r293 : List RA := [.c (.c (i 0))]
theorem g293 : vcall (VN tb3) rounds 6 24 p293 = some r293 := by kernel_rfl
theorem s293 : Spec Go.Proofs.Tryz.prog 24 p293 r293 := fact tk3 g293
def p295 : List PA := [.c (s [114, 111, 119, 32, 48, 32, 48, 32, 53, 32, 50, 32, 48, 10])]
def r295 : List RA := [.a [.c m16, .c e], .c (.c (i 0))]
theorem g295 : vcall (VN tb3) rounds 6 14 p295 = some r295 := by kernel_rfl
theorem s295 : Spec Go.Proofs.Tryz.prog 14 p295 r295 := fact tk3 g295
def tb4 : List (FuncId × List PA × List RA) := [(14, p20, r20), (14, p43, r43), (14, p50, r50), (14, p57, r57), (14, p65, r65), (14, p75, r75), (14, p82, r82), (14, p90, r90), (14, p92, r92), (14, p99, r99), (14, p107, r107), (14, p114, r114), (11, p186, r186), (81, p248, r248), (24, p293, r293), (14, p295, r295)] ++ tb3
theorem tk4 : TOK Go.Proofs.Tryz.prog tb4 := TOK.app (l := [(14, p20, r20), (14, p43, r43), (14, p50, r50), (14, p57, r57), (14, p65, r65), (14, p75, r75), (14, p82, r82), (14, p90, r90), (14, p92, r92), (14, p99, r99), (14, p107, r107), (14, p114, r114), (11, p186, r186), (81, p248, r248), (24, p293, r293), (14, p295, r295)]) ⟨s20, s43, s50, s57, s65, s75, s82, s90, s92, s99, s107, s114, s186, s248, s293, s295, trivial⟩ tk3
def p22 : List PA := [.a [m2, m3], .c (s [114, 111, 119, 32, 48, 32, 48, 32, 53, 32, 50, 32, 48, 10, 114, 111, 119, 32, 48, 32, 48, 32, 53, 32, 50, 32, 48, 10, 108, 97, 116, 101, 32, 45, 57, 50, 50, 51, 51, 55, 50, 48, 51, 54, 56, 53, 52, 55, 55, 53, 56, 48, 56, 32, 45, 49, 48, 57, 57, 53, 49, 49, 54, 50, 55, 55, 55, 54, 32, 55, 10])]
def r22 : List RA := [.c (.c bt)]
theorem g22 : vcall (VN tb4) rounds 6 4 p22 = some r22 := by kernel_rfl
theorem s22 : Spec Go.Proofs.Tryz.prog 4 p22 r22 := fact tk4 g22
def p44 : List PA := [.c (s [114, 111, 119, 32, 48, 32, 48, 32, 53, 32, 50, 32, 48])]
def r44 : List RA := [.c (.c bt)]
theorem g44 : vcall (VN tb4) rounds 6 7 p44 = some r44 := by kernel_rfl
theorem s44 : Spec Go.Proofs.Tryz.prog 7 p44 r44 := fact tk4 g44
def p51 : List PA := [.c (s [10])]
def r51 : List RA := [.c (.c bt)]
theorem g51 : vcall (VN tb4) rounds 6 7 p51 = some r51 := by kernel_rfl
theorem s51 : Spec Go.Proofs.Tryz.prog 7 p51 r51 := fact tk4 g51
def p58 : List PA := [.c (s [114, 111, 119, 32, 48, 32, 48, 32, 53, 32, 50, 10])]
def r58 : List RA := [.c (.c bt)]
theorem g58 : vcall (VN tb4) rounds 6 7 p58 = some r58 := by kernel_rfl
theorem s58 : Spec Go.Proofs.Tryz.prog 7 p58 r58 := fact tk4 g58
def p66 : List PA := [.c (s [114, 111, 119, 32, 48, 32, 53, 32, 53, 32, 50, 32, 48, 10])]
def r66 : List RA := [.c (.c bt)]
theorem g66 : vcall (VN tb4) rounds 6 7 p66 = some r66 := by kernel_rfl
theorem s66 : Spec Go.Proofs.Tryz.prog 7 p66 r66 := fact tk4 g66
def p76 : List PA := [.c (s [108, 97, 116, 101, 32, 49, 32, 50, 32, 51, 10, 114, 111, 119, 32, 48, 32, 48, 32, 53, 32, 50, 32, 48, 10])]
def r76 : List RA := [.c (.c bt)]
theorem g76 : vcall (VN tb4) rounds 6 7 p76 = some r76 := by kernel_rfl
theorem s76 : Spec Go.Proofs.Tryz.prog 7 p76 r76 := fact tk4 g76
def p83 : List PA := [.c (s [114, 101, 99, 111, 114, 100, 32, 49, 32, 50, 32, 51, 10])]
def r83 : List RA := [.c (.c bt)]
theorem g83 : vcall (VN tb4) rounds 6 7 p83 = some r83 := by kernel_rfl
theorem s83 : Spec Go.Proofs.Tryz.prog 7 p83 r83 := fact tk4 g83
def p91 : List PA := [.c (s [109, 97, 114, 107, 32, 52, 10])]
def r91 : List RA := [.c (.c bt)]
theorem g91 : vcall (VN tb4) rounds 6 7 p91 = some r91 := by kernel_rfl
theorem s91 : Spec Go.Proofs.Tryz.prog 7 p91 r91 := fact tk4 g91
def p93 : List PA := [.c (s [114, 111, 119, 32, 48, 32, 48, 32, 53, 32, 50, 32, 48, 10, 10])]
def r93 : List RA := [.c (.c bt)]
theorem g93 : vcall (VN tb4) rounds 6 7 p93 = some r93 := by kernel_rfl
theorem s93 : Spec Go.Proofs.Tryz.prog 7 p93 r93 := fact tk4 g93
def p100 : List PA := [.c (s [114, 111, 119, 32, 48, 32, 48, 32, 48, 53, 32, 50, 32, 48, 10])]
def r100 : List RA := [.c (.c bt)]
theorem g100 : vcall (VN tb4) rounds 6 7 p100 = some r100 := by kernel_rfl
theorem s100 : Spec Go.Proofs.Tryz.prog 7 p100 r100 := fact tk4 g100
def p108 : List PA := [.c (s [108, 97, 116, 101, 32, 48, 32, 49, 48, 57, 57, 53, 49, 49, 54, 50, 55, 55, 55, 55, 32, 48, 10])]
def r108 : List RA := [.c (.c bt)]
theorem g108 : vcall (VN tb4) rounds 6 7 p108 = some r108 := by kernel_rfl
theorem s108 : Spec Go.Proofs.Tryz.prog 7 p108 r108 := fact tk4 g108
def p115 : List PA := [.c (s [114, 111, 119, 32, 48, 32, 48, 32, 53, 32, 50, 32, 48, 32, 10])]
def r115 : List RA := [.c (.c bt)]
theorem g115 : vcall (VN tb4) rounds 6 7 p115 = some r115 := by kernel_rfl
theorem s115 : Spec Go.Proofs.Tryz.prog 7 p115 r115 := fact tk4 g115
def p268 : List PA := [.c (s [115, 101, 108, 101, 99, 116, 32, 115, 117, 109, 40, 118, 41, 32, 102, 114, 111, 109, 32, 98, 32, 106, 111, 105, 110, 32, 100, 32, 119, 105, 110, 100, 111, 119, 32, 116, 117, 109, 98, 108, 101, 32, 53, 32, 98, 121, 32, 107, 101, 121, 32, 108, 97, 116, 101, 32, 115, 105, 100, 101])]
def r268 : List RA := [.a [.c (y 2), .c m14, .c (l [[(i 1)], [(i 3)]]), .c bt, .c e, .c (y 1), .c (i 5), .c (i 0), .c bt, .c (y 2)], .c (.c (i 60)), .c (.c (i 0))]
theorem g268 : vcall (VN tb4) rounds 6 46 p268 = some r268 := by kernel_rfl
theorem s268 : Spec Go.Proofs.Tryz.prog 46 p268 r268 := fact tk4 g268
def p294 : List PA := [.a [m17, m18]]
def r294 : List RA := [.c (.c (s [115, 111, 117, 114, 99, 101, 32, 48, 10, 115, 111, 117, 114, 99, 101, 32, 49, 10, 102, 105, 108, 116, 101, 114, 32, 48, 10, 102, 105, 108, 116, 101, 114, 32, 49, 10, 115, 112, 108, 105, 116, 32, 48, 10, 115, 112, 108, 105, 116, 32, 49, 10, 106, 111, 105, 110, 32, 48, 10, 115, 105, 110, 107, 32, 48, 10, 108, 97, 116, 101, 32, 48, 10, 48, 46, 48, 32, 50, 46, 48, 32, 56, 10, 49, 46, 48, 32, 51, 46, 48, 32, 56, 10, 50, 46, 48, 32, 52, 46, 48, 32, 56, 10, 50, 46, 49, 32, 56, 46, 48, 32, 56, 10, 51, 46, 48, 32, 53, 46, 48, 32, 56, 10, 51, 46, 49, 32, 56, 46, 49, 32, 56, 10, 52, 46, 48, 32, 54, 46, 48, 32, 56, 10, 53, 46, 48, 32, 54, 46, 49, 32, 56, 10, 54, 46, 48, 32, 55, 46, 48, 32, 56, 10])), .c (.c (i 0))]
theorem g294 : vcall (VN tb4) rounds 6 11 p294 = some r294 := by kernel_rfl
theorem s294 : Spec Go.Proofs.Tryz.prog 11 p294 r294 := fact tk4 g294
def p297 : List PA := [.a [m16, e], .c (s [114, 111, 119, 32, 48, 32, 48, 32, 53, 32, 50, 32, 48, 10])]
def r297 : List RA := [.c (.c bt)]
theorem g297 : vcall (VN tb4) rounds 6 4 p297 = some r297 := by kernel_rfl
theorem s297 : Spec Go.Proofs.Tryz.prog 4 p297 r297 := fact tk4 g297
def tb5 : List (FuncId × List PA × List RA) := [(4, p22, r22), (7, p44, r44), (7, p51, r51), (7, p58, r58), (7, p66, r66), (7, p76, r76), (7, p83, r83), (7, p91, r91), (7, p93, r93), (7, p100, r100), (7, p108, r108), (7, p115, r115), (46, p268, r268), (11, p294, r294), (4, p297, r297)] ++ tb4
theorem tk5 : TOK Go.Proofs.Tryz.prog tb5 := TOK.app (l := [(4, p22, r22), (7, p44, r44), (7, p51, r51), (7, p58, r58), (7, p66, r66), (7, p76, r76), (7, p83, r83), (7, p91, r91), (7, p93, r93), (7, p100, r100), (7, p108, r108), (7, p115, r115), (46, p268, r268), (11, p294, r294), (4, p297, r297)]) ⟨s22, s44, s51, s58, s66, s76, s83, s91, s93, s100, s108, s115, s268, s294, s297, trivial⟩ tk4
def p270 : List PA := [.c (s [115, 101, 108, 101, 99, 116, 32, 115, 117, 109, 40, 118, 41, 32, 102, 114, 111, 109, 32, 98, 32, 106, 111, 105, 110, 32, 100, 32, 119, 105, 110, 100, 111, 119, 32, 116, 117, 109, 98, 108, 101, 32, 53, 32, 98, 121, 32, 107, 101, 121, 32, 108, 97, 116, 101, 32, 115, 105, 100, 101])]
def r270 : List RA := [.a [.c (y 2), .c m14, .c (l [[(i 1)], [(i 3)]]), .c bt, .c e, .c (y 1), .c (i 5), .c (i 0), .c bt, .c (y 2)], .c (.c (i 60)), .c (.c (i 0))]
theorem g270 : vcall (VN tb5) rounds 6 26 p270 = some r270 := by kernel_rfl
theorem s270 : Spec Go.Proofs.Tryz.prog 26 p270 r270 := fact tk5 g270
def p304 : List PA := []
def r304 : List RA := [.c (.c bt)]
theorem g304 : vcall (VN tb5) rounds 6 13 p304 = some r304 := by kernel_rfl
theorem s304 : Spec Go.Proofs.Tryz.prog 13 p304 r304 := fact tk5 g304
def tb6 : List (FuncId × List PA × List RA) := [(26, p270, r270), (13, p304, r304)] ++ tb5
theorem tk6 : TOK Go.Proofs.Tryz.prog tb6 := TOK.app (l := [(26, p270, r270), (13, p304, r304)]) ⟨s270, s304, trivial⟩ tk5
def p285 : List PA := [.c (s [115, 101, 108, 101, 99, 116, 32, 115, 117, 109, 40, 118, 41, 32, 102, 114, 111, 109, 32, 98, 32, 106, 111, 105, 110, 32, 100, 32, 119, 105, 110, 100, 111, 119, 32, 116, 117, 109, 98, 108, 101, 32, 53, 32, 98, 121, 32, 107, 101, 121, 32, 108, 97, 116, 101, 32, 115, 105, 100, 101]), .c (l [[e], [e]]), .c (i 1), .c (i 8)]
def r285 : List RA := [.a [.c (y 2), .c m14, .c (l [[(i 1)], [(i 3)]]), .c bt, .c e, .c (y 1), .c (i 5), .c (i 0), .c bt, .c (y 2), .c m17, .c m18, .c m20, .c m21], .c (.c (i 60)), .c (.c (i 0))]
theorem g285 : vcall (VN tb6) rounds 6 12 p285 = some r285 := by kernel_rfl
theorem s285 : Spec Go.Proofs.Tryz.prog 12 p285 r285 := fact tk6 g285
def tb7 : List (FuncId × List PA × List RA) := [(12, p285, r285)] ++ tb6
theorem tk7 : TOK Go.Proofs.Tryz.prog tb7 := TOK.app (l := [(12, p285, r285)]) ⟨s285, trivial⟩ tk6
def p305 : List PA := []
def r305 : List RA := [.c (.c bt)]
theorem g305 : vcall (VN tb7) rounds 6 3 p305 = some r305 := by kernel_rfl
theorem s305 : Spec Go.Proofs.Tryz.prog 3 p305 r305 := fact tk7 g305
theorem law : Spec Go.Proofs.Tryz.prog 3 [] [.c (.c (.bool true))] := s305
end Tn.Ln
