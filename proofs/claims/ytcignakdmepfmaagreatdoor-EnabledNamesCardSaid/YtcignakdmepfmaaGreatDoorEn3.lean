import Derived.Test.YtcignakdmepfmaaGreatDoorEn2
/- Closed facts of one run, each by the kernel. -/
set_option linter.unusedVariables false
namespace Tn.En
open Go Go.Abs Tn
def p235 : List PA := [.a [(y 2), (i 0), (i 0), e, (l [[(i 9)]]), e, e, e, e], .c e]
def r235 : List RA := [.a [.c (y 2), .c (i 0), .c (i 0), .s 156 11 [], .s 2 1 [[(i 9)]], .s 212 11 [], .s 34 5 [], .s 92 5 [], .s 32 3 []], .c (.c (i 0))]
theorem g235 : vcall (VN tb2) rounds 6 157 p235 = some r235 := by kernel_rfl
theorem s235 : Spec Go.Proofs.Tryz.prog 157 p235 r235 := fact tk2 g235
def p242 : List PA := [.a [(y 2), (i 0), (i 0), e, (l [[(i 9)]]), e, e, e, e], .c (l [[(i 1), e]]), .c (l [[(i 1), e]])]
def r242 : List RA := [.c (.c bf), .c (.c (i 0))]
theorem g242 : vcall (VN tb2) rounds 6 108 p242 = some r242 := by kernel_rfl
theorem s242 : Spec Go.Proofs.Tryz.prog 108 p242 r242 := fact tk2 g242
def p244 : List PA := [.a [(y 4), (i 0), (i 0), m28, (l [[(i 9)]]), e, e, e, e], .c (l [[(i 1), e]]), .c (l [[(i 1), e]])]
def r244 : List RA := [.c (.c bt), .c (.c (i 0))]
theorem g244 : vcall (VN tb2) rounds 6 108 p244 = some r244 := by kernel_rfl
theorem s244 : Spec Go.Proofs.Tryz.prog 108 p244 r244 := fact tk2 g244
def p248 : List PA := [.a [(y 4), (i 0), (i 0), m28, (l [[(i 9)]]), e, e, e, e], .c (l [[(i 1), e]])]
def r248 : List RA := [.a [.c (y 4), .c (i 0), .c (i 0), .c e, .s 2 1 [[(i 9)]], .s 212 11 [], .s 34 5 [], .s 92 5 [], .s 32 3 []], .c (.s 59 2 [[(i 1), m30]]), .c (.c (i 0))]
theorem g248 : vcall (VN tb2) rounds 6 110 p248 = some r248 := by kernel_rfl
theorem s248 : Spec Go.Proofs.Tryz.prog 110 p248 r248 := fact tk2 g248
def p249 : List PA := [.a [(y 4), (i 0), (i 0), m28, (l [[(i 9)]]), e, e, e, e], .c e]
def r249 : List RA := [.a [.c (y 4), .c (i 0), .c (i 0), .s 156 11 [[(i 0), (y 3), (i 0), (i 0), (i 0), (i 0), (i 0), (i 0), (i 5), (i 1), (i 0)]], .s 2 1 [[(i 9)]], .s 212 11 [], .s 34 5 [], .s 92 5 [], .s 32 3 []], .c (.c (i 0))]
theorem g249 : vcall (VN tb2) rounds 6 157 p249 = some r249 := by kernel_rfl
theorem s249 : Spec Go.Proofs.Tryz.prog 157 p249 r249 := fact tk2 g249
def p257 : List PA := [.a [(y 4), (i 0), (i 0), e, (l [[(i 9)]]), e, e, e, e], .c (l [[(i 1), e]]), .c m33]
def r257 : List RA := [.c (.c bf), .c (.c (i 0))]
theorem g257 : vcall (VN tb2) rounds 6 108 p257 = some r257 := by kernel_rfl
theorem s257 : Spec Go.Proofs.Tryz.prog 108 p257 r257 := fact tk2 g257
def p258 : List PA := [.a [(y 6), (i 0), (i 0), e, e, e, e, e, e], .c m33, .c e]
def r258 : List RA := [.c (.c bt), .c (.c (i 0))]
theorem g258 : vcall (VN tb2) rounds 6 108 p258 = some r258 := by kernel_rfl
theorem s258 : Spec Go.Proofs.Tryz.prog 108 p258 r258 := fact tk2 g258
def p261 : List PA := [.a [(y 6), (i 0), (i 0), e, e, e, e, e, e], .c m33]
def r261 : List RA := [.c (.c (i 0)), .a [.c (y 6), .c (i 0), .c (i 0), .s 156 11 [], .s 2 1 [], .s 212 11 [], .s 34 5 [], .s 92 5 [], .s 32 3 []], .c (.c (i 0))]
theorem g261 : vcall (VN tb2) rounds 6 70 p261 = some r261 := by kernel_rfl
theorem s261 : Spec Go.Proofs.Tryz.prog 70 p261 r261 := fact tk2 g261
def p262 : List PA := [.a [(y 4), (i 0), (i 0), e, (l [[(i 9)]]), e, e, e, e], .c e]
def r262 : List RA := [.a [.c (y 4), .c (i 0), .c (i 0), .s 156 11 [], .s 2 1 [[(i 9)]], .s 212 11 [], .s 34 5 [], .s 92 5 [], .s 32 3 []], .c (.c (i 0))]
theorem g262 : vcall (VN tb2) rounds 6 157 p262 = some r262 := by kernel_rfl
theorem s262 : Spec Go.Proofs.Tryz.prog 157 p262 r262 := fact tk2 g262
def p270 : List PA := [.a [(y 4), (i 0), (i 0), e, (l [[(i 9)]]), e, e, e, e], .c (l [[(i 1), e]]), .c (l [[(i 1), e]])]
def r270 : List RA := [.c (.c bf), .c (.c (i 0))]
theorem g270 : vcall (VN tb2) rounds 6 108 p270 = some r270 := by kernel_rfl
theorem s270 : Spec Go.Proofs.Tryz.prog 108 p270 r270 := fact tk2 g270
def p271 : List PA := [.a [(y 6), (i 0), (i 0), e, e, e, e, m34, e], .c (l [[(i 1), e]]), .c e]
def r271 : List RA := [.c (.c bf), .c (.c (i 0))]
theorem g271 : vcall (VN tb2) rounds 6 108 p271 = some r271 := by kernel_rfl
theorem s271 : Spec Go.Proofs.Tryz.prog 108 p271 r271 := fact tk2 g271
def p276 : List PA := [.a [(y 2), (i 0), (i 0), e, (l [[(i (-9223372036854775808))]]), e, e, e, e], .c (l [[(i 1), e]]), .c (l [[(i 1), e]])]
def r276 : List RA := [.c (.c bf), .c (.c (i 0))]
theorem g276 : vcall (VN tb2) rounds 6 108 p276 = some r276 := by kernel_rfl
theorem s276 : Spec Go.Proofs.Tryz.prog 108 p276 r276 := fact tk2 g276
def tb3 : List (FuncId × List PA × List RA) := [(135, p15, r15), (135, p19, r19), (135, p23, r23), (219, p49, r49), (9, p75, r75), (102, p83, r83), (108, p104, r104), (157, p106, r106), (157, p107, r107), (157, p108, r108), (157, p109, r109), (108, p115, r115), (110, p117, r117), (157, p118, r118), (108, p124, r124), (108, p126, r126), (108, p128, r128), (108, p129, r129), (16, p139, r139), (18, p141, r141), (157, p144, r144), (108, p150, r150), (70, p155, r155), (157, p156, r156), (108, p162, r162), (108, p164, r164), (110, p169, r169), (157, p170, r170), (108, p176, r176), (108, p178, r178), (110, p182, r182), (157, p183, r183), (108, p189, r189), (108, p191, r191), (70, p194, r194), (108, p201, r201), (108, p203, r203), (70, p207, r207), (157, p210, r210), (108, p216, r216), (108, p218, r218), (110, p221, r221), (157, p222, r222), (108, p228, r228), (108, p230, r230), (70, p233, r233), (157, p235, r235), (108, p242, r242), (108, p244, r244), (110, p248, r248), (157, p249, r249), (108, p257, r257), (108, p258, r258), (70, p261, r261), (157, p262, r262), (108, p270, r270), (108, p271, r271), (108, p276, r276)] ++ tb2
theorem tk3 : TOK Go.Proofs.Tryz.prog tb3 := TOK.app (l := [(135, p15, r15), (135, p19, r19), (135, p23, r23), (219, p49, r49), (9, p75, r75), (102, p83, r83), (108, p104, r104), (157, p106, r106), (157, p107, r107), (157, p108, r108), (157, p109, r109), (108, p115, r115), (110, p117, r117), (157, p118, r118), (108, p124, r124), (108, p126, r126), (108, p128, r128), (108, p129, r129), (16, p139, r139), (18, p141, r141), (157, p144, r144), (108, p150, r150), (70, p155, r155), (157, p156, r156), (108, p162, r162), (108, p164, r164), (110, p169, r169), (157, p170, r170), (108, p176, r176), (108, p178, r178), (110, p182, r182), (157, p183, r183), (108, p189, r189), (108, p191, r191), (70, p194, r194), (108, p201, r201), (108, p203, r203), (70, p207, r207), (157, p210, r210), (108, p216, r216), (108, p218, r218), (110, p221, r221), (157, p222, r222), (108, p228, r228), (108, p230, r230), (70, p233, r233), (157, p235, r235), (108, p242, r242), (108, p244, r244), (110, p248, r248), (157, p249, r249), (108, p257, r257), (108, p258, r258), (70, p261, r261), (157, p262, r262), (108, p270, r270), (108, p271, r271), (108, p276, r276)]) ⟨s15, s19, s23, s49, s75, s83, s104, s106, s107, s108, s109, s115, s117, s118, s124, s126, s128, s129, s139, s141, s144, s150, s155, s156, s162, s164, s169, s170, s176, s178, s182, s183, s189, s191, s194, s201, s203, s207, s210, s216, s218, s221, s222, s228, s230, s233, s235, s242, s244, s248, s249, s257, s258, s261, s262, s270, s271, s276, trivial⟩ tk2
def p50 : List PA := [.c (s [115, 101, 108, 101, 99, 116, 32, 99, 111, 117, 110, 116, 40, 42, 41, 32, 102, 114, 111, 109, 32, 97, 32, 119, 105, 110, 100, 111, 119, 32, 116, 117, 109, 98, 108, 101, 32, 53])]
def r50 : List RA := [.c (.c (l [[(y 2), (s [115, 101, 108, 101, 99, 116]), (i 0)], [(y 2), (s [99, 111, 117, 110, 116]), (i 7)], [(y 3), (s [40]), (i 12)], [(y 3), (s [42]), (i 13)], [(y 3), (s [41]), (i 14)], [(y 2), (s [102, 114, 111, 109]), (i 16)], [(y 2), (s [97]), (i 21)], [(y 2), (s [119, 105, 110, 100, 111, 119]), (i 23)], [(y 2), (s [116, 117, 109, 98, 108, 101]), (i 30)], [(y 1), (s [53]), (i 37)]])), .c (.c (i 38)), .c (.c (i 0))]
theorem g50 : vcall (VN tb3) rounds 6 86 p50 = some r50 := by kernel_rfl
theorem s50 : Spec Go.Proofs.Tryz.prog 86 p50 r50 := fact tk3 g50
def p63 : List PA := [.c (s [53])]
def r63 : List RA := [.c (.c (i 5)), .c (.c (i 0))]
theorem g63 : vcall (VN tb3) rounds 6 172 p63 = some r63 := by kernel_rfl
theorem s63 : Spec Go.Proofs.Tryz.prog 172 p63 r63 := fact tk3 g63
def p101 : List PA := [.a [(y 1), e, (l [[(i 0)]]), bf, e, (y 1), (i 5), (i 0), bf, (y 1), m3, m4, m5, m6]]
def r101 : List RA := [.c (.c (i 0))]
theorem g101 : vcall (VN tb3) rounds 6 58 p101 = some r101 := by kernel_rfl
theorem s101 : Spec Go.Proofs.Tryz.prog 58 p101 r101 := fact tk3 g101
def p112 : List PA := [.a [(y 1), e, (l [[(i 0)]]), bf, e, (y 1), (i 5), (i 0), bf, (y 1), m3, m4, m8, m6]]
def r112 : List RA := [.c (.c (i 0))]
theorem g112 : vcall (VN tb3) rounds 6 58 p112 = some r112 := by kernel_rfl
theorem s112 : Spec Go.Proofs.Tryz.prog 58 p112 r112 := fact tk3 g112
def p121 : List PA := [.a [(y 1), e, (l [[(i 0)]]), bf, e, (y 1), (i 5), (i 0), bf, (y 1), m3, m4, m10, m11]]
def r121 : List RA := [.c (.c (i 0))]
theorem g121 : vcall (VN tb3) rounds 6 58 p121 = some r121 := by kernel_rfl
theorem s121 : Spec Go.Proofs.Tryz.prog 58 p121 r121 := fact tk3 g121
def p140 : List PA := [.a [(y 0), e, e, bf, e, (y 0), (i 0), (i 0), bf, (y 0), e, e, e, e], .c (i (-1))]
def r140 : List RA := [.c (.c (i 0)), .c (.c (i 8))]
theorem g140 : vcall (VN tb3) rounds 6 17 p140 = some r140 := by kernel_rfl
theorem s140 : Spec Go.Proofs.Tryz.prog 17 p140 r140 := fact tk3 g140
def p147 : List PA := [.a [(y 1), e, (l [[(i 0)]]), bf, e, (y 1), (i 5), (i 0), bf, (y 1), m3, m4, m14, m11]]
def r147 : List RA := [.c (.c (i 0))]
theorem g147 : vcall (VN tb3) rounds 6 58 p147 = some r147 := by kernel_rfl
theorem s147 : Spec Go.Proofs.Tryz.prog 58 p147 r147 := fact tk3 g147
def p159 : List PA := [.a [(y 1), e, (l [[(i 0)]]), bf, e, (y 1), (i 5), (i 0), bf, (y 1), m3, m4, m15, m6]]
def r159 : List RA := [.c (.c (i 0))]
theorem g159 : vcall (VN tb3) rounds 6 58 p159 = some r159 := by kernel_rfl
theorem s159 : Spec Go.Proofs.Tryz.prog 58 p159 r159 := fact tk3 g159
def p173 : List PA := [.a [(y 1), e, (l [[(i 0)]]), bf, e, (y 1), (i 5), (i 0), bf, (y 1), m3, m4, m17, m18]]
def r173 : List RA := [.c (.c (i 0))]
theorem g173 : vcall (VN tb3) rounds 6 58 p173 = some r173 := by kernel_rfl
theorem s173 : Spec Go.Proofs.Tryz.prog 58 p173 r173 := fact tk3 g173
def p185 : List PA := [.a [(y 1), e, (l [[(i 0)]]), bf, e, (y 1), (i 5), (i 0), bf, (y 1), m3, m4, m20, m21]]
def r185 : List RA := [.c (.c (i 0))]
theorem g185 : vcall (VN tb3) rounds 6 58 p185 = some r185 := by kernel_rfl
theorem s185 : Spec Go.Proofs.Tryz.prog 58 p185 r185 := fact tk3 g185
def p198 : List PA := [.a [(y 1), e, (l [[(i 0)]]), bf, e, (y 1), (i 5), (i 0), bf, (y 1), m3, m4, m22, m23]]
def r198 : List RA := [.c (.c (i 0))]
theorem g198 : vcall (VN tb3) rounds 6 58 p198 = some r198 := by kernel_rfl
theorem s198 : Spec Go.Proofs.Tryz.prog 58 p198 r198 := fact tk3 g198
def p212 : List PA := [.a [(y 1), e, (l [[(i 0)]]), bf, e, (y 1), (i 5), (i 0), bf, (y 1), m3, m4, m25, m6]]
def r212 : List RA := [.c (.c (i 0))]
theorem g212 : vcall (VN tb3) rounds 6 58 p212 = some r212 := by kernel_rfl
theorem s212 : Spec Go.Proofs.Tryz.prog 58 p212 r212 := fact tk3 g212
def p224 : List PA := [.a [(y 1), e, (l [[(i 0)]]), bf, e, (y 1), (i 5), (i 0), bf, (y 1), m3, m4, m26, m27]]
def r224 : List RA := [.c (.c (i 0))]
theorem g224 : vcall (VN tb3) rounds 6 58 p224 = some r224 := by kernel_rfl
theorem s224 : Spec Go.Proofs.Tryz.prog 58 p224 r224 := fact tk3 g224
def p238 : List PA := [.a [(y 1), e, (l [[(i 0)]]), bf, e, (y 1), (i 5), (i 0), bf, (y 1), m3, m4, m29, m6]]
def r238 : List RA := [.c (.c (i 0))]
theorem g238 : vcall (VN tb3) rounds 6 58 p238 = some r238 := by kernel_rfl
theorem s238 : Spec Go.Proofs.Tryz.prog 58 p238 r238 := fact tk3 g238
def p252 : List PA := [.a [(y 1), e, (l [[(i 0)]]), bf, e, (y 1), (i 5), (i 0), bf, (y 1), m3, m4, m31, m32]]
def r252 : List RA := [.c (.c (i 0))]
theorem g252 : vcall (VN tb3) rounds 6 58 p252 = some r252 := by kernel_rfl
theorem s252 : Spec Go.Proofs.Tryz.prog 58 p252 r252 := fact tk3 g252
def p265 : List PA := [.a [(y 1), e, (l [[(i 0)]]), bf, e, (y 1), (i 5), (i 0), bf, (y 1), m3, m4, m35, m6]]
def r265 : List RA := [.c (.c (i 0))]
theorem g265 : vcall (VN tb3) rounds 6 58 p265 = some r265 := by kernel_rfl
theorem s265 : Spec Go.Proofs.Tryz.prog 58 p265 r265 := fact tk3 g265
def tb4 : List (FuncId × List PA × List RA) := [(86, p50, r50), (172, p63, r63), (58, p101, r101), (58, p112, r112), (58, p121, r121), (17, p140, r140), (58, p147, r147), (58, p159, r159), (58, p173, r173), (58, p185, r185), (58, p198, r198), (58, p212, r212), (58, p224, r224), (58, p238, r238), (58, p252, r252), (58, p265, r265)] ++ tb3
theorem tk4 : TOK Go.Proofs.Tryz.prog tb4 := TOK.app (l := [(86, p50, r50), (172, p63, r63), (58, p101, r101), (58, p112, r112), (58, p121, r121), (17, p140, r140), (58, p147, r147), (58, p159, r159), (58, p173, r173), (58, p185, r185), (58, p198, r198), (58, p212, r212), (58, p224, r224), (58, p238, r238), (58, p252, r252), (58, p265, r265)]) ⟨s50, s63, s101, s112, s121, s140, s147, s159, s173, s185, s198, s212, s224, s238, s252, s265, trivial⟩ tk3
def p64 : List PA := [.c (s [115, 101, 108, 101, 99, 116, 32, 99, 111, 117, 110, 116, 40, 42, 41, 32, 102, 114, 111, 109, 32, 97, 32, 119, 105, 110, 100, 111, 119, 32, 116, 117, 109, 98, 108, 101, 32, 53])]
def r64 : List RA := [.a [.c (y 1), .c e, .c (l [[(i 0)]]), .c bf, .c e, .c (y 1), .c (i 5), .c (i 0), .c bf, .c (y 1)], .c (.c (i 38)), .c (.c (i 0))]
theorem g64 : vcall (VN tb4) rounds 6 40 p64 = some r64 := by kernel_rfl
theorem s64 : Spec Go.Proofs.Tryz.prog 40 p64 r64 := fact tk4 g64
def p110 : List PA := [.a [(y 1), e, (l [[(i 0)]]), bf, e, (y 1), (i 5), (i 0), bf, (y 1), m3, m4, m5, m6], .c (i 0)]
def r110 : List RA := [.a [.c (y 1), .c e, .c (l [[(i 0)]]), .c bf, .c e, .c (y 1), .c (i 5), .c (i 0), .c bf, .c (y 1), .c m3, .c m4, .c m8, .c m6], .c (.c (i 0))]
theorem g110 : vcall (VN tb4) rounds 6 11 p110 = some r110 := by kernel_rfl
theorem s110 : Spec Go.Proofs.Tryz.prog 11 p110 r110 := fact tk4 g110
def p119 : List PA := [.a [(y 1), e, (l [[(i 0)]]), bf, e, (y 1), (i 5), (i 0), bf, (y 1), m3, m4, m8, m6], .c (i 0)]
def r119 : List RA := [.a [.c (y 1), .c e, .c (l [[(i 0)]]), .c bf, .c e, .c (y 1), .c (i 5), .c (i 0), .c bf, .c (y 1), .c m3, .c m4, .c m10, .c m11], .c (.c (i 0))]
theorem g119 : vcall (VN tb4) rounds 6 11 p119 = some r119 := by kernel_rfl
theorem s119 : Spec Go.Proofs.Tryz.prog 11 p119 r119 := fact tk4 g119
def p130 : List PA := [.a [(y 1), e, (l [[(i 0)]]), bf, e, (y 1), (i 5), (i 0), bf, (y 1), m3, m4, m10, m11]]
def r130 : List RA := [.c (.c (l [[(i 0)], [(i 1)]])), .c (.c (i 0))]
theorem g130 : vcall (VN tb4) rounds 6 16 p130 = some r130 := by kernel_rfl
theorem s130 : Spec Go.Proofs.Tryz.prog 16 p130 r130 := fact tk4 g130
def p142 : List PA := [.a [(y 1), e, (l [[(i 0)]]), bf, e, (y 1), (i 5), (i 0), bf, (y 1), m3, m4, m10, m11]]
def r142 : List RA := [.a [.c (i 1), .c (i 0), .c (i 1)], .c (.c (i 0))]
theorem g142 : vcall (VN tb4) rounds 6 18 p142 = some r142 := by kernel_rfl
theorem s142 : Spec Go.Proofs.Tryz.prog 18 p142 r142 := fact tk4 g142
def p145 : List PA := [.a [(y 1), e, (l [[(i 0)]]), bf, e, (y 1), (i 5), (i 0), bf, (y 1), m3, m4, m10, m11], .c (i 0)]
def r145 : List RA := [.a [.c (y 1), .c e, .c (l [[(i 0)]]), .c bf, .c e, .c (y 1), .c (i 5), .c (i 0), .c bf, .c (y 1), .c m3, .c m4, .c m14, .c m11], .c (.c (i 0))]
theorem g145 : vcall (VN tb4) rounds 6 11 p145 = some r145 := by kernel_rfl
theorem s145 : Spec Go.Proofs.Tryz.prog 11 p145 r145 := fact tk4 g145
def p153 : List PA := [.a [(y 1), e, (l [[(i 0)]]), bf, e, (y 1), (i 5), (i 0), bf, (y 1), m3, m4, m14, m11]]
def r153 : List RA := [.c (.c (l [[(i 1)]])), .c (.c (i 0))]
theorem g153 : vcall (VN tb4) rounds 6 16 p153 = some r153 := by kernel_rfl
theorem s153 : Spec Go.Proofs.Tryz.prog 16 p153 r153 := fact tk4 g153
def p157 : List PA := [.a [(y 1), e, (l [[(i 0)]]), bf, e, (y 1), (i 5), (i 0), bf, (y 1), m3, m4, m14, m11], .c (i 1)]
def r157 : List RA := [.a [.c (y 1), .c e, .c (l [[(i 0)]]), .c bf, .c e, .c (y 1), .c (i 5), .c (i 0), .c bf, .c (y 1), .c m3, .c m4, .c m15, .c m6], .c (.c (i 0))]
theorem g157 : vcall (VN tb4) rounds 6 11 p157 = some r157 := by kernel_rfl
theorem s157 : Spec Go.Proofs.Tryz.prog 11 p157 r157 := fact tk4 g157
def p166 : List PA := [.a [(y 1), e, (l [[(i 0)]]), bf, e, (y 1), (i 5), (i 0), bf, (y 1), m3, m4, m15, m6]]
def r166 : List RA := [.c (.c (l [[(i 0)], [(i 1)]])), .c (.c (i 0))]
theorem g166 : vcall (VN tb4) rounds 6 16 p166 = some r166 := by kernel_rfl
theorem s166 : Spec Go.Proofs.Tryz.prog 16 p166 r166 := fact tk4 g166
def p171 : List PA := [.a [(y 1), e, (l [[(i 0)]]), bf, e, (y 1), (i 5), (i 0), bf, (y 1), m3, m4, m15, m6], .c (i 0)]
def r171 : List RA := [.a [.c (y 1), .c e, .c (l [[(i 0)]]), .c bf, .c e, .c (y 1), .c (i 5), .c (i 0), .c bf, .c (y 1), .c m3, .c m4, .c m17, .c m18], .c (.c (i 0))]
theorem g171 : vcall (VN tb4) rounds 6 11 p171 = some r171 := by kernel_rfl
theorem s171 : Spec Go.Proofs.Tryz.prog 11 p171 r171 := fact tk4 g171
def p180 : List PA := [.a [(y 1), e, (l [[(i 0)]]), bf, e, (y 1), (i 5), (i 0), bf, (y 1), m3, m4, m17, m18]]
def r180 : List RA := [.c (.c (l [[(i 1)]])), .c (.c (i 0))]
theorem g180 : vcall (VN tb4) rounds 6 16 p180 = some r180 := by kernel_rfl
theorem s180 : Spec Go.Proofs.Tryz.prog 16 p180 r180 := fact tk4 g180
end Tn.En
