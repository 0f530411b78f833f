import Derived.Test.YtcignakdmepfmaaGreatDoorEn3
/- Closed facts of one run, each by the kernel. -/
set_option linter.unusedVariables false
namespace Tn.En
open Go Go.Abs Tn
def p184 : List PA := [.a [(y 1), e, (l [[(i 0)]]), bf, e, (y 1), (i 5), (i 0), bf, (y 1), m3, m4, m17, m18], .c (i 1)]
def r184 : List RA := [.a [.c (y 1), .c e, .c (l [[(i 0)]]), .c bf, .c e, .c (y 1), .c (i 5), .c (i 0), .c bf, .c (y 1), .c m3, .c m4, .c m20, .c m21], .c (.c (i 0))]
theorem g184 : vcall (VN tb4) rounds 6 11 p184 = some r184 := by kernel_rfl
theorem s184 : Spec Go.Proofs.Tryz.prog 11 p184 r184 := fact tk4 g184
def p192 : List PA := [.a [(y 1), e, (l [[(i 0)]]), bf, e, (y 1), (i 5), (i 0), bf, (y 1), m3, m4, m20, m21]]
def r192 : List RA := [.c (.c (l [[(i 1)], [(i 2)]])), .c (.c (i 0))]
theorem g192 : vcall (VN tb4) rounds 6 16 p192 = some r192 := by kernel_rfl
theorem s192 : Spec Go.Proofs.Tryz.prog 16 p192 r192 := fact tk4 g192
def p196 : List PA := [.a [(y 1), e, (l [[(i 0)]]), bf, e, (y 1), (i 5), (i 0), bf, (y 1), m3, m4, m20, m21], .c (i 1)]
def r196 : List RA := [.a [.c (y 1), .c e, .c (l [[(i 0)]]), .c bf, .c e, .c (y 1), .c (i 5), .c (i 0), .c bf, .c (y 1), .c m3, .c m4, .c m22, .c m23], .c (.c (i 0))]
theorem g196 : vcall (VN tb4) rounds 6 11 p196 = some r196 := by kernel_rfl
theorem s196 : Spec Go.Proofs.Tryz.prog 11 p196 r196 := fact tk4 g196
def p205 : List PA := [.a [(y 1), e, (l [[(i 0)]]), bf, e, (y 1), (i 5), (i 0), bf, (y 1), m3, m4, m22, m23]]
def r205 : List RA := [.c (.c (l [[(i 2)]])), .c (.c (i 0))]
theorem g205 : vcall (VN tb4) rounds 6 16 p205 = some r205 := by kernel_rfl
theorem s205 : Spec Go.Proofs.Tryz.prog 16 p205 r205 := fact tk4 g205
def p211 : List PA := [.a [(y 1), e, (l [[(i 0)]]), bf, e, (y 1), (i 5), (i 0), bf, (y 1), m3, m4, m22, m23], .c (i 2)]
def r211 : List RA := [.a [.c (y 1), .c e, .c (l [[(i 0)]]), .c bf, .c e, .c (y 1), .c (i 5), .c (i 0), .c bf, .c (y 1), .c m3, .c m4, .c m25, .c m6], .c (.c (i 0))]
theorem g211 : vcall (VN tb4) rounds 6 11 p211 = some r211 := by kernel_rfl
theorem s211 : Spec Go.Proofs.Tryz.prog 11 p211 r211 := fact tk4 g211
def p219 : List PA := [.a [(y 1), e, (l [[(i 0)]]), bf, e, (y 1), (i 5), (i 0), bf, (y 1), m3, m4, m25, m6]]
def r219 : List RA := [.c (.c (l [[(i 1)]])), .c (.c (i 0))]
theorem g219 : vcall (VN tb4) rounds 6 16 p219 = some r219 := by kernel_rfl
theorem s219 : Spec Go.Proofs.Tryz.prog 16 p219 r219 := fact tk4 g219
def p223 : List PA := [.a [(y 1), e, (l [[(i 0)]]), bf, e, (y 1), (i 5), (i 0), bf, (y 1), m3, m4, m25, m6], .c (i 1)]
def r223 : List RA := [.a [.c (y 1), .c e, .c (l [[(i 0)]]), .c bf, .c e, .c (y 1), .c (i 5), .c (i 0), .c bf, .c (y 1), .c m3, .c m4, .c m26, .c m27], .c (.c (i 0))]
theorem g223 : vcall (VN tb4) rounds 6 11 p223 = some r223 := by kernel_rfl
theorem s223 : Spec Go.Proofs.Tryz.prog 11 p223 r223 := fact tk4 g223
def p231 : List PA := [.a [(y 1), e, (l [[(i 0)]]), bf, e, (y 1), (i 5), (i 0), bf, (y 1), m3, m4, m26, m27]]
def r231 : List RA := [.c (.c (l [[(i 2)]])), .c (.c (i 0))]
theorem g231 : vcall (VN tb4) rounds 6 16 p231 = some r231 := by kernel_rfl
theorem s231 : Spec Go.Proofs.Tryz.prog 16 p231 r231 := fact tk4 g231
def p236 : List PA := [.a [(y 1), e, (l [[(i 0)]]), bf, e, (y 1), (i 5), (i 0), bf, (y 1), m3, m4, m26, m27], .c (i 2)]
def r236 : List RA := [.a [.c (y 1), .c e, .c (l [[(i 0)]]), .c bf, .c e, .c (y 1), .c (i 5), .c (i 0), .c bf, .c (y 1), .c m3, .c m4, .c m29, .c m6], .c (.c (i 0))]
theorem g236 : vcall (VN tb4) rounds 6 11 p236 = some r236 := by kernel_rfl
theorem s236 : Spec Go.Proofs.Tryz.prog 11 p236 r236 := fact tk4 g236
def p245 : List PA := [.a [(y 1), e, (l [[(i 0)]]), bf, e, (y 1), (i 5), (i 0), bf, (y 1), m3, m4, m29, m6]]
def r245 : List RA := [.c (.c (l [[(i 2)]])), .c (.c (i 0))]
theorem g245 : vcall (VN tb4) rounds 6 16 p245 = some r245 := by kernel_rfl
theorem s245 : Spec Go.Proofs.Tryz.prog 16 p245 r245 := fact tk4 g245
def p250 : List PA := [.a [(y 1), e, (l [[(i 0)]]), bf, e, (y 1), (i 5), (i 0), bf, (y 1), m3, m4, m29, m6], .c (i 2)]
def r250 : List RA := [.a [.c (y 1), .c e, .c (l [[(i 0)]]), .c bf, .c e, .c (y 1), .c (i 5), .c (i 0), .c bf, .c (y 1), .c m3, .c m4, .c m31, .c m32], .c (.c (i 0))]
theorem g250 : vcall (VN tb4) rounds 6 11 p250 = some r250 := by kernel_rfl
theorem s250 : Spec Go.Proofs.Tryz.prog 11 p250 r250 := fact tk4 g250
def p259 : List PA := [.a [(y 1), e, (l [[(i 0)]]), bf, e, (y 1), (i 5), (i 0), bf, (y 1), m3, m4, m31, m32]]
def r259 : List RA := [.c (.c (l [[(i 3)]])), .c (.c (i 0))]
theorem g259 : vcall (VN tb4) rounds 6 16 p259 = some r259 := by kernel_rfl
theorem s259 : Spec Go.Proofs.Tryz.prog 16 p259 r259 := fact tk4 g259
def p263 : List PA := [.a [(y 1), e, (l [[(i 0)]]), bf, e, (y 1), (i 5), (i 0), bf, (y 1), m3, m4, m31, m32], .c (i 3)]
def r263 : List RA := [.a [.c (y 1), .c e, .c (l [[(i 0)]]), .c bf, .c e, .c (y 1), .c (i 5), .c (i 0), .c bf, .c (y 1), .c m3, .c m4, .c m35, .c m6], .c (.c (i 0))]
theorem g263 : vcall (VN tb4) rounds 6 11 p263 = some r263 := by kernel_rfl
theorem s263 : Spec Go.Proofs.Tryz.prog 11 p263 r263 := fact tk4 g263
def p272 : List PA := [.a [(y 1), e, (l [[(i 0)]]), bf, e, (y 1), (i 5), (i 0), bf, (y 1), m3, m4, m35, m6]]
def r272 : List RA := [.c (.c e), .c (.c (i 0))]
theorem g272 : vcall (VN tb4) rounds 6 16 p272 = some r272 := by kernel_rfl
theorem s272 : Spec Go.Proofs.Tryz.prog 16 p272 r272 := fact tk4 g272
def p274 : List PA := [.a [(y 1), e, (l [[(i 0)]]), bf, e, (y 1), (i 5), (i 0), bf, (y 1), m3, m4, m35, m6]]
def r274 : List RA := [.a [.c (i 0), .c (i 0), .c (i 0)], .c (.c (i 0))]
theorem g274 : vcall (VN tb4) rounds 6 18 p274 = some r274 := by kernel_rfl
theorem s274 : Spec Go.Proofs.Tryz.prog 18 p274 r274 := fact tk4 g274
def p278 : List PA := [.a [(y 1), e, (l [[(i 0)]]), bf, e, (y 1), (i 5), (i 0), bf, (y 1), m3, m4, m5, m6]]
def r278 : List RA := [.c (.c (l [[(i 0)]])), .c (.c (i 0))]
theorem g278 : vcall (VN tb4) rounds 6 16 p278 = some r278 := by kernel_rfl
theorem s278 : Spec Go.Proofs.Tryz.prog 16 p278 r278 := fact tk4 g278
def p279 : List PA := [.a [(y 1), e, (l [[(i 0)]]), bf, e, (y 1), (i 5), (i 0), bf, (y 1), m3, m4, m5, m6]]
def r279 : List RA := [.a [.c (i 2), .c (i 0), .c (i 0)], .c (.c (i 0))]
theorem g279 : vcall (VN tb4) rounds 6 18 p279 = some r279 := by kernel_rfl
theorem s279 : Spec Go.Proofs.Tryz.prog 18 p279 r279 := fact tk4 g279
def p280 : List PA := [.a [(y 1), e, (l [[(i 0)]]), bf, e, (y 1), (i 5), (i 0), bf, (y 1), m3, m4, m8, m6]]
def r280 : List RA := [.a [.c (i 1), .c (i 1), .c (i 0)], .c (.c (i 0))]
theorem g280 : vcall (VN tb4) rounds 6 18 p280 = some r280 := by kernel_rfl
theorem s280 : Spec Go.Proofs.Tryz.prog 18 p280 r280 := fact tk4 g280
def tb5 : List (FuncId × List PA × List RA) := [(40, p64, r64), (11, p110, r110), (11, p119, r119), (16, p130, r130), (18, p142, r142), (11, p145, r145), (16, p153, r153), (11, p157, r157), (16, p166, r166), (11, p171, r171), (16, p180, r180), (11, p184, r184), (16, p192, r192), (11, p196, r196), (16, p205, r205), (11, p211, r211), (16, p219, r219), (11, p223, r223), (16, p231, r231), (11, p236, r236), (16, p245, r245), (11, p250, r250), (16, p259, r259), (11, p263, r263), (16, p272, r272), (18, p274, r274), (16, p278, r278), (18, p279, r279), (18, p280, r280)] ++ tb4
theorem tk5 : TOK Go.Proofs.Tryz.prog tb5 := TOK.app (l := [(40, p64, r64), (11, p110, r110), (11, p119, r119), (16, p130, r130), (18, p142, r142), (11, p145, r145), (16, p153, r153), (11, p157, r157), (16, p166, r166), (11, p171, r171), (16, p180, r180), (11, p184, r184), (16, p192, r192), (11, p196, r196), (16, p205, r205), (11, p211, r211), (16, p219, r219), (11, p223, r223), (16, p231, r231), (11, p236, r236), (16, p245, r245), (11, p250, r250), (16, p259, r259), (11, p263, r263), (16, p272, r272), (18, p274, r274), (16, p278, r278), (18, p279, r279), (18, p280, r280)]) ⟨s64, s110, s119, s130, s142, s145, s153, s157, s166, s171, s180, s184, s192, s196, s205, s211, s219, s223, s231, s236, s245, s250, s259, s263, s272, s274, s278, s279, s280, trivial⟩ tk4
def p66 : List PA := [.c (s [115, 101, 108, 101, 99, 116, 32, 99, 111, 117, 110, 116, 40, 42, 41, 32, 102, 114, 111, 109, 32, 97, 32, 119, 105, 110, 100, 111, 119, 32, 116, 117, 109, 98, 108, 101, 32, 53])]
def r66 : List RA := [.a [.c (y 1), .c e, .c (l [[(i 0)]]), .c bf, .c e, .c (y 1), .c (i 5), .c (i 0), .c bf, .c (y 1)], .c (.c (i 38)), .c (.c (i 0))]
theorem g66 : vcall (VN tb5) rounds 6 8 p66 = some r66 := by kernel_rfl
theorem s66 : Spec Go.Proofs.Tryz.prog 8 p66 r66 := fact tk5 g66
def p131 : List PA := [.a [(y 1), e, (l [[(i 0)]]), bf, e, (y 1), (i 5), (i 0), bf, (y 1), m3, m4, m10, m11], .c (i 0)]
def r131 : List RA := [.c (.c (i 0)), .c (.c (i 0))]
theorem g131 : vcall (VN tb5) rounds 6 17 p131 = some r131 := by kernel_rfl
theorem s131 : Spec Go.Proofs.Tryz.prog 17 p131 r131 := fact tk5 g131
def p132 : List PA := [.a [(y 1), e, (l [[(i 0)]]), bf, e, (y 1), (i 5), (i 0), bf, (y 1), m3, m4, m10, m11], .c (i 1)]
def r132 : List RA := [.c (.c (i 1)), .c (.c (i 0))]
theorem g132 : vcall (VN tb5) rounds 6 17 p132 = some r132 := by kernel_rfl
theorem s132 : Spec Go.Proofs.Tryz.prog 17 p132 r132 := fact tk5 g132
def p133 : List PA := [.a [(y 1), e, (l [[(i 0)]]), bf, e, (y 1), (i 5), (i 0), bf, (y 1), m3, m4, m10, m11], .c (i 2)]
def r133 : List RA := [.c (.c (i 0)), .c (.c (i 0))]
theorem g133 : vcall (VN tb5) rounds 6 17 p133 = some r133 := by kernel_rfl
theorem s133 : Spec Go.Proofs.Tryz.prog 17 p133 r133 := fact tk5 g133
def p134 : List PA := [.a [(y 1), e, (l [[(i 0)]]), bf, e, (y 1), (i 5), (i 0), bf, (y 1), m3, m4, m10, m11], .c (i 4)]
def r134 : List RA := [.c (.c (i 0)), .c (.c (i 0))]
theorem g134 : vcall (VN tb5) rounds 6 17 p134 = some r134 := by kernel_rfl
theorem s134 : Spec Go.Proofs.Tryz.prog 17 p134 r134 := fact tk5 g134
def p135 : List PA := [.a [(y 1), e, (l [[(i 0)]]), bf, e, (y 1), (i 5), (i 0), bf, (y 1), m3, m4, m10, m11], .c (i 5)]
def r135 : List RA := [.c (.c (i 0)), .c (.c (i 51))]
theorem g135 : vcall (VN tb5) rounds 6 17 p135 = some r135 := by kernel_rfl
theorem s135 : Spec Go.Proofs.Tryz.prog 17 p135 r135 := fact tk5 g135
def p136 : List PA := [.a [(y 1), e, (l [[(i 0)]]), bf, e, (y 1), (i 5), (i 0), bf, (y 1), m3, m4, m10, m11], .c (i (-1))]
def r136 : List RA := [.c (.c (i 0)), .c (.c (i 51))]
theorem g136 : vcall (VN tb5) rounds 6 17 p136 = some r136 := by kernel_rfl
theorem s136 : Spec Go.Proofs.Tryz.prog 17 p136 r136 := fact tk5 g136
def p154 : List PA := [.a [(y 1), e, (l [[(i 0)]]), bf, e, (y 1), (i 5), (i 0), bf, (y 1), m3, m4, m14, m11], .c (i 0)]
def r154 : List RA := [.c (.c (i 1)), .c (.c (i 0))]
theorem g154 : vcall (VN tb5) rounds 6 17 p154 = some r154 := by kernel_rfl
theorem s154 : Spec Go.Proofs.Tryz.prog 17 p154 r154 := fact tk5 g154
def p167 : List PA := [.a [(y 1), e, (l [[(i 0)]]), bf, e, (y 1), (i 5), (i 0), bf, (y 1), m3, m4, m15, m6], .c (i 0)]
def r167 : List RA := [.c (.c (i 0)), .c (.c (i 0))]
theorem g167 : vcall (VN tb5) rounds 6 17 p167 = some r167 := by kernel_rfl
theorem s167 : Spec Go.Proofs.Tryz.prog 17 p167 r167 := fact tk5 g167
def p181 : List PA := [.a [(y 1), e, (l [[(i 0)]]), bf, e, (y 1), (i 5), (i 0), bf, (y 1), m3, m4, m17, m18], .c (i 0)]
def r181 : List RA := [.c (.c (i 1)), .c (.c (i 0))]
theorem g181 : vcall (VN tb5) rounds 6 17 p181 = some r181 := by kernel_rfl
theorem s181 : Spec Go.Proofs.Tryz.prog 17 p181 r181 := fact tk5 g181
def p193 : List PA := [.a [(y 1), e, (l [[(i 0)]]), bf, e, (y 1), (i 5), (i 0), bf, (y 1), m3, m4, m20, m21], .c (i 0)]
def r193 : List RA := [.c (.c (i 1)), .c (.c (i 0))]
theorem g193 : vcall (VN tb5) rounds 6 17 p193 = some r193 := by kernel_rfl
theorem s193 : Spec Go.Proofs.Tryz.prog 17 p193 r193 := fact tk5 g193
def p206 : List PA := [.a [(y 1), e, (l [[(i 0)]]), bf, e, (y 1), (i 5), (i 0), bf, (y 1), m3, m4, m22, m23], .c (i 0)]
def r206 : List RA := [.c (.c (i 2)), .c (.c (i 0))]
theorem g206 : vcall (VN tb5) rounds 6 17 p206 = some r206 := by kernel_rfl
theorem s206 : Spec Go.Proofs.Tryz.prog 17 p206 r206 := fact tk5 g206
def p220 : List PA := [.a [(y 1), e, (l [[(i 0)]]), bf, e, (y 1), (i 5), (i 0), bf, (y 1), m3, m4, m25, m6], .c (i 0)]
def r220 : List RA := [.c (.c (i 1)), .c (.c (i 0))]
theorem g220 : vcall (VN tb5) rounds 6 17 p220 = some r220 := by kernel_rfl
theorem s220 : Spec Go.Proofs.Tryz.prog 17 p220 r220 := fact tk5 g220
def p232 : List PA := [.a [(y 1), e, (l [[(i 0)]]), bf, e, (y 1), (i 5), (i 0), bf, (y 1), m3, m4, m26, m27], .c (i 0)]
def r232 : List RA := [.c (.c (i 2)), .c (.c (i 0))]
theorem g232 : vcall (VN tb5) rounds 6 17 p232 = some r232 := by kernel_rfl
theorem s232 : Spec Go.Proofs.Tryz.prog 17 p232 r232 := fact tk5 g232
def p246 : List PA := [.a [(y 1), e, (l [[(i 0)]]), bf, e, (y 1), (i 5), (i 0), bf, (y 1), m3, m4, m29, m6], .c (i 0)]
def r246 : List RA := [.c (.c (i 2)), .c (.c (i 0))]
theorem g246 : vcall (VN tb5) rounds 6 17 p246 = some r246 := by kernel_rfl
theorem s246 : Spec Go.Proofs.Tryz.prog 17 p246 r246 := fact tk5 g246
def p260 : List PA := [.a [(y 1), e, (l [[(i 0)]]), bf, e, (y 1), (i 5), (i 0), bf, (y 1), m3, m4, m31, m32], .c (i 0)]
def r260 : List RA := [.c (.c (i 3)), .c (.c (i 0))]
theorem g260 : vcall (VN tb5) rounds 6 17 p260 = some r260 := by kernel_rfl
theorem s260 : Spec Go.Proofs.Tryz.prog 17 p260 r260 := fact tk5 g260
def p273 : List PA := [.a [(y 1), e, (l [[(i 0)]]), bf, e, (y 1), (i 5), (i 0), bf, (y 1), m3, m4, m35, m6], .c (i 0)]
def r273 : List RA := [.c (.c (i 0)), .c (.c (i 6))]
theorem g273 : vcall (VN tb5) rounds 6 17 p273 = some r273 := by kernel_rfl
theorem s273 : Spec Go.Proofs.Tryz.prog 17 p273 r273 := fact tk5 g273
def tb6 : List (FuncId × List PA × List RA) := [(8, p66, r66), (17, p131, r131), (17, p132, r132), (17, p133, r133), (17, p134, r134), (17, p135, r135), (17, p136, r136), (17, p154, r154), (17, p167, r167), (17, p181, r181), (17, p193, r193), (17, p206, r206), (17, p220, r220), (17, p232, r232), (17, p246, r246), (17, p260, r260), (17, p273, r273)] ++ tb5
theorem tk6 : TOK Go.Proofs.Tryz.prog tb6 := TOK.app (l := [(8, p66, r66), (17, p131, r131), (17, p132, r132), (17, p133, r133), (17, p134, r134), (17, p135, r135), (17, p136, r136), (17, p154, r154), (17, p167, r167), (17, p181, r181), (17, p193, r193), (17, p206, r206), (17, p220, r220), (17, p232, r232), (17, p246, r246), (17, p260, r260), (17, p273, r273)]) ⟨s66, s131, s132, s133, s134, s135, s136, s154, s167, s181, s193, s206, s220, s232, s246, s260, s273, trivial⟩ tk5
def p76 : List PA := [.c (s [115, 101, 108, 101, 99, 116, 32, 99, 111, 117, 110, 116, 40, 42, 41, 32, 102, 114, 111, 109, 32, 97, 32, 119, 105, 110, 100, 111, 119, 32, 116, 117, 109, 98, 108, 101, 32, 53]), .c m2, .c (i 1), .c (i 1)]
def r76 : List RA := [.a [.c (y 1), .c e, .c (l [[(i 0)]]), .c bf, .c e, .c (y 1), .c (i 5), .c (i 0), .c bf, .c (y 1), .c m3, .c m4, .c m5, .c m6], .c (.c (i 38)), .c (.c (i 0))]
theorem g76 : vcall (VN tb6) rounds 6 13 p76 = some r76 := by kernel_rfl
theorem s76 : Spec Go.Proofs.Tryz.prog 13 p76 r76 := fact tk6 g76
def tb7 : List (FuncId × List PA × List RA) := [(13, p76, r76)] ++ tb6
theorem tk7 : TOK Go.Proofs.Tryz.prog tb7 := TOK.app (l := [(13, p76, r76)]) ⟨s76, trivial⟩ tk6
def p281 : List PA := []
def r281 : List RA := [.c (.c bt)]
theorem g281 : vcall (VN tb7) rounds 6 4 p281 = some r281 := by kernel_rfl
theorem s281 : Spec Go.Proofs.Tryz.prog 4 p281 r281 := fact tk7 g281
theorem law : Spec Go.Proofs.Tryz.prog 4 [] [.c (.c (.bool true))] := s281
end Tn.En
