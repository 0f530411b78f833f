import Derived.Test.YtcignakdmepfmaaGreatDoorBu6
/- Closed facts of one run, each by the kernel. -/
set_option linter.unusedVariables false
namespace Tn.Bu
open Go Go.Abs Tn
def p207 : List PA := [.a [(y 2), m1, (l [[(i 0)], [(i 1)]]), bt, e, (y 1), (i 5), (i 0), bt, (y 2)], .c m12, .c (i 2), .c (i 2)]
def r207 : List RA := [.a [.c (y 2), .c m1, .c (l [[(i 0)], [(i 1)]]), .c bt, .c e, .c (y 1), .c (i 5), .c (i 0), .c bt, .c (y 2), .c m5, .c m29, .c m14, .c m40], .c (.c (i 0))]
theorem g207 : vcall (VN tb2) rounds 6 9 p207 = some r207 := by kernel_rfl
theorem s207 : Spec Go.Proofs.Tryz.prog 9 p207 r207 := fact tk2 g207
def p208 : List PA := [.a [(y 2), m1, (l [[(i 0)], [(i 1)]]), bt, e, (y 1), (i 5), (i 0), bt, (y 2)], .c m12, .c (i 2), .c (i 3)]
def r208 : List RA := [.a [.c (y 2), .c m1, .c (l [[(i 0)], [(i 1)]]), .c bt, .c e, .c (y 1), .c (i 5), .c (i 0), .c bt, .c (y 2), .c m5, .c m6, .c m14, .c m8], .c (.c (i 0))]
theorem g208 : vcall (VN tb2) rounds 6 9 p208 = some r208 := by kernel_rfl
theorem s208 : Spec Go.Proofs.Tryz.prog 9 p208 r208 := fact tk2 g208
def p213 : List PA := [.a [(y 1), (i 0), (i 0), m9, e, e, m10, e, e], .c e, .c (l [[(i 3), e]])]
def r213 : List RA := [.c (.c bt), .c (.c (i 0))]
theorem g213 : vcall (VN tb2) rounds 6 108 p213 = some r213 := by kernel_rfl
theorem s213 : Spec Go.Proofs.Tryz.prog 108 p213 r213 := fact tk2 g213
def p215 : List PA := [.a [(y 1), (i 0), (i 0), m9, e, e, m10, e, e], .c (l [[(i 3), e]])]
def r215 : List RA := [.a [.c (y 1), .c (i 0), .c (i 0), .c e, .s 2 1 [], .s 212 11 [], .s 34 5 [[bt, (i 9223372036854775807), (i 0), (i 0), (i 0)]], .s 92 5 [], .s 32 3 []], .c (.s 59 2 [[(i 3), m13]]), .c (.c (i 0))]
theorem g215 : vcall (VN tb2) rounds 6 110 p215 = some r215 := by kernel_rfl
theorem s215 : Spec Go.Proofs.Tryz.prog 110 p215 r215 := fact tk2 g215
def p216 : List PA := [.a [(y 1), (i 0), (i 0), m9, e, e, m10, e, e], .c e]
def r216 : List RA := [.a [.c (y 1), .c (i 0), .c (i 0), .s 156 11 [[(i 0), (y 1), (i 1), (i 2), (i 3), (i 0), (i 0), (i 0), (i 0), (i 0), (i 0)]], .s 2 1 [], .s 212 11 [], .s 34 5 [[bt, (i 9223372036854775807), (i 0), (i 0), (i 0)]], .s 92 5 [], .s 32 3 []], .c (.c (i 0))]
theorem g216 : vcall (VN tb2) rounds 6 157 p216 = some r216 := by kernel_rfl
theorem s216 : Spec Go.Proofs.Tryz.prog 157 p216 r216 := fact tk2 g216
def p228 : List PA := [.a [(y 2), m1, (l [[(i 0)], [(i 1)]]), bt, e, (y 1), (i 5), (i 0), bt, (y 2)], .c m4, .c (i 0), .c (i 3)]
def r228 : List RA := [.a [.c (y 0), .c e, .c e, .c bf, .c e, .c (y 0), .c (i 0), .c (i 0), .c bf, .c (y 0), .c e, .c e, .c e, .c e], .c (.c (i 2))]
theorem g228 : vcall (VN tb2) rounds 6 9 p228 = some r228 := by kernel_rfl
theorem s228 : Spec Go.Proofs.Tryz.prog 9 p228 r228 := fact tk2 g228
def p230 : List PA := [.a [(y 2), m1, (l [[(i 0)], [(i 1)]]), bt, e, (y 1), (i 5), (i 0), bt, (y 2)], .c m4, .c (i 4), .c (i 3)]
def r230 : List RA := [.a [.c (y 0), .c e, .c e, .c bf, .c e, .c (y 0), .c (i 0), .c (i 0), .c bf, .c (y 0), .c e, .c e, .c e, .c e], .c (.c (i 2))]
theorem g230 : vcall (VN tb2) rounds 6 9 p230 = some r230 := by kernel_rfl
theorem s230 : Spec Go.Proofs.Tryz.prog 9 p230 r230 := fact tk2 g230
def p232 : List PA := [.a [(y 2), m1, (l [[(i 0)], [(i 1)]]), bt, e, (y 1), (i 5), (i 0), bt, (y 2)], .c m4, .c (i 1), .c (i 0)]
def r232 : List RA := [.a [.c (y 0), .c e, .c e, .c bf, .c e, .c (y 0), .c (i 0), .c (i 0), .c bf, .c (y 0), .c e, .c e, .c e, .c e], .c (.c (i 2))]
theorem g232 : vcall (VN tb2) rounds 6 9 p232 = some r232 := by kernel_rfl
theorem s232 : Spec Go.Proofs.Tryz.prog 9 p232 r232 := fact tk2 g232
def p234 : List PA := [.a [(y 2), m1, (l [[(i 0)], [(i 1)]]), bt, e, (y 1), (i 5), (i 0), bt, (y 2)], .c m4, .c (i 1), .c (i 9)]
def r234 : List RA := [.a [.c (y 0), .c e, .c e, .c bf, .c e, .c (y 0), .c (i 0), .c (i 0), .c bf, .c (y 0), .c e, .c e, .c e, .c e], .c (.c (i 2))]
theorem g234 : vcall (VN tb2) rounds 6 9 p234 = some r234 := by kernel_rfl
theorem s234 : Spec Go.Proofs.Tryz.prog 9 p234 r234 := fact tk2 g234
def p237 : List PA := [.c (s [])]
def r237 : List RA := [.a [.c (y 0), .c e, .c e, .c bf, .c e, .c (y 0), .c (i 0), .c (i 0), .c bf, .c (y 0)], .c (.c (i 0)), .c (.c (i 12))]
theorem g237 : vcall (VN tb2) rounds 6 8 p237 = some r237 := by kernel_rfl
theorem s237 : Spec Go.Proofs.Tryz.prog 8 p237 r237 := fact tk2 g237
def p243 : List PA := [.c (s [40, 42, 41, 32, 102, 114, 111, 109, 32, 97, 32, 119, 105, 110, 100, 111, 119, 32, 116, 117, 109, 98, 108, 101, 32, 53])]
def r243 : List RA := [.a [.c (y 3), .c (s [40]), .c (i 0)]]
theorem g243 : vcall (VN tb2) rounds 6 135 p243 = some r243 := by kernel_rfl
theorem s243 : Spec Go.Proofs.Tryz.prog 135 p243 r243 := fact tk2 g243
def p246 : List PA := [.c (s [42, 41, 32, 102, 114, 111, 109, 32, 97, 32, 119, 105, 110, 100, 111, 119, 32, 116, 117, 109, 98, 108, 101, 32, 53])]
def r246 : List RA := [.a [.c (y 3), .c (s [42]), .c (i 0)]]
theorem g246 : vcall (VN tb2) rounds 6 135 p246 = some r246 := by kernel_rfl
theorem s246 : Spec Go.Proofs.Tryz.prog 135 p246 r246 := fact tk2 g246
def p249 : List PA := [.c (s [41, 32, 102, 114, 111, 109, 32, 97, 32, 119, 105, 110, 100, 111, 119, 32, 116, 117, 109, 98, 108, 101, 32, 53])]
def r249 : List RA := [.a [.c (y 3), .c (s [41]), .c (i 0)]]
theorem g249 : vcall (VN tb2) rounds 6 135 p249 = some r249 := by kernel_rfl
theorem s249 : Spec Go.Proofs.Tryz.prog 135 p249 r249 := fact tk2 g249
def p268 : List PA := [.c (s [40, 42, 41, 32, 102, 114, 111, 109, 32, 97, 32, 102, 114, 111, 109])]
def r268 : List RA := [.a [.c (y 3), .c (s [40]), .c (i 0)]]
theorem g268 : vcall (VN tb2) rounds 6 135 p268 = some r268 := by kernel_rfl
theorem s268 : Spec Go.Proofs.Tryz.prog 135 p268 r268 := fact tk2 g268
def p270 : List PA := [.c (s [42, 41, 32, 102, 114, 111, 109, 32, 97, 32, 102, 114, 111, 109])]
def r270 : List RA := [.a [.c (y 3), .c (s [42]), .c (i 0)]]
theorem g270 : vcall (VN tb2) rounds 6 135 p270 = some r270 := by kernel_rfl
theorem s270 : Spec Go.Proofs.Tryz.prog 135 p270 r270 := fact tk2 g270
def p272 : List PA := [.c (s [41, 32, 102, 114, 111, 109, 32, 97, 32, 102, 114, 111, 109])]
def r272 : List RA := [.a [.c (y 3), .c (s [41]), .c (i 0)]]
theorem g272 : vcall (VN tb2) rounds 6 135 p272 = some r272 := by kernel_rfl
theorem s272 : Spec Go.Proofs.Tryz.prog 135 p272 r272 := fact tk2 g272
def p285 : List PA := [.a [(y 0), e, e, bf, e, (y 0), (i 0), (i 0), bf, (y 0), e, e, e, e]]
def r285 : List RA := [.c (.c bf), .c (.c (i 8))]
theorem g285 : vcall (VN tb2) rounds 6 10 p285 = some r285 := by kernel_rfl
theorem s285 : Spec Go.Proofs.Tryz.prog 10 p285 r285 := fact tk2 g285
def p286 : List PA := [.a [(y 0), e, e, bf, e, (y 0), (i 0), (i 0), bf, (y 0), e, e, e, e]]
def r286 : List RA := [.c (.c e), .c (.c (i 8))]
theorem g286 : vcall (VN tb2) rounds 6 12 p286 = some r286 := by kernel_rfl
theorem s286 : Spec Go.Proofs.Tryz.prog 12 p286 r286 := fact tk2 g286
def m42 : PV := l [[(y 1), (i 0), (i 0), e, e, e, e, e, e], [(y 2), (i 0), (i 0), e, (l [[(i (-9223372036854775808))]]), e, e, e, e], [(y 4), (i 0), (i 0), e, (l [[(i (-9223372036854775808))]]), e, e, e, e], [(y 6), (i 0), (i 0), e, e, e, e, e, e]]
def m43 : PV := l [[(i 1), e], [(i 1), e], [(i 1), e]]
def p293 : List PA := [.a [(y 1), e, (l [[(i 0)]]), bf, e, (y 1), (i 5), (i 0), bf, (y 1)], .c (l [[e]]), .c (i 1), .c (i 1)]
def r293 : List RA := [.a [.c (y 1), .c e, .c (l [[(i 0)]]), .c bf, .c e, .c (y 1), .c (i 5), .c (i 0), .c bf, .c (y 1), .c m17, .c m18, .c m42, .c m43], .c (.c (i 0))]
theorem g293 : vcall (VN tb2) rounds 6 9 p293 = some r293 := by kernel_rfl
theorem s293 : Spec Go.Proofs.Tryz.prog 9 p293 r293 := fact tk2 g293
def p299 : List PA := [.a [m17, m18]]
def r299 : List RA := [.c (.c (i 0))]
theorem g299 : vcall (VN tb2) rounds 6 102 p299 = some r299 := by kernel_rfl
theorem s299 : Spec Go.Proofs.Tryz.prog 102 p299 r299 := fact tk2 g299
def tb3 : List (FuncId × List PA × List RA) := [(135, p14, r14), (135, p21, r21), (219, p53, r53), (9, p101, r101), (151, p109, r109), (109, p125, r125), (109, p129, r129), (109, p133, r133), (109, p137, r137), (72, p141, r141), (72, p145, r145), (72, p149, r149), (72, p153, r153), (9, p158, r158), (9, p160, r160), (9, p162, r162), (9, p164, r164), (9, p166, r166), (9, p168, r168), (9, p170, r170), (9, p172, r172), (9, p174, r174), (9, p176, r176), (108, p180, r180), (157, p182, r182), (157, p183, r183), (157, p184, r184), (157, p185, r185), (157, p186, r186), (157, p187, r187), (157, p188, r188), (157, p189, r189), (157, p190, r190), (157, p191, r191), (9, p198, r198), (9, p199, r199), (9, p200, r200), (9, p201, r201), (9, p202, r202), (9, p203, r203), (9, p204, r204), (9, p205, r205), (9, p206, r206), (9, p207, r207), (9, p208, r208), (108, p213, r213), (110, p215, r215), (157, p216, r216), (9, p228, r228), (9, p230, r230), (9, p232, r232), (9, p234, r234), (8, p237, r237), (135, p243, r243), (135, p246, r246), (135, p249, r249), (135, p268, r268), (135, p270, r270), (135, p272, r272), (10, p285, r285), (12, p286, r286), (9, p293, r293), (102, p299, r299)] ++ tb2
theorem tk3 : TOK Go.Proofs.Tryz.prog tb3 := TOK.app (l := [(135, p14, r14), (135, p21, r21), (219, p53, r53), (9, p101, r101), (151, p109, r109), (109, p125, r125), (109, p129, r129), (109, p133, r133), (109, p137, r137), (72, p141, r141), (72, p145, r145), (72, p149, r149), (72, p153, r153), (9, p158, r158), (9, p160, r160), (9, p162, r162), (9, p164, r164), (9, p166, r166), (9, p168, r168), (9, p170, r170), (9, p172, r172), (9, p174, r174), (9, p176, r176), (108, p180, r180), (157, p182, r182), (157, p183, r183), (157, p184, r184), (157, p185, r185), (157, p186, r186), (157, p187, r187), (157, p188, r188), (157, p189, r189), (157, p190, r190), (157, p191, r191), (9, p198, r198), (9, p199, r199), (9, p200, r200), (9, p201, r201), (9, p202, r202), (9, p203, r203), (9, p204, r204), (9, p205, r205), (9, p206, r206), (9, p207, r207), (9, p208, r208), (108, p213, r213), (110, p215, r215), (157, p216, r216), (9, p228, r228), (9, p230, r230), (9, p232, r232), (9, p234, r234), (8, p237, r237), (135, p243, r243), (135, p246, r246), (135, p249, r249), (135, p268, r268), (135, p270, r270), (135, p272, r272), (10, p285, r285), (12, p286, r286), (9, p293, r293), (102, p299, r299)]) ⟨s14, s21, s53, s101, s109, s125, s129, s133, s137, s141, s145, s149, s153, s158, s160, s162, s164, s166, s168, s170, s172, s174, s176, s180, s182, s183, s184, s185, s186, s187, s188, s189, s190, s191, s198, s199, s200, s201, s202, s203, s204, s205, s206, s207, s208, s213, s215, s216, s228, s230, s232, s234, s237, s243, s246, s249, s268, s270, s272, s285, s286, s293, s299, trivial⟩ tk2
def m44 : PV := l [[(y 2), (s [115, 101, 108, 101, 99, 116]), (i 0)], [(y 2), (s [115, 117, 109]), (i 7)], [(y 3), (s [40]), (i 10)], [(y 2), (s [118]), (i 11)], [(y 3), (s [41]), (i 12)], [(y 2), (s [102, 114, 111, 109]), (i 14)], [(y 2), (s [97]), (i 19)], [(y 2), (s [106, 111, 105, 110]), (i 21)], [(y 2), (s [98]), (i 26)], [(y 2), (s [119, 105, 110, 100, 111, 119]), (i 28)], [(y 2), (s [116, 117, 109, 98, 108, 101]), (i 35)], [(y 1), (s [53]), (i 42)], [(y 2), (s [98, 121]), (i 44)], [(y 2), (s [107, 101, 121]), (i 47)], [(y 2), (s [108, 97, 116, 101]), (i 51)], [(y 2), (s [115, 105, 100, 101]), (i 56)]]
def p64 : List PA := [.c (s [115, 101, 108, 101, 99, 116, 32, 115, 117, 109, 40, 118, 41, 32, 102, 114, 111, 109, 32, 97, 32, 106, 111, 105, 110, 32, 98, 32, 119, 105, 110, 100, 111, 119, 32, 116, 117, 109, 98, 108, 101, 32, 53, 32, 98, 121, 32, 107, 101, 121, 32, 108, 97, 116, 101, 32, 115, 105, 100, 101])]
def r64 : List RA := [.c (.c m44), .c (.c (i 60)), .c (.c (i 0))]
theorem g64 : vcall (VN tb3) rounds 6 86 p64 = some r64 := by kernel_rfl
theorem s64 : Spec Go.Proofs.Tryz.prog 86 p64 r64 := fact tk3 g64
def p70 : List PA := [.c m44, .c (i 3)]
def r70 : List RA := [.c (.c m1), .c (.c (i 4)), .c (.c (i 0))]
theorem g70 : vcall (VN tb3) rounds 6 174 p70 = some r70 := by kernel_rfl
theorem s70 : Spec Go.Proofs.Tryz.prog 174 p70 r70 := fact tk3 g70
def p79 : List PA := [.c (s [53])]
def r79 : List RA := [.c (.c (i 5)), .c (.c (i 0))]
theorem g79 : vcall (VN tb3) rounds 6 172 p79 = some r79 := by kernel_rfl
theorem s79 : Spec Go.Proofs.Tryz.prog 172 p79 r79 := fact tk3 g79
def p110 : List PA := [.a [m5, m6]]
def r110 : List RA := [.c (.c (i 0))]
theorem g110 : vcall (VN tb3) rounds 6 102 p110 = some r110 := by kernel_rfl
theorem s110 : Spec Go.Proofs.Tryz.prog 102 p110 r110 := fact tk3 g110
def p238 : List PA := [.c (s []), .c e, .c (i 0), .c (i 0)]
def r238 : List RA := [.a [.c (y 0), .c e, .c e, .c bf, .c e, .c (y 0), .c (i 0), .c (i 0), .c bf, .c (y 0), .c e, .c e, .c e, .c e], .c (.c (i 0)), .c (.c (i 12))]
theorem g238 : vcall (VN tb3) rounds 6 13 p238 = some r238 := by kernel_rfl
theorem s238 : Spec Go.Proofs.Tryz.prog 13 p238 r238 := fact tk3 g238
def p255 : List PA := [.c (s [115, 101, 108, 101, 99, 116, 32, 99, 111, 117, 110, 116, 40, 42, 41, 32, 102, 114, 111, 109, 32, 97, 32, 119, 105, 110, 100, 111, 119, 32, 116, 117, 109, 98, 108, 101, 32, 53])]
def r255 : List RA := [.c (.c (l [[(y 2), (s [115, 101, 108, 101, 99, 116]), (i 0)], [(y 2), (s [99, 111, 117, 110, 116]), (i 7)], [(y 3), (s [40]), (i 12)], [(y 3), (s [42]), (i 13)], [(y 3), (s [41]), (i 14)], [(y 2), (s [102, 114, 111, 109]), (i 16)], [(y 2), (s [97]), (i 21)], [(y 2), (s [119, 105, 110, 100, 111, 119]), (i 23)], [(y 2), (s [116, 117, 109, 98, 108, 101]), (i 30)], [(y 1), (s [53]), (i 37)]])), .c (.c (i 38)), .c (.c (i 0))]
theorem g255 : vcall (VN tb3) rounds 6 86 p255 = some r255 := by kernel_rfl
theorem s255 : Spec Go.Proofs.Tryz.prog 86 p255 r255 := fact tk3 g255
def p276 : List PA := [.c (s [115, 101, 108, 101, 99, 116, 32, 99, 111, 117, 110, 116, 40, 42, 41, 32, 102, 114, 111, 109, 32, 97, 32, 102, 114, 111, 109])]
def r276 : List RA := [.c (.c (l [[(y 2), (s [115, 101, 108, 101, 99, 116]), (i 0)], [(y 2), (s [99, 111, 117, 110, 116]), (i 7)], [(y 3), (s [40]), (i 12)], [(y 3), (s [42]), (i 13)], [(y 3), (s [41]), (i 14)], [(y 2), (s [102, 114, 111, 109]), (i 16)], [(y 2), (s [97]), (i 21)], [(y 2), (s [102, 114, 111, 109]), (i 23)]])), .c (.c (i 27)), .c (.c (i 0))]
theorem g276 : vcall (VN tb3) rounds 6 86 p276 = some r276 := by kernel_rfl
theorem s276 : Spec Go.Proofs.Tryz.prog 86 p276 r276 := fact tk3 g276
def p311 : List PA := [.a [(y 1), e, (l [[(i 0)]]), bf, e, (y 1), (i 5), (i 0), bf, (y 1), m17, m18, m42, m43]]
def r311 : List RA := [.c (.c (i 0))]
theorem g311 : vcall (VN tb3) rounds 6 58 p311 = some r311 := by kernel_rfl
theorem s311 : Spec Go.Proofs.Tryz.prog 58 p311 r311 := fact tk3 g311
def tb4 : List (FuncId × List PA × List RA) := [(86, p64, r64), (174, p70, r70), (172, p79, r79), (102, p110, r110), (13, p238, r238), (86, p255, r255), (86, p276, r276), (58, p311, r311)] ++ tb3
theorem tk4 : TOK Go.Proofs.Tryz.prog tb4 := TOK.app (l := [(86, p64, r64), (174, p70, r70), (172, p79, r79), (102, p110, r110), (13, p238, r238), (86, p255, r255), (86, p276, r276), (58, p311, r311)]) ⟨s64, s70, s79, s110, s238, s255, s276, s311, trivial⟩ tk3
def p84 : List PA := [.c (s [115, 101, 108, 101, 99, 116, 32, 115, 117, 109, 40, 118, 41, 32, 102, 114, 111, 109, 32, 97, 32, 106, 111, 105, 110, 32, 98, 32, 119, 105, 110, 100, 111, 119, 32, 116, 117, 109, 98, 108, 101, 32, 53, 32, 98, 121, 32, 107, 101, 121, 32, 108, 97, 116, 101, 32, 115, 105, 100, 101])]
def r84 : List RA := [.a [.c (y 2), .c m1, .c (l [[(i 0)], [(i 1)]]), .c bt, .c e, .c (y 1), .c (i 5), .c (i 0), .c bt, .c (y 2)], .c (.c (i 60)), .c (.c (i 0))]
theorem g84 : vcall (VN tb4) rounds 6 40 p84 = some r84 := by kernel_rfl
theorem s84 : Spec Go.Proofs.Tryz.prog 40 p84 r84 := fact tk4 g84
def p155 : List PA := [.a [(y 2), m1, (l [[(i 0)], [(i 1)]]), bt, e, (y 1), (i 5), (i 0), bt, (y 2), m5, m6, m7, m8]]
def r155 : List RA := [.c (.c (i 0))]
theorem g155 : vcall (VN tb4) rounds 6 58 p155 = some r155 := by kernel_rfl
theorem s155 : Spec Go.Proofs.Tryz.prog 58 p155 r155 := fact tk4 g155
end Tn.Bu
