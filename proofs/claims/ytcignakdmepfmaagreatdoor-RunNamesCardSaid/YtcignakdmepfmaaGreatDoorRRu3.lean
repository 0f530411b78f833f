import Derived.Test.YtcignakdmepfmaaGreatDoorRRu2
/- Closed facts of one run, each by the kernel. -/
set_option linter.unusedVariables false
namespace Tn.Ru
open Go Go.Abs Tn
def p205 : List PA := [.a [(y 2), (i 0), (i 0), m17, (l [[(i 9223372036854775807)]]), e, e, e, e], .c e]
def r205 : List RA := [.a [.c (y 2), .c (i 0), .c (i 0), .s 156 11 [[(i 0), (y 2), (i 0), (i 0), (i 0), (i 9223372036854775807), (i 0), (i 0), (i 0), (i 0), (i 0)]], .s 2 1 [[(i 9223372036854775807)]], .s 212 11 [], .s 34 5 [], .s 92 5 [], .s 32 3 []], .c (.c (i 0))]
theorem g205 : vcall (VN tb2) rounds 6 157 p205 = some r205 := by kernel_rfl
theorem s205 : Spec Go.Proofs.Tryz.prog 157 p205 r205 := fact tk2 g205
def p211 : List PA := [.a [(y 4), (i 0), (i 0), e, (l [[(i (-9223372036854775808))]]), m22, e, e, e], .c m25, .c (l [[(i 1), e]])]
def r211 : List RA := [.c (.c bt), .c (.c (i 0))]
theorem g211 : vcall (VN tb2) rounds 6 108 p211 = some r211 := by kernel_rfl
theorem s211 : Spec Go.Proofs.Tryz.prog 108 p211 r211 := fact tk2 g211
def p212 : List PA := [.a [(y 4), (i 0), (i 0), e, (l [[(i (-9223372036854775808))]]), m22, e, e, e], .c m25]
def r212 : List RA := [.c (.c (i 0)), .a [.c (y 4), .c (i 0), .c (i 0), .s 156 11 [], .s 2 1 [[(i (-9223372036854775808))]], .s 212 11 [[(i 0), (i 0), (i 5), (i 1), (i 0), (i 0), (i 0), (i 0), (i 0), (i 0), (i 0)]], .s 34 5 [], .s 92 5 [], .s 32 3 []], .c (.c (i 0))]
theorem g212 : vcall (VN tb2) rounds 6 70 p212 = some r212 := by kernel_rfl
theorem s212 : Spec Go.Proofs.Tryz.prog 70 p212 r212 := fact tk2 g212
def p214 : List PA := [.a [(y 2), (i 0), (i 0), e, (l [[(i 9223372036854775807)]]), e, e, e, e], .c e]
def r214 : List RA := [.a [.c (y 2), .c (i 0), .c (i 0), .s 156 11 [], .s 2 1 [[(i 9223372036854775807)]], .s 212 11 [], .s 34 5 [], .s 92 5 [], .s 32 3 []], .c (.c (i 0))]
theorem g214 : vcall (VN tb2) rounds 6 157 p214 = some r214 := by kernel_rfl
theorem s214 : Spec Go.Proofs.Tryz.prog 157 p214 r214 := fact tk2 g214
def p221 : List PA := [.a [(y 4), (i 0), (i 0), m29, (l [[(i 9223372036854775807)]]), e, e, e, e], .c (l [[(i 1), e]]), .c (l [[(i 1), e]])]
def r221 : List RA := [.c (.c bt), .c (.c (i 0))]
theorem g221 : vcall (VN tb2) rounds 6 108 p221 = some r221 := by kernel_rfl
theorem s221 : Spec Go.Proofs.Tryz.prog 108 p221 r221 := fact tk2 g221
def p223 : List PA := [.a [(y 4), (i 0), (i 0), m29, (l [[(i 9223372036854775807)]]), e, e, e, e], .c (l [[(i 1), e]])]
def r223 : List RA := [.a [.c (y 4), .c (i 0), .c (i 0), .c e, .s 2 1 [[(i 9223372036854775807)]], .s 212 11 [], .s 34 5 [], .s 92 5 [], .s 32 3 []], .c (.s 59 2 [[(i 1), m31]]), .c (.c (i 0))]
theorem g223 : vcall (VN tb2) rounds 6 110 p223 = some r223 := by kernel_rfl
theorem s223 : Spec Go.Proofs.Tryz.prog 110 p223 r223 := fact tk2 g223
def p224 : List PA := [.a [(y 4), (i 0), (i 0), m29, (l [[(i 9223372036854775807)]]), e, e, e, e], .c e]
def r224 : List RA := [.a [.c (y 4), .c (i 0), .c (i 0), .s 156 11 [[(i 0), (y 3), (i 0), (i 0), (i 0), (i 0), (i 0), (i 0), (i 5), (i 1), (i 0)]], .s 2 1 [[(i 9223372036854775807)]], .s 212 11 [], .s 34 5 [], .s 92 5 [], .s 32 3 []], .c (.c (i 0))]
theorem g224 : vcall (VN tb2) rounds 6 157 p224 = some r224 := by kernel_rfl
theorem s224 : Spec Go.Proofs.Tryz.prog 157 p224 r224 := fact tk2 g224
def p231 : List PA := [.a [(y 6), (i 0), (i 0), e, e, e, e, e, e], .c m34, .c e]
def r231 : List RA := [.c (.c bt), .c (.c (i 0))]
theorem g231 : vcall (VN tb2) rounds 6 108 p231 = some r231 := by kernel_rfl
theorem s231 : Spec Go.Proofs.Tryz.prog 108 p231 r231 := fact tk2 g231
def p232 : List PA := [.a [(y 6), (i 0), (i 0), e, e, e, e, e, e], .c m34]
def r232 : List RA := [.c (.c (i 0)), .a [.c (y 6), .c (i 0), .c (i 0), .s 156 11 [], .s 2 1 [], .s 212 11 [], .s 34 5 [], .s 92 5 [], .s 32 3 []], .c (.c (i 0))]
theorem g232 : vcall (VN tb2) rounds 6 70 p232 = some r232 := by kernel_rfl
theorem s232 : Spec Go.Proofs.Tryz.prog 70 p232 r232 := fact tk2 g232
def p233 : List PA := [.a [(y 4), (i 0), (i 0), e, (l [[(i 9223372036854775807)]]), e, e, e, e], .c e]
def r233 : List RA := [.a [.c (y 4), .c (i 0), .c (i 0), .s 156 11 [], .s 2 1 [[(i 9223372036854775807)]], .s 212 11 [], .s 34 5 [], .s 92 5 [], .s 32 3 []], .c (.c (i 0))]
theorem g233 : vcall (VN tb2) rounds 6 157 p233 = some r233 := by kernel_rfl
theorem s233 : Spec Go.Proofs.Tryz.prog 157 p233 r233 := fact tk2 g233
def p240 : List PA := [.a [(y 6), (i 0), (i 0), e, e, e, e, m35, e], .c (l [[(i 1), e]]), .c e]
def r240 : List RA := [.c (.c bf), .c (.c (i 0))]
theorem g240 : vcall (VN tb2) rounds 6 108 p240 = some r240 := by kernel_rfl
theorem s240 : Spec Go.Proofs.Tryz.prog 108 p240 r240 := fact tk2 g240
def p246 : List PA := [.a [(y 2), (i 0), (i 0), e, (l [[(i (-9223372036854775808))]]), e, e, e, e], .c (l [[(i 1), e]]), .c (l [[(i 1), e]])]
def r246 : List RA := [.c (.c bf), .c (.c (i 0))]
theorem g246 : vcall (VN tb2) rounds 6 108 p246 = some r246 := by kernel_rfl
theorem s246 : Spec Go.Proofs.Tryz.prog 108 p246 r246 := fact tk2 g246
def p269 : List PA := [.a [(y 1), e, (l [[(i 0)]]), bf, e, (y 1), (i 5), (i 0), bf, (y 1)], .c m39, .c (i 1), .c (i 1)]
def r269 : List RA := [.a [.c (y 1), .c e, .c (l [[(i 0)]]), .c bf, .c e, .c (y 1), .c (i 5), .c (i 0), .c bf, .c (y 1), .c m3, .c m4, .c m41, .c m7], .c (.c (i 0))]
theorem g269 : vcall (VN tb2) rounds 6 9 p269 = some r269 := by kernel_rfl
theorem s269 : Spec Go.Proofs.Tryz.prog 9 p269 r269 := fact tk2 g269
def p279 : List PA := [.a [(y 1), (i 0), (i 0), e, e, e, m38, e, e], .c e, .c (l [[(i 1), e]])]
def r279 : List RA := [.c (.c bt), .c (.c (i 0))]
theorem g279 : vcall (VN tb2) rounds 6 108 p279 = some r279 := by kernel_rfl
theorem s279 : Spec Go.Proofs.Tryz.prog 108 p279 r279 := fact tk2 g279
def p280 : List PA := [.a [(y 1), (i 0), (i 0), e, e, e, m38, e, e], .c e]
def r280 : List RA := [.a [.c (y 1), .c (i 0), .c (i 0), .s 156 11 [], .s 2 1 [], .s 212 11 [], .s 34 5 [[bf, (i 0), (i 0), (i 3), (i 0)]], .s 92 5 [], .s 32 3 []], .c (.c (i 0))]
theorem g280 : vcall (VN tb2) rounds 6 157 p280 = some r280 := by kernel_rfl
theorem s280 : Spec Go.Proofs.Tryz.prog 157 p280 r280 := fact tk2 g280
def p287 : List PA := [.a [(y 1), (i 0), (i 0), m8, e, e, e, e, e], .c e, .c (l [[(i 1), e]])]
def r287 : List RA := [.c (.c bt), .c (.c (i 0))]
theorem g287 : vcall (VN tb2) rounds 6 108 p287 = some r287 := by kernel_rfl
theorem s287 : Spec Go.Proofs.Tryz.prog 108 p287 r287 := fact tk2 g287
def p288 : List PA := [.a [(y 1), (i 0), (i 0), m8, e, e, e, e, e], .c (l [[(i 1), e]])]
def r288 : List RA := [.a [.c (y 1), .c (i 0), .c (i 0), .c e, .s 2 1 [], .s 212 11 [], .s 34 5 [], .s 92 5 [], .s 32 3 []], .c (.s 59 2 [[(i 1), m11]]), .c (.c (i 0))]
theorem g288 : vcall (VN tb2) rounds 6 110 p288 = some r288 := by kernel_rfl
theorem s288 : Spec Go.Proofs.Tryz.prog 110 p288 r288 := fact tk2 g288
def p289 : List PA := [.a [(y 1), (i 0), (i 0), m8, e, e, e, e, e], .c e]
def r289 : List RA := [.a [.c (y 1), .c (i 0), .c (i 0), .s 156 11 [[(i 0), (y 1), (i 0), (i 3), (i 0), (i 0), (i 0), (i 0), (i 0), (i 0), (i 0)]], .s 2 1 [], .s 212 11 [], .s 34 5 [], .s 92 5 [], .s 32 3 []], .c (.c (i 0))]
theorem g289 : vcall (VN tb2) rounds 6 157 p289 = some r289 := by kernel_rfl
theorem s289 : Spec Go.Proofs.Tryz.prog 157 p289 r289 := fact tk2 g289
def p295 : List PA := [.a [(y 1), (i 0), (i 0), e, e, e, e, e, e], .c e, .c m14]
def r295 : List RA := [.c (.c bf), .c (.c (i 0))]
theorem g295 : vcall (VN tb2) rounds 6 108 p295 = some r295 := by kernel_rfl
theorem s295 : Spec Go.Proofs.Tryz.prog 108 p295 r295 := fact tk2 g295
def tb3 : List (FuncId × List PA × List RA) := [(135, p15, r15), (135, p19, r19), (135, p23, r23), (219, p49, r49), (9, p75, r75), (102, p83, r83), (22, p121, r121), (23, p122, r122), (108, p126, r126), (157, p128, r128), (157, p129, r129), (157, p130, r130), (157, p131, r131), (108, p138, r138), (110, p140, r140), (157, p141, r141), (108, p148, r148), (70, p149, r149), (157, p150, r150), (108, p157, r157), (110, p158, r158), (157, p159, r159), (108, p165, r165), (108, p173, r173), (110, p175, r175), (157, p176, r176), (108, p183, r183), (70, p184, r184), (157, p187, r187), (108, p193, r193), (70, p194, r194), (157, p196, r196), (108, p203, r203), (110, p204, r204), (157, p205, r205), (108, p211, r211), (70, p212, r212), (157, p214, r214), (108, p221, r221), (110, p223, r223), (157, p224, r224), (108, p231, r231), (70, p232, r232), (157, p233, r233), (108, p240, r240), (108, p246, r246), (9, p269, r269), (108, p279, r279), (157, p280, r280), (108, p287, r287), (110, p288, r288), (157, p289, r289), (108, p295, r295)] ++ tb2
theorem tk3 : TOK Go.Proofs.Tryz.prog tb3 := TOK.app (l := [(135, p15, r15), (135, p19, r19), (135, p23, r23), (219, p49, r49), (9, p75, r75), (102, p83, r83), (22, p121, r121), (23, p122, r122), (108, p126, r126), (157, p128, r128), (157, p129, r129), (157, p130, r130), (157, p131, r131), (108, p138, r138), (110, p140, r140), (157, p141, r141), (108, p148, r148), (70, p149, r149), (157, p150, r150), (108, p157, r157), (110, p158, r158), (157, p159, r159), (108, p165, r165), (108, p173, r173), (110, p175, r175), (157, p176, r176), (108, p183, r183), (70, p184, r184), (157, p187, r187), (108, p193, r193), (70, p194, r194), (157, p196, r196), (108, p203, r203), (110, p204, r204), (157, p205, r205), (108, p211, r211), (70, p212, r212), (157, p214, r214), (108, p221, r221), (110, p223, r223), (157, p224, r224), (108, p231, r231), (70, p232, r232), (157, p233, r233), (108, p240, r240), (108, p246, r246), (9, p269, r269), (108, p279, r279), (157, p280, r280), (108, p287, r287), (110, p288, r288), (157, p289, r289), (108, p295, r295)]) ⟨s15, s19, s23, s49, s75, s83, s121, s122, s126, s128, s129, s130, s131, s138, s140, s141, s148, s149, s150, s157, s158, s159, s165, s173, s175, s176, s183, s184, s187, s193, s194, s196, s203, s204, s205, s211, s212, s214, s221, s223, s224, s231, s232, s233, s240, s246, s269, s279, s280, s287, s288, s289, s295, trivial⟩ tk2
def p50 : List PA := [.c (s [115, 101, 108, 101, 99, 116, 32, 99, 111, 117, 110, 116, 40, 42, 41, 32, 102, 114, 111, 109, 32, 97, 32, 119, 105, 110, 100, 111, 119, 32, 116, 117, 109, 98, 108, 101, 32, 53])]
def r50 : List RA := [.c (.c (l [[(y 2), (s [115, 101, 108, 101, 99, 116]), (i 0)], [(y 2), (s [99, 111, 117, 110, 116]), (i 7)], [(y 3), (s [40]), (i 12)], [(y 3), (s [42]), (i 13)], [(y 3), (s [41]), (i 14)], [(y 2), (s [102, 114, 111, 109]), (i 16)], [(y 2), (s [97]), (i 21)], [(y 2), (s [119, 105, 110, 100, 111, 119]), (i 23)], [(y 2), (s [116, 117, 109, 98, 108, 101]), (i 30)], [(y 1), (s [53]), (i 37)]])), .c (.c (i 38)), .c (.c (i 0))]
theorem g50 : vcall (VN tb3) rounds 6 86 p50 = some r50 := by kernel_rfl
theorem s50 : Spec Go.Proofs.Tryz.prog 86 p50 r50 := fact tk3 g50
def p63 : List PA := [.c (s [53])]
def r63 : List RA := [.c (.c (i 5)), .c (.c (i 0))]
theorem g63 : vcall (VN tb3) rounds 6 172 p63 = some r63 := by kernel_rfl
theorem s63 : Spec Go.Proofs.Tryz.prog 172 p63 r63 := fact tk3 g63
def p101 : List PA := [.a [(y 1), e, (l [[(i 0)]]), bf, e, (y 1), (i 5), (i 0), bf, (y 1), m3, m4, m6, m7]]
def r101 : List RA := [.c (.c (i 0))]
theorem g101 : vcall (VN tb3) rounds 6 58 p101 = some r101 := by kernel_rfl
theorem s101 : Spec Go.Proofs.Tryz.prog 58 p101 r101 := fact tk3 g101
def p135 : List PA := [.a [(y 1), e, (l [[(i 0)]]), bf, e, (y 1), (i 5), (i 0), bf, (y 1), m3, m4, m10, m7]]
def r135 : List RA := [.c (.c (i 0))]
theorem g135 : vcall (VN tb3) rounds 6 58 p135 = some r135 := by kernel_rfl
theorem s135 : Spec Go.Proofs.Tryz.prog 58 p135 r135 := fact tk3 g135
def p145 : List PA := [.a [(y 1), e, (l [[(i 0)]]), bf, e, (y 1), (i 5), (i 0), bf, (y 1), m3, m4, m12, m13]]
def r145 : List RA := [.c (.c (i 0))]
theorem g145 : vcall (VN tb3) rounds 6 58 p145 = some r145 := by kernel_rfl
theorem s145 : Spec Go.Proofs.Tryz.prog 58 p145 r145 := fact tk3 g145
def p154 : List PA := [.a [(y 1), e, (l [[(i 0)]]), bf, e, (y 1), (i 5), (i 0), bf, (y 1), m3, m4, m15, m7]]
def r154 : List RA := [.c (.c (i 0))]
theorem g154 : vcall (VN tb3) rounds 6 58 p154 = some r154 := by kernel_rfl
theorem s154 : Spec Go.Proofs.Tryz.prog 58 p154 r154 := fact tk3 g154
def p162 : List PA := [.a [(y 1), e, (l [[(i 0)]]), bf, e, (y 1), (i 5), (i 0), bf, (y 1), m3, m4, m12, m16]]
def r162 : List RA := [.c (.c (i 0))]
theorem g162 : vcall (VN tb3) rounds 6 58 p162 = some r162 := by kernel_rfl
theorem s162 : Spec Go.Proofs.Tryz.prog 58 p162 r162 := fact tk3 g162
def p170 : List PA := [.a [(y 1), e, (l [[(i 0)]]), bf, e, (y 1), (i 5), (i 0), bf, (y 1), m3, m4, m18, m16]]
def r170 : List RA := [.c (.c (i 0))]
theorem g170 : vcall (VN tb3) rounds 6 58 p170 = some r170 := by kernel_rfl
theorem s170 : Spec Go.Proofs.Tryz.prog 58 p170 r170 := fact tk3 g170
def p180 : List PA := [.a [(y 1), e, (l [[(i 0)]]), bf, e, (y 1), (i 5), (i 0), bf, (y 1), m3, m4, m20, m21]]
def r180 : List RA := [.c (.c (i 0))]
theorem g180 : vcall (VN tb3) rounds 6 58 p180 = some r180 := by kernel_rfl
theorem s180 : Spec Go.Proofs.Tryz.prog 58 p180 r180 := fact tk3 g180
def p190 : List PA := [.a [(y 1), e, (l [[(i 0)]]), bf, e, (y 1), (i 5), (i 0), bf, (y 1), m3, m4, m23, m24]]
def r190 : List RA := [.c (.c (i 0))]
theorem g190 : vcall (VN tb3) rounds 6 58 p190 = some r190 := by kernel_rfl
theorem s190 : Spec Go.Proofs.Tryz.prog 58 p190 r190 := fact tk3 g190
def p200 : List PA := [.a [(y 1), e, (l [[(i 0)]]), bf, e, (y 1), (i 5), (i 0), bf, (y 1), m3, m4, m26, m7]]
def r200 : List RA := [.c (.c (i 0))]
theorem g200 : vcall (VN tb3) rounds 6 58 p200 = some r200 := by kernel_rfl
theorem s200 : Spec Go.Proofs.Tryz.prog 58 p200 r200 := fact tk3 g200
def p208 : List PA := [.a [(y 1), e, (l [[(i 0)]]), bf, e, (y 1), (i 5), (i 0), bf, (y 1), m3, m4, m27, m28]]
def r208 : List RA := [.c (.c (i 0))]
theorem g208 : vcall (VN tb3) rounds 6 58 p208 = some r208 := by kernel_rfl
theorem s208 : Spec Go.Proofs.Tryz.prog 58 p208 r208 := fact tk3 g208
def p218 : List PA := [.a [(y 1), e, (l [[(i 0)]]), bf, e, (y 1), (i 5), (i 0), bf, (y 1), m3, m4, m30, m7]]
def r218 : List RA := [.c (.c (i 0))]
theorem g218 : vcall (VN tb3) rounds 6 58 p218 = some r218 := by kernel_rfl
theorem s218 : Spec Go.Proofs.Tryz.prog 58 p218 r218 := fact tk3 g218
def p228 : List PA := [.a [(y 1), e, (l [[(i 0)]]), bf, e, (y 1), (i 5), (i 0), bf, (y 1), m3, m4, m32, m33]]
def r228 : List RA := [.c (.c (i 0))]
theorem g228 : vcall (VN tb3) rounds 6 58 p228 = some r228 := by kernel_rfl
theorem s228 : Spec Go.Proofs.Tryz.prog 58 p228 r228 := fact tk3 g228
def p237 : List PA := [.a [(y 1), e, (l [[(i 0)]]), bf, e, (y 1), (i 5), (i 0), bf, (y 1), m3, m4, m36, m7]]
def r237 : List RA := [.c (.c (i 0))]
theorem g237 : vcall (VN tb3) rounds 6 58 p237 = some r237 := by kernel_rfl
theorem s237 : Spec Go.Proofs.Tryz.prog 58 p237 r237 := fact tk3 g237
def p247 : List PA := [.a [(y 1), e, (l [[(i 0)]]), bf, e, (y 1), (i 5), (i 0), bf, (y 1), m3, m4, m6, m7], .c (i 1)]
def r247 : List RA := [.c (.c bf)]
theorem g247 : vcall (VN tb3) rounds 6 68 p247 = some r247 := by kernel_rfl
theorem s247 : Spec Go.Proofs.Tryz.prog 68 p247 r247 := fact tk3 g247
def p255 : List PA := [.a [(y 1), e, (l [[(i 0)]]), bf, e, (y 1), (i 5), (i 0), bf, (y 1), m3, m4, m12, m13], .c (i 1)]
def r255 : List RA := [.c (.c bt)]
theorem g255 : vcall (VN tb3) rounds 6 68 p255 = some r255 := by kernel_rfl
theorem s255 : Spec Go.Proofs.Tryz.prog 68 p255 r255 := fact tk3 g255
def p273 : List PA := [.a [(y 1), e, (l [[(i 0)]]), bf, e, (y 1), (i 5), (i 0), bf, (y 1), m3, m4, m41, m7]]
def r273 : List RA := [.c (.c (i 0))]
theorem g273 : vcall (VN tb3) rounds 6 58 p273 = some r273 := by kernel_rfl
theorem s273 : Spec Go.Proofs.Tryz.prog 58 p273 r273 := fact tk3 g273
def p284 : List PA := [.a [(y 1), e, (l [[(i 0)]]), bf, e, (y 1), (i 5), (i 0), bf, (y 1), m3, m4, m42, m7]]
def r284 : List RA := [.c (.c (i 0))]
theorem g284 : vcall (VN tb3) rounds 6 58 p284 = some r284 := by kernel_rfl
theorem s284 : Spec Go.Proofs.Tryz.prog 58 p284 r284 := fact tk3 g284
def p292 : List PA := [.a [(y 1), e, (l [[(i 0)]]), bf, e, (y 1), (i 5), (i 0), bf, (y 1), m3, m4, m20, m13]]
def r292 : List RA := [.c (.c (i 0))]
theorem g292 : vcall (VN tb3) rounds 6 58 p292 = some r292 := by kernel_rfl
theorem s292 : Spec Go.Proofs.Tryz.prog 58 p292 r292 := fact tk3 g292
def tb4 : List (FuncId × List PA × List RA) := [(86, p50, r50), (172, p63, r63), (58, p101, r101), (58, p135, r135), (58, p145, r145), (58, p154, r154), (58, p162, r162), (58, p170, r170), (58, p180, r180), (58, p190, r190), (58, p200, r200), (58, p208, r208), (58, p218, r218), (58, p228, r228), (58, p237, r237), (68, p247, r247), (68, p255, r255), (58, p273, r273), (58, p284, r284), (58, p292, r292)] ++ tb3
theorem tk4 : TOK Go.Proofs.Tryz.prog tb4 := TOK.app (l := [(86, p50, r50), (172, p63, r63), (58, p101, r101), (58, p135, r135), (58, p145, r145), (58, p154, r154), (58, p162, r162), (58, p170, r170), (58, p180, r180), (58, p190, r190), (58, p200, r200), (58, p208, r208), (58, p218, r218), (58, p228, r228), (58, p237, r237), (68, p247, r247), (68, p255, r255), (58, p273, r273), (58, p284, r284), (58, p292, r292)]) ⟨s50, s63, s101, s135, s145, s154, s162, s170, s180, s190, s200, s208, s218, s228, s237, s247, s255, s273, s284, s292, trivial⟩ tk3
def p64 : List PA := [.c (s [115, 101, 108, 101, 99, 116, 32, 99, 111, 117, 110, 116, 40, 42, 41, 32, 102, 114, 111, 109, 32, 97, 32, 119, 105, 110, 100, 111, 119, 32, 116, 117, 109, 98, 108, 101, 32, 53])]
def r64 : List RA := [.a [.c (y 1), .c e, .c (l [[(i 0)]]), .c bf, .c e, .c (y 1), .c (i 5), .c (i 0), .c bf, .c (y 1)], .c (.c (i 38)), .c (.c (i 0))]
theorem g64 : vcall (VN tb4) rounds 6 40 p64 = some r64 := by kernel_rfl
theorem s64 : Spec Go.Proofs.Tryz.prog 40 p64 r64 := fact tk4 g64
end Tn.Ru
