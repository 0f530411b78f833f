import Derived.Test.YtcignakdmepfmaaGreatDoorFa4
/- Closed facts of one run, each by the kernel. -/
set_option linter.unusedVariables false
namespace Tn.Fa
open Go Go.Abs Tn
def m23 : PV := l [[(i 0), (i (-1))], [(i 0), (i (-1))], [(i 1), (i (-1))], [(i 1), (i (-1))], [(i 2), (i (-1))], [(i 3), (i (-1))]]
def p237 : List PA := [.a [(y 1), e, (l [[(i 0)]]), bf, e, (y 1), (i 5), (i 0), bf, (y 1), m3, m4, m5, m6], .c m23]
def r237 : List RA := [.a [.c (y 1), .c e, .c (l [[(i 0)]]), .c bf, .c e, .c (y 1), .c (i 5), .c (i 0), .c bf, .c (y 1), .c m3, .c m4, .c m16, .c m6], .c (.c (i 5)), .c (.c (i 0))]
theorem g237 : vcall (VN tb6) rounds 6 22 p237 = some r237 := by kernel_rfl
theorem s237 : Spec Go.Proofs.Tryz.prog 22 p237 r237 := fact tk6 g237
def p240 : List PA := [.a [(y 1), e, (l [[(i 0)]]), bf, e, (y 1), (i 5), (i 0), bf, (y 1), m3, m4, m16, m6], .c m23]
def r240 : List RA := [.a [.c (y 1), .c e, .c (l [[(i 0)]]), .c bf, .c e, .c (y 1), .c (i 5), .c (i 0), .c bf, .c (y 1), .c m3, .c m4, .c m16, .c m6], .c (.c (i 0)), .c (.c (i 0))]
theorem g240 : vcall (VN tb6) rounds 6 22 p240 = some r240 := by kernel_rfl
theorem s240 : Spec Go.Proofs.Tryz.prog 22 p240 r240 := fact tk6 g240
def m24 : PV := l [[(i 3), (i (-1))], [(i 2), (i (-1))], [(i 1), (i (-1))], [(i 0), (i (-1))]]
def p252 : List PA := [.a [(y 1), e, (l [[(i 0)]]), bf, e, (y 1), (i 5), (i 0), bf, (y 1), m3, m4, m5, m6], .c m24]
def r252 : List RA := [.a [.c (y 1), .c e, .c (l [[(i 0)]]), .c bf, .c e, .c (y 1), .c (i 5), .c (i 0), .c bf, .c (y 1), .c m3, .c m4, .c m8, .c m6], .c (.c (i 1)), .c (.c (i 0))]
theorem g252 : vcall (VN tb6) rounds 6 22 p252 = some r252 := by kernel_rfl
theorem s252 : Spec Go.Proofs.Tryz.prog 22 p252 r252 := fact tk6 g252
def p256 : List PA := [.a [(y 1), e, (l [[(i 0)]]), bf, e, (y 1), (i 5), (i 0), bf, (y 1), m3, m4, m8, m6], .c m24]
def r256 : List RA := [.a [.c (y 1), .c e, .c (l [[(i 0)]]), .c bf, .c e, .c (y 1), .c (i 5), .c (i 0), .c bf, .c (y 1), .c m3, .c m4, .c m10, .c m11], .c (.c (i 1)), .c (.c (i 0))]
theorem g256 : vcall (VN tb6) rounds 6 22 p256 = some r256 := by kernel_rfl
theorem s256 : Spec Go.Proofs.Tryz.prog 22 p256 r256 := fact tk6 g256
def p266 : List PA := [.a [(y 1), e, (l [[(i 0)]]), bf, e, (y 1), (i 5), (i 0), bf, (y 1), m3, m4, m10, m11], .c m24]
def r266 : List RA := [.a [.c (y 1), .c e, .c (l [[(i 0)]]), .c bf, .c e, .c (y 1), .c (i 5), .c (i 0), .c bf, .c (y 1), .c m3, .c m4, .c m13, .c m6], .c (.c (i 1)), .c (.c (i 0))]
theorem g266 : vcall (VN tb6) rounds 6 22 p266 = some r266 := by kernel_rfl
theorem s266 : Spec Go.Proofs.Tryz.prog 22 p266 r266 := fact tk6 g266
def p274 : List PA := [.a [(y 1), e, (l [[(i 0)]]), bf, e, (y 1), (i 5), (i 0), bf, (y 1), m3, m4, m13, m6], .c m24]
def r274 : List RA := [.a [.c (y 1), .c e, .c (l [[(i 0)]]), .c bf, .c e, .c (y 1), .c (i 5), .c (i 0), .c bf, .c (y 1), .c m3, .c m4, .c m10, .c m14], .c (.c (i 1)), .c (.c (i 0))]
theorem g274 : vcall (VN tb6) rounds 6 22 p274 = some r274 := by kernel_rfl
theorem s274 : Spec Go.Proofs.Tryz.prog 22 p274 r274 := fact tk6 g274
def p279 : List PA := [.a [(y 1), e, (l [[(i 0)]]), bf, e, (y 1), (i 5), (i 0), bf, (y 1), m3, m4, m10, m14], .c m24]
def r279 : List RA := [.a [.c (y 1), .c e, .c (l [[(i 0)]]), .c bf, .c e, .c (y 1), .c (i 5), .c (i 0), .c bf, .c (y 1), .c m3, .c m4, .c m16, .c m6], .c (.c (i 1)), .c (.c (i 0))]
theorem g279 : vcall (VN tb6) rounds 6 22 p279 = some r279 := by kernel_rfl
theorem s279 : Spec Go.Proofs.Tryz.prog 22 p279 r279 := fact tk6 g279
def p282 : List PA := [.a [(y 1), e, (l [[(i 0)]]), bf, e, (y 1), (i 5), (i 0), bf, (y 1), m3, m4, m16, m6], .c m24]
def r282 : List RA := [.a [.c (y 1), .c e, .c (l [[(i 0)]]), .c bf, .c e, .c (y 1), .c (i 5), .c (i 0), .c bf, .c (y 1), .c m3, .c m4, .c m16, .c m6], .c (.c (i 0)), .c (.c (i 0))]
theorem g282 : vcall (VN tb6) rounds 6 22 p282 = some r282 := by kernel_rfl
theorem s282 : Spec Go.Proofs.Tryz.prog 22 p282 r282 := fact tk6 g282
def tb7 : List (FuncId × List PA × List RA) := [(13, p76, r76), (22, p223, r223), (22, p226, r226), (22, p237, r237), (22, p240, r240), (22, p252, r252), (22, p256, r256), (22, p266, r266), (22, p274, r274), (22, p279, r279), (22, p282, r282)] ++ tb6
theorem tk7 : TOK Go.Proofs.Tryz.prog tb7 := TOK.app (l := [(13, p76, r76), (22, p223, r223), (22, p226, r226), (22, p237, r237), (22, p240, r240), (22, p252, r252), (22, p256, r256), (22, p266, r266), (22, p274, r274), (22, p279, r279), (22, p282, r282)]) ⟨s76, s223, s226, s237, s240, s252, s256, s266, s274, s279, s282, trivial⟩ tk6
def p224 : List PA := [.a [(y 1), e, (l [[(i 0)]]), bf, e, (y 1), (i 5), (i 0), bf, (y 1), m3, m4, m5, m6], .c m20]
def r224 : List RA := [.a [.c (y 1), .c e, .c (l [[(i 0)]]), .c bf, .c e, .c (y 1), .c (i 5), .c (i 0), .c bf, .c (y 1), .c m3, .c m4, .c m16, .c m6], .c (.c (i 5)), .c (.c (i 0))]
theorem g224 : vcall (VN tb7) rounds 6 29 p224 = some r224 := by kernel_rfl
theorem s224 : Spec Go.Proofs.Tryz.prog 29 p224 r224 := fact tk7 g224
def p227 : List PA := [.a [(y 1), e, (l [[(i 0)]]), bf, e, (y 1), (i 5), (i 0), bf, (y 1), m3, m4, m16, m6], .c m20]
def r227 : List RA := [.a [.c (y 1), .c e, .c (l [[(i 0)]]), .c bf, .c e, .c (y 1), .c (i 5), .c (i 0), .c bf, .c (y 1), .c m3, .c m4, .c m16, .c m6], .c (.c (i 0)), .c (.c (i 0))]
theorem g227 : vcall (VN tb7) rounds 6 29 p227 = some r227 := by kernel_rfl
theorem s227 : Spec Go.Proofs.Tryz.prog 29 p227 r227 := fact tk7 g227
def p238 : List PA := [.a [(y 1), e, (l [[(i 0)]]), bf, e, (y 1), (i 5), (i 0), bf, (y 1), m3, m4, m5, m6], .c m21]
def r238 : List RA := [.a [.c (y 1), .c e, .c (l [[(i 0)]]), .c bf, .c e, .c (y 1), .c (i 5), .c (i 0), .c bf, .c (y 1), .c m3, .c m4, .c m16, .c m6], .c (.c (i 5)), .c (.c (i 0))]
theorem g238 : vcall (VN tb7) rounds 6 29 p238 = some r238 := by kernel_rfl
theorem s238 : Spec Go.Proofs.Tryz.prog 29 p238 r238 := fact tk7 g238
def p241 : List PA := [.a [(y 1), e, (l [[(i 0)]]), bf, e, (y 1), (i 5), (i 0), bf, (y 1), m3, m4, m16, m6], .c m21]
def r241 : List RA := [.a [.c (y 1), .c e, .c (l [[(i 0)]]), .c bf, .c e, .c (y 1), .c (i 5), .c (i 0), .c bf, .c (y 1), .c m3, .c m4, .c m16, .c m6], .c (.c (i 0)), .c (.c (i 0))]
theorem g241 : vcall (VN tb7) rounds 6 29 p241 = some r241 := by kernel_rfl
theorem s241 : Spec Go.Proofs.Tryz.prog 29 p241 r241 := fact tk7 g241
def p253 : List PA := [.a [(y 1), e, (l [[(i 0)]]), bf, e, (y 1), (i 5), (i 0), bf, (y 1), m3, m4, m5, m6], .c (l [[(i 3)], [(i 2)], [(i 1)], [(i 0)]])]
def r253 : List RA := [.a [.c (y 1), .c e, .c (l [[(i 0)]]), .c bf, .c e, .c (y 1), .c (i 5), .c (i 0), .c bf, .c (y 1), .c m3, .c m4, .c m8, .c m6], .c (.c (i 1)), .c (.c (i 0))]
theorem g253 : vcall (VN tb7) rounds 6 29 p253 = some r253 := by kernel_rfl
theorem s253 : Spec Go.Proofs.Tryz.prog 29 p253 r253 := fact tk7 g253
def p257 : List PA := [.a [(y 1), e, (l [[(i 0)]]), bf, e, (y 1), (i 5), (i 0), bf, (y 1), m3, m4, m8, m6], .c (l [[(i 3)], [(i 2)], [(i 1)], [(i 0)]])]
def r257 : List RA := [.a [.c (y 1), .c e, .c (l [[(i 0)]]), .c bf, .c e, .c (y 1), .c (i 5), .c (i 0), .c bf, .c (y 1), .c m3, .c m4, .c m10, .c m11], .c (.c (i 1)), .c (.c (i 0))]
theorem g257 : vcall (VN tb7) rounds 6 29 p257 = some r257 := by kernel_rfl
theorem s257 : Spec Go.Proofs.Tryz.prog 29 p257 r257 := fact tk7 g257
def p267 : List PA := [.a [(y 1), e, (l [[(i 0)]]), bf, e, (y 1), (i 5), (i 0), bf, (y 1), m3, m4, m10, m11], .c (l [[(i 3)], [(i 2)], [(i 1)], [(i 0)]])]
def r267 : List RA := [.a [.c (y 1), .c e, .c (l [[(i 0)]]), .c bf, .c e, .c (y 1), .c (i 5), .c (i 0), .c bf, .c (y 1), .c m3, .c m4, .c m13, .c m6], .c (.c (i 1)), .c (.c (i 0))]
theorem g267 : vcall (VN tb7) rounds 6 29 p267 = some r267 := by kernel_rfl
theorem s267 : Spec Go.Proofs.Tryz.prog 29 p267 r267 := fact tk7 g267
def p275 : List PA := [.a [(y 1), e, (l [[(i 0)]]), bf, e, (y 1), (i 5), (i 0), bf, (y 1), m3, m4, m13, m6], .c (l [[(i 3)], [(i 2)], [(i 1)], [(i 0)]])]
def r275 : List RA := [.a [.c (y 1), .c e, .c (l [[(i 0)]]), .c bf, .c e, .c (y 1), .c (i 5), .c (i 0), .c bf, .c (y 1), .c m3, .c m4, .c m10, .c m14], .c (.c (i 1)), .c (.c (i 0))]
theorem g275 : vcall (VN tb7) rounds 6 29 p275 = some r275 := by kernel_rfl
theorem s275 : Spec Go.Proofs.Tryz.prog 29 p275 r275 := fact tk7 g275
def p280 : List PA := [.a [(y 1), e, (l [[(i 0)]]), bf, e, (y 1), (i 5), (i 0), bf, (y 1), m3, m4, m10, m14], .c (l [[(i 3)], [(i 2)], [(i 1)], [(i 0)]])]
def r280 : List RA := [.a [.c (y 1), .c e, .c (l [[(i 0)]]), .c bf, .c e, .c (y 1), .c (i 5), .c (i 0), .c bf, .c (y 1), .c m3, .c m4, .c m16, .c m6], .c (.c (i 1)), .c (.c (i 0))]
theorem g280 : vcall (VN tb7) rounds 6 29 p280 = some r280 := by kernel_rfl
theorem s280 : Spec Go.Proofs.Tryz.prog 29 p280 r280 := fact tk7 g280
def p283 : List PA := [.a [(y 1), e, (l [[(i 0)]]), bf, e, (y 1), (i 5), (i 0), bf, (y 1), m3, m4, m16, m6], .c (l [[(i 3)], [(i 2)], [(i 1)], [(i 0)]])]
def r283 : List RA := [.a [.c (y 1), .c e, .c (l [[(i 0)]]), .c bf, .c e, .c (y 1), .c (i 5), .c (i 0), .c bf, .c (y 1), .c m3, .c m4, .c m16, .c m6], .c (.c (i 0)), .c (.c (i 0))]
theorem g283 : vcall (VN tb7) rounds 6 29 p283 = some r283 := by kernel_rfl
theorem s283 : Spec Go.Proofs.Tryz.prog 29 p283 r283 := fact tk7 g283
def tb8 : List (FuncId × List PA × List RA) := [(29, p224, r224), (29, p227, r227), (29, p238, r238), (29, p241, r241), (29, p253, r253), (29, p257, r257), (29, p267, r267), (29, p275, r275), (29, p280, r280), (29, p283, r283)] ++ tb7
theorem tk8 : TOK Go.Proofs.Tryz.prog tb8 := TOK.app (l := [(29, p224, r224), (29, p227, r227), (29, p238, r238), (29, p241, r241), (29, p253, r253), (29, p257, r257), (29, p267, r267), (29, p275, r275), (29, p280, r280), (29, p283, r283)]) ⟨s224, s227, s238, s241, s253, s257, s267, s275, s280, s283, trivial⟩ tk7
def p228 : List PA := [.a [(y 1), e, (l [[(i 0)]]), bf, e, (y 1), (i 5), (i 0), bf, (y 1), m3, m4, m5, m6], .c m20, .c (i 2000)]
def r228 : List RA := [.a [.c (y 1), .c e, .c (l [[(i 0)]]), .c bf, .c e, .c (y 1), .c (i 5), .c (i 0), .c bf, .c (y 1), .c m3, .c m4, .c m16, .c m6], .c (.c (i 5)), .c (.c (i 0))]
theorem g228 : vcall (VN tb8) rounds 6 30 p228 = some r228 := by kernel_rfl
theorem s228 : Spec Go.Proofs.Tryz.prog 30 p228 r228 := fact tk8 g228
def p230 : List PA := [.a [(y 1), e, (l [[(i 0)]]), bf, e, (y 1), (i 5), (i 0), bf, (y 1), m3, m4, m5, m6], .c m20]
def r230 : List RA := [.a [.c (y 1), .c e, .c (l [[(i 0)]]), .c bf, .c e, .c (y 1), .c (i 5), .c (i 0), .c bf, .c (y 1), .c m3, .c m4, .c m16, .c m6], .c (.c (i 1)), .c (.c (i 0))]
theorem g230 : vcall (VN tb8) rounds 6 31 p230 = some r230 := by kernel_rfl
theorem s230 : Spec Go.Proofs.Tryz.prog 31 p230 r230 := fact tk8 g230
def p284 : List PA := [.a [(y 1), e, (l [[(i 0)]]), bf, e, (y 1), (i 5), (i 0), bf, (y 1), m3, m4, m5, m6], .c (l [[(i 3)], [(i 2)], [(i 1)], [(i 0)]])]
def r284 : List RA := [.a [.c (y 1), .c e, .c (l [[(i 0)]]), .c bf, .c e, .c (y 1), .c (i 5), .c (i 0), .c bf, .c (y 1), .c m3, .c m4, .c m16, .c m6], .c (.c (i 5)), .c (.c (i 0))]
theorem g284 : vcall (VN tb8) rounds 6 31 p284 = some r284 := by kernel_rfl
theorem s284 : Spec Go.Proofs.Tryz.prog 31 p284 r284 := fact tk8 g284
def tb9 : List (FuncId × List PA × List RA) := [(30, p228, r228), (31, p230, r230), (31, p284, r284)] ++ tb8
theorem tk9 : TOK Go.Proofs.Tryz.prog tb9 := TOK.app (l := [(30, p228, r228), (31, p230, r230), (31, p284, r284)]) ⟨s228, s230, s284, trivial⟩ tk8
def p285 : List PA := []
def r285 : List RA := [.c (.c bt)]
theorem g285 : vcall (VN tb9) rounds 6 6 p285 = some r285 := by kernel_rfl
theorem s285 : Spec Go.Proofs.Tryz.prog 6 p285 r285 := fact tk9 g285
theorem law : Spec Go.Proofs.Tryz.prog 6 [] [.c (.c (.bool true))] := s285
end Tn.Fa
