import Derived.Test.YtdfikojbpojmfaaGreatDoorLn1
/- Closed facts of one run, each by the kernel. -/
set_option linter.unusedVariables false
namespace Tn.Ln
open Go Go.Abs Tn
def p226 : List PA := [.c (y 119)]
def r226 : List RA := [.c (.c (y 3))]
theorem g226 : vcall (VN tb0) rounds 6 116 p226 = some r226 := by kernel_rfl
theorem s226 : Spec Go.Proofs.Tryz.prog 116 p226 r226 := fact tk0 g226
def p228 : List PA := [.c (s [119, 105, 110, 100, 111, 119])]
def r228 : List RA := [.c (.c bt)]
theorem g228 : vcall (VN tb0) rounds 6 154 p228 = some r228 := by kernel_rfl
theorem s228 : Spec Go.Proofs.Tryz.prog 154 p228 r228 := fact tk0 g228
def p230 : List PA := [.c (s [116, 117, 109, 98, 108, 101])]
def r230 : List RA := [.c (.c bt)]
theorem g230 : vcall (VN tb0) rounds 6 154 p230 = some r230 := by kernel_rfl
theorem s230 : Spec Go.Proofs.Tryz.prog 154 p230 r230 := fact tk0 g230
def p231 : List PA := [.c (y 53)]
def r231 : List RA := [.c (.c (y 2))]
theorem g231 : vcall (VN tb0) rounds 6 116 p231 = some r231 := by kernel_rfl
theorem s231 : Spec Go.Proofs.Tryz.prog 116 p231 r231 := fact tk0 g231
def p233 : List PA := [.c (s [48, 49, 50, 51, 52, 53, 54, 55, 56, 57])]
def r233 : List RA := [.a [.c bf, .c bf, .c bf, .c bf, .c bf, .c bf, .c bf, .c bf, .c bf, .c bf, .c bf, .c bf, .c bf, .c bf, .c bf, .c bf, .c bf, .c bf, .c bf, .c bf, .c bf, .c bf, .c bf, .c bf, .c bf, .c bf, .c bf, .c bf, .c bf, .c bf, .c bf, .c bf, .c bf, .c bf, .c bf, .c bf, .c bf, .c bf, .c bf, .c bf, .c bf, .c bf, .c bf, .c bf, .c bf, .c bf, .c bf, .c bf, .c bt, .c bt, .c bt, .c bt, .c bt, .c bt, .c bt, .c bt, .c bt, .c bt, .c bf, .c bf, .c bf, .c bf, .c bf, .c bf, .c bf, .c bf, .c bf, .c bf, .c bf, .c bf, .c bf, .c bf, .c bf, .c bf, .c bf, .c bf, .c bf, .c bf, .c bf, .c bf, .c bf, .c bf, .c bf, .c bf, .c bf, .c bf, .c bf, .c bf, .c bf, .c bf, .c bf, .c bf, .c bf, .c bf, .c bf, .c bf, .c bf, .c bf, .c bf, .c bf, .c bf, .c bf, .c bf, .c bf, .c bf, .c bf, .c bf, .c bf, .c bf, .c bf, .c bf, .c bf, .c bf, .c bf, .c bf, .c bf, .c bf, .c bf, .c bf, .c bf, .c bf, .c bf, .c bf, .c bf, .c bf, .c bf, .c bf, .c bf, .c bf, .c bf, .c bf, .c bf, .c bf, .c bf, .c bf, .c bf, .c bf, .c bf, .c bf, .c bf, .c bf, .c bf, .c bf, .c bf, .c bf, .c bf, .c bf, .c bf, .c bf, .c bf, .c bf, .c bf, .c bf, .c bf, .c bf, .c bf, .c bf, .c bf, .c bf, .c bf, .c bf, .c bf, .c bf, .c bf, .c bf, .c bf, .c bf, .c bf, .c bf, .c bf, .c bf, .c bf, .c bf, .c bf, .c bf, .c bf, .c bf, .c bf, .c bf, .c bf, .c bf, .c bf, .c bf, .c bf, .c bf, .c bf, .c bf, .c bf, .c bf, .c bf, .c bf, .c bf, .c bf, .c bf, .c bf, .c bf, .c bf, .c bf, .c bf, .c bf, .c bf, .c bf, .c bf, .c bf, .c bf, .c bf, .c bf, .c bf, .c bf, .c bf, .c bf, .c bf, .c bf, .c bf, .c bf, .c bf, .c bf, .c bf, .c bf, .c bf, .c bf, .c bf, .c bf, .c bf, .c bf, .c bf, .c bf, .c bf, .c bf, .c bf, .c bf, .c bf, .c bf, .c bf, .c bf, .c bf, .c bf, .c bf, .c bf, .c bf, .c bf, .c bf, .c bf, .c bf, .c bf, .c bf, .c bf, .c bf, .c bf, .c bf, .c bf, .c bf, .c bf, .c bf, .c bf, .c bf], .c (.c bt)]
theorem g233 : vcall (VN tb0) rounds 6 201 p233 = some r233 := by kernel_rfl
theorem s233 : Spec Go.Proofs.Tryz.prog 201 p233 r233 := fact tk0 g233
def p234 : List PA := [.c (s [53]), .q [bf, bf, bf, bf, bf, bf, bf, bf, bf, bf, bf, bf, bf, bf, bf, bf, bf, bf, bf, bf, bf, bf, bf, bf, bf, bf, bf, bf, bf, bf, bf, bf, bf, bf, bf, bf, bf, bf, bf, bf, bf, bf, bf, bf, bf, bf, bf, bf, bt, bt, bt, bt, bt, bt, bt, bt, bt, bt, bf, bf, bf, bf, bf, bf, bf, bf, bf, bf, bf, bf, bf, bf, bf, bf, bf, bf, bf, bf, bf, bf, bf, bf, bf, bf, bf, bf, bf, bf, bf, bf, bf, bf, bf, bf, bf, bf, bf, bf, bf, bf, bf, bf, bf, bf, bf, bf, bf, bf, bf, bf, bf, bf, bf, bf, bf, bf, bf, bf, bf, bf, bf, bf, bf, bf, bf, bf, bf, bf, bf, bf, bf, bf, bf, bf, bf, bf, bf, bf, bf, bf, bf, bf, bf, bf, bf, bf, bf, bf, bf, bf, bf, bf, bf, bf, bf, bf, bf, bf, bf, bf, bf, bf, bf, bf, bf, bf, bf, bf, bf, bf, bf, bf, bf, bf, bf, bf, bf, bf, bf, bf, bf, bf, bf, bf, bf, bf, bf, bf, bf, bf, bf, bf, bf, bf, bf, bf, bf, bf, bf, bf, bf, bf, bf, bf, bf, bf, bf, bf, bf, bf, bf, bf, bf, bf, bf, bf, bf, bf, bf, bf, bf, bf, bf, bf, bf, bf, bf, bf, bf, bf, bf, bf, bf, bf, bf, bf, bf, bf, bf, bf, bf, bf, bf, bf, bf, bf, bf, bf, bf, bf, bf, bf, bf, bf, bf, bf]]
def r234 : List RA := [.c (.c (s []))]
theorem g234 : vcall (VN tb0) rounds 6 203 p234 = some r234 := by kernel_rfl
theorem s234 : Spec Go.Proofs.Tryz.prog 203 p234 r234 := fact tk0 g234
def p235 : List PA := [.c (s []), .q [bf, bf, bf, bf, bf, bf, bf, bf, bf, bf, bf, bf, bf, bf, bf, bf, bf, bf, bf, bf, bf, bf, bf, bf, bf, bf, bf, bf, bf, bf, bf, bf, bf, bf, bf, bf, bf, bf, bf, bf, bf, bf, bf, bf, bf, bf, bf, bf, bt, bt, bt, bt, bt, bt, bt, bt, bt, bt, bf, bf, bf, bf, bf, bf, bf, bf, bf, bf, bf, bf, bf, bf, bf, bf, bf, bf, bf, bf, bf, bf, bf, bf, bf, bf, bf, bf, bf, bf, bf, bf, bf, bf, bf, bf, bf, bf, bf, bf, bf, bf, bf, bf, bf, bf, bf, bf, bf, bf, bf, bf, bf, bf, bf, bf, bf, bf, bf, bf, bf, bf, bf, bf, bf, bf, bf, bf, bf, bf, bf, bf, bf, bf, bf, bf, bf, bf, bf, bf, bf, bf, bf, bf, bf, bf, bf, bf, bf, bf, bf, bf, bf, bf, bf, bf, bf, bf, bf, bf, bf, bf, bf, bf, bf, bf, bf, bf, bf, bf, bf, bf, bf, bf, bf, bf, bf, bf, bf, bf, bf, bf, bf, bf, bf, bf, bf, bf, bf, bf, bf, bf, bf, bf, bf, bf, bf, bf, bf, bf, bf, bf, bf, bf, bf, bf, bf, bf, bf, bf, bf, bf, bf, bf, bf, bf, bf, bf, bf, bf, bf, bf, bf, bf, bf, bf, bf, bf, bf, bf, bf, bf, bf, bf, bf, bf, bf, bf, bf, bf, bf, bf, bf, bf, bf, bf, bf, bf, bf, bf, bf, bf, bf, bf, bf, bf, bf, bf]]
def r235 : List RA := [.c (.c (s []))]
theorem g235 : vcall (VN tb0) rounds 6 202 p235 = some r235 := by kernel_rfl
theorem s235 : Spec Go.Proofs.Tryz.prog 202 p235 r235 := fact tk0 g235
def p237 : List PA := [.c (y 121)]
def r237 : List RA := [.c (.c (y 3))]
theorem g237 : vcall (VN tb0) rounds 6 116 p237 = some r237 := by kernel_rfl
theorem s237 : Spec Go.Proofs.Tryz.prog 116 p237 r237 := fact tk0 g237
def p239 : List PA := [.c (s [98, 121])]
def r239 : List RA := [.c (.c bt)]
theorem g239 : vcall (VN tb0) rounds 6 154 p239 = some r239 := by kernel_rfl
theorem s239 : Spec Go.Proofs.Tryz.prog 154 p239 r239 := fact tk0 g239
def p240 : List PA := [.c (y 107)]
def r240 : List RA := [.c (.c (y 3))]
theorem g240 : vcall (VN tb0) rounds 6 116 p240 = some r240 := by kernel_rfl
theorem s240 : Spec Go.Proofs.Tryz.prog 116 p240 r240 := fact tk0 g240
def p242 : List PA := [.c (s [107, 101, 121])]
def r242 : List RA := [.c (.c bt)]
theorem g242 : vcall (VN tb0) rounds 6 154 p242 = some r242 := by kernel_rfl
theorem s242 : Spec Go.Proofs.Tryz.prog 154 p242 r242 := fact tk0 g242
def p243 : List PA := [.c (y 97)]
def r243 : List RA := [.c (.c (y 3))]
theorem g243 : vcall (VN tb0) rounds 6 116 p243 = some r243 := by kernel_rfl
theorem s243 : Spec Go.Proofs.Tryz.prog 116 p243 r243 := fact tk0 g243
def p245 : List PA := [.c (s [108, 97, 116, 101])]
def r245 : List RA := [.c (.c bt)]
theorem g245 : vcall (VN tb0) rounds 6 154 p245 = some r245 := by kernel_rfl
theorem s245 : Spec Go.Proofs.Tryz.prog 154 p245 r245 := fact tk0 g245
def p247 : List PA := [.c (s [115, 105, 100, 101])]
def r247 : List RA := [.c (.c bt)]
theorem g247 : vcall (VN tb0) rounds 6 154 p247 = some r247 := by kernel_rfl
theorem s247 : Spec Go.Proofs.Tryz.prog 154 p247 r247 := fact tk0 g247
def p249 : List PA := [.c (l [[(s [115, 101, 108, 101, 99, 116])]]), .c (s [115, 101, 108, 101, 99, 116])]
def r249 : List RA := [.c (.c (i 0))]
theorem g249 : vcall (VN tb0) rounds 6 187 p249 = some r249 := by kernel_rfl
theorem s249 : Spec Go.Proofs.Tryz.prog 187 p249 r249 := fact tk0 g249
def p250 : List PA := [.c (l [[(s [99, 111, 117, 110, 116])], [(s [115, 117, 109])], [(s [109, 105, 110])], [(s [109, 97, 120])]]), .c (s [115, 117, 109])]
def r250 : List RA := [.c (.c (i 1))]
theorem g250 : vcall (VN tb0) rounds 6 187 p250 = some r250 := by kernel_rfl
theorem s250 : Spec Go.Proofs.Tryz.prog 187 p250 r250 := fact tk0 g250
def p251 : List PA := [.c (l [[(s [40])]]), .c (s [40])]
def r251 : List RA := [.c (.c (i 0))]
theorem g251 : vcall (VN tb0) rounds 6 187 p251 = some r251 := by kernel_rfl
theorem s251 : Spec Go.Proofs.Tryz.prog 187 p251 r251 := fact tk0 g251
def p252 : List PA := []
def r252 : List RA := [.c (.s 9 1 [[(s [42])], [(s [43])], [(s [45])], [(s [60, 60])], [(s [62, 62])], [(s [60])], [(s [60, 61])], [(s [62])], [(s [62, 61])], [(s [61])], [(s [33, 61])], [(s [97, 110, 100])], [(s [111, 114])]])]
theorem g252 : vcall (VN tb0) rounds 6 209 p252 = some r252 := by kernel_rfl
theorem s252 : Spec Go.Proofs.Tryz.prog 209 p252 r252 := fact tk0 g252
def p253 : List PA := [.c (l [[(s [42])], [(s [43])], [(s [45])], [(s [60, 60])], [(s [62, 62])], [(s [60])], [(s [60, 61])], [(s [62])], [(s [62, 61])], [(s [61])], [(s [33, 61])], [(s [97, 110, 100])], [(s [111, 114])]]), .c (s [41])]
def r253 : List RA := [.c (.c (i (-1)))]
theorem g253 : vcall (VN tb0) rounds 6 187 p253 = some r253 := by kernel_rfl
theorem s253 : Spec Go.Proofs.Tryz.prog 187 p253 r253 := fact tk0 g253
def p255 : List PA := [.c (l [[(s [41])]]), .c (s [41])]
def r255 : List RA := [.c (.c (i 0))]
theorem g255 : vcall (VN tb0) rounds 6 187 p255 = some r255 := by kernel_rfl
theorem s255 : Spec Go.Proofs.Tryz.prog 187 p255 r255 := fact tk0 g255
def p256 : List PA := [.c (l [[(s [102, 114, 111, 109])]]), .c (s [102, 114, 111, 109])]
def r256 : List RA := [.c (.c (i 0))]
theorem g256 : vcall (VN tb0) rounds 6 187 p256 = some r256 := by kernel_rfl
theorem s256 : Spec Go.Proofs.Tryz.prog 187 p256 r256 := fact tk0 g256
def p257 : List PA := [.c (l [[(s [97])], [(s [98])], [(s [99])], [(s [100])]]), .c (s [98])]
def r257 : List RA := [.c (.c (i 1))]
theorem g257 : vcall (VN tb0) rounds 6 187 p257 = some r257 := by kernel_rfl
theorem s257 : Spec Go.Proofs.Tryz.prog 187 p257 r257 := fact tk0 g257
def p258 : List PA := [.c (l [[(s [106, 111, 105, 110])]]), .c (s [106, 111, 105, 110])]
def r258 : List RA := [.c (.c (i 0))]
theorem g258 : vcall (VN tb0) rounds 6 187 p258 = some r258 := by kernel_rfl
theorem s258 : Spec Go.Proofs.Tryz.prog 187 p258 r258 := fact tk0 g258
def p259 : List PA := [.c (l [[(s [97])], [(s [98])], [(s [99])], [(s [100])]]), .c (s [100])]
def r259 : List RA := [.c (.c (i 3))]
theorem g259 : vcall (VN tb0) rounds 6 187 p259 = some r259 := by kernel_rfl
theorem s259 : Spec Go.Proofs.Tryz.prog 187 p259 r259 := fact tk0 g259
def p260 : List PA := [.c (l [[(s [119, 104, 101, 114, 101])]]), .c (s [119, 105, 110, 100, 111, 119])]
def r260 : List RA := [.c (.c (i (-1)))]
theorem g260 : vcall (VN tb0) rounds 6 187 p260 = some r260 := by kernel_rfl
theorem s260 : Spec Go.Proofs.Tryz.prog 187 p260 r260 := fact tk0 g260
def p261 : List PA := [.c (l [[(s [119, 105, 110, 100, 111, 119])]]), .c (s [119, 105, 110, 100, 111, 119])]
def r261 : List RA := [.c (.c (i 0))]
theorem g261 : vcall (VN tb0) rounds 6 187 p261 = some r261 := by kernel_rfl
theorem s261 : Spec Go.Proofs.Tryz.prog 187 p261 r261 := fact tk0 g261
def p262 : List PA := [.c (l [[(s [116, 117, 109, 98, 108, 101])], [(s [115, 108, 105, 100, 101])], [(s [115, 101, 115, 115, 105, 111, 110])]]), .c (s [116, 117, 109, 98, 108, 101])]
def r262 : List RA := [.c (.c (i 0))]
theorem g262 : vcall (VN tb0) rounds 6 187 p262 = some r262 := by kernel_rfl
theorem s262 : Spec Go.Proofs.Tryz.prog 187 p262 r262 := fact tk0 g262
def p264 : List PA := [.c (l [[(s [98, 121])]]), .c (s [98, 121])]
def r264 : List RA := [.c (.c (i 0))]
theorem g264 : vcall (VN tb0) rounds 6 187 p264 = some r264 := by kernel_rfl
theorem s264 : Spec Go.Proofs.Tryz.prog 187 p264 r264 := fact tk0 g264
def p265 : List PA := [.c (l [[(s [107, 101, 121])]]), .c (s [107, 101, 121])]
def r265 : List RA := [.c (.c (i 0))]
theorem g265 : vcall (VN tb0) rounds 6 187 p265 = some r265 := by kernel_rfl
theorem s265 : Spec Go.Proofs.Tryz.prog 187 p265 r265 := fact tk0 g265
def p266 : List PA := [.c (l [[(s [108, 97, 116, 101])]]), .c (s [108, 97, 116, 101])]
def r266 : List RA := [.c (.c (i 0))]
theorem g266 : vcall (VN tb0) rounds 6 187 p266 = some r266 := by kernel_rfl
theorem s266 : Spec Go.Proofs.Tryz.prog 187 p266 r266 := fact tk0 g266
def p267 : List PA := [.c (l [[(s [100, 114, 111, 112])], [(s [115, 105, 100, 101])]]), .c (s [115, 105, 100, 101])]
def r267 : List RA := [.c (.c (i 1))]
theorem g267 : vcall (VN tb0) rounds 6 187 p267 = some r267 := by kernel_rfl
theorem s267 : Spec Go.Proofs.Tryz.prog 187 p267 r267 := fact tk0 g267
def m14 : PV := l [[(y 4), (i 0), (i 0), (i 0), (i 11)]]
def p269 : List PA := [.a [(y 2), m14, (l [[(i 1)], [(i 3)]]), bt, e, (y 1), (i 5), (i 0), bt, (y 2)]]
def r269 : List RA := [.c (.c (i 0)), .c (.c (i 0))]
theorem g269 : vcall (VN tb0) rounds 6 47 p269 = some r269 := by kernel_rfl
theorem s269 : Spec Go.Proofs.Tryz.prog 47 p269 r269 := fact tk0 g269
end Tn.Ln
