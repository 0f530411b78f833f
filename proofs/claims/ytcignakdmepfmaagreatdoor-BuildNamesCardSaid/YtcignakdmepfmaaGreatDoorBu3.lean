import Derived.Test.YtcignakdmepfmaaGreatDoorBu2
/- Closed facts of one run, each by the kernel. -/
set_option linter.unusedVariables false
namespace Tn.Bu
open Go Go.Abs Tn
def p127 : List PA := [.a [m5, m6], .c (i 3)]
def r127 : List RA := [.c (.c (l [[(i 1)]]))]
theorem g127 : vcall (VN tb0) rounds 6 72 p127 = some r127 := by kernel_rfl
theorem s127 : Spec Go.Proofs.Tryz.prog 72 p127 r127 := fact tk0 g127
def p131 : List PA := [.a [m5, m6], .c (i 4)]
def r131 : List RA := [.c (.c (l [[(i 2)]]))]
theorem g131 : vcall (VN tb0) rounds 6 72 p131 = some r131 := by kernel_rfl
theorem s131 : Spec Go.Proofs.Tryz.prog 72 p131 r131 := fact tk0 g131
def p135 : List PA := [.a [m5, m6], .c (i 5)]
def r135 : List RA := [.c (.c (l [[(i 4)]]))]
theorem g135 : vcall (VN tb0) rounds 6 72 p135 = some r135 := by kernel_rfl
theorem s135 : Spec Go.Proofs.Tryz.prog 72 p135 r135 := fact tk0 g135
def p138 : List PA := [.c bt, .c (i 4000)]
def r138 : List RA := [.c (.c (i 4000))]
theorem g138 : vcall (VN tb0) rounds 6 189 p138 = some r138 := by kernel_rfl
theorem s138 : Spec Go.Proofs.Tryz.prog 189 p138 r138 := fact tk0 g138
def p142 : List PA := [.a [m5, m6], .c (i 6)]
def r142 : List RA := [.c (.c (l [[(i 10)]]))]
theorem g142 : vcall (VN tb0) rounds 6 109 p142 = some r142 := by kernel_rfl
theorem s142 : Spec Go.Proofs.Tryz.prog 109 p142 r142 := fact tk0 g142
def p146 : List PA := [.a [m5, m6], .c (i 7)]
def r146 : List RA := [.c (.c (l [[(i 11)]]))]
theorem g146 : vcall (VN tb0) rounds 6 109 p146 = some r146 := by kernel_rfl
theorem s146 : Spec Go.Proofs.Tryz.prog 109 p146 r146 := fact tk0 g146
def p150 : List PA := [.a [m5, m6], .c (i 8)]
def r150 : List RA := [.c (.c e)]
theorem g150 : vcall (VN tb0) rounds 6 109 p150 = some r150 := by kernel_rfl
theorem s150 : Spec Go.Proofs.Tryz.prog 109 p150 r150 := fact tk0 g150
def p154 : List PA := [.a [m5, m6], .c (i 9)]
def r154 : List RA := [.c (.c e)]
theorem g154 : vcall (VN tb0) rounds 6 109 p154 = some r154 := by kernel_rfl
theorem s154 : Spec Go.Proofs.Tryz.prog 109 p154 r154 := fact tk0 g154
def m7 : PV := l [[(y 1), (i 0), (i 0), e, e, e, m3, e, e], [(y 1), (i 1), (i 0), e, e, e, e, e, e], [(y 2), (i 0), (i 0), e, (l [[(i (-9223372036854775808))]]), e, e, e, e], [(y 2), (i 1), (i 0), e, (l [[(i (-9223372036854775808))]]), e, e, e, e], [(y 3), (i 0), (i 0), e, e, e, e, e, e], [(y 3), (i 1), (i 0), e, e, e, e, e, e], [(y 5), (i 0), (i 0), e, (l [[(i (-9223372036854775808))], [(i (-9223372036854775808))]]), e, e, e, e], [(y 5), (i 1), (i 0), e, (l [[(i (-9223372036854775808))], [(i (-9223372036854775808))]]), e, e, e, e], [(y 6), (i 0), (i 0), e, e, e, e, e, e], [(y 7), (i 0), (i 0), e, e, e, e, e, e]]
def m8 : PV := l [[(i 3), e], [(i 3), e], [(i 3), e], [(i 3), e], [(i 3), e], [(i 3), e], [(i 3), e], [(i 3), e], [(i 3), e], [(i 3), e], [(i 3), e], [(i 3), e]]
def p156 : List PA := [.a [(y 2), m1, (l [[(i 0)], [(i 1)]]), bt, e, (y 1), (i 5), (i 0), bt, (y 2), m5, m6, m7, m8]]
def r156 : List RA := [.c (.c m4)]
theorem g156 : vcall (VN tb0) rounds 6 59 p156 = some r156 := by kernel_rfl
theorem s156 : Spec Go.Proofs.Tryz.prog 59 p156 r156 := fact tk0 g156
def p178 : List PA := [.a [(y 2), m1, (l [[(i 0)], [(i 1)]]), bt, e, (y 1), (i 5), (i 0), bt, (y 2), m5, m6, m7, m8], .c e]
def r178 : List RA := [.c (.c e)]
theorem g178 : vcall (VN tb0) rounds 6 71 p178 = some r178 := by kernel_rfl
theorem s178 : Spec Go.Proofs.Tryz.prog 71 p178 r178 := fact tk0 g178
def p179 : List PA := [.a [(y 2), m1, (l [[(i 0)], [(i 1)]]), bt, e, (y 1), (i 5), (i 0), bt, (y 2), m5, m6, m7, m8], .c (l [[(i 0)]])]
def r179 : List RA := [.c (.c (l [[(i 3), e]]))]
theorem g179 : vcall (VN tb0) rounds 6 71 p179 = some r179 := by kernel_rfl
theorem s179 : Spec Go.Proofs.Tryz.prog 71 p179 r179 := fact tk0 g179
def m9 : PV := l [[(i 0), (y 1), (i 1), (i 2), (i 3), (i 0), (i 0), (i 0), (i 0), (i 0), (i 0)]]
def m10 : PV := l [[bt, (i 9223372036854775807), (i 0), (i 0), (i 0)]]
def m11 : PV := l [[(y 1), (i 0), (i 0), m9, e, e, m10, e, e], [(y 1), (i 1), (i 0), e, e, e, e, e, e], [(y 2), (i 0), (i 0), e, (l [[(i (-9223372036854775808))]]), e, e, e, e], [(y 2), (i 1), (i 0), e, (l [[(i (-9223372036854775808))]]), e, e, e, e], [(y 3), (i 0), (i 0), e, e, e, e, e, e], [(y 3), (i 1), (i 0), e, e, e, e, e, e], [(y 5), (i 0), (i 0), e, (l [[(i (-9223372036854775808))], [(i (-9223372036854775808))]]), e, e, e, e], [(y 5), (i 1), (i 0), e, (l [[(i (-9223372036854775808))], [(i (-9223372036854775808))]]), e, e, e, e], [(y 6), (i 0), (i 0), e, e, e, e, e, e], [(y 7), (i 0), (i 0), e, e, e, e, e, e]]
def m12 : PV := l [[m10], [e]]
def p195 : List PA := [.a [(y 2), m1, (l [[(i 0)], [(i 1)]]), bt, e, (y 1), (i 5), (i 0), bt, (y 2), m5, m6, m11, m8]]
def r195 : List RA := [.c (.c m12)]
theorem g195 : vcall (VN tb0) rounds 6 59 p195 = some r195 := by kernel_rfl
theorem s195 : Spec Go.Proofs.Tryz.prog 59 p195 r195 := fact tk0 g195
def p196 : List PA := [.c (i 0), .q [m12]]
def r196 : List RA := [.a [.c (y 1), .c (i 0), .c (i 0), .c e, .c e, .c e, .s 34 5 [[bt, (i 9223372036854775807), (i 0), (i 0), (i 0)]], .c e, .c e], .c (.c (i 0))]
theorem g196 : vcall (VN tb0) rounds 6 47 p196 = some r196 := by kernel_rfl
theorem s196 : Spec Go.Proofs.Tryz.prog 47 p196 r196 := fact tk0 g196
def p197 : List PA := [.c (i 1), .q [m12]]
def r197 : List RA := [.a [.c (y 1), .c (i 1), .c (i 0), .c e, .c e, .c e, .s 34 5 [], .c e, .c e], .c (.c (i 0))]
theorem g197 : vcall (VN tb0) rounds 6 47 p197 = some r197 := by kernel_rfl
theorem s197 : Spec Go.Proofs.Tryz.prog 47 p197 r197 := fact tk0 g197
def p211 : List PA := [.a [(y 2), m1, (l [[(i 0)], [(i 1)]]), bt, e, (y 1), (i 5), (i 0), bt, (y 2), m5, m6, m11, m8], .c e]
def r211 : List RA := [.c (.c e)]
theorem g211 : vcall (VN tb0) rounds 6 71 p211 = some r211 := by kernel_rfl
theorem s211 : Spec Go.Proofs.Tryz.prog 71 p211 r211 := fact tk0 g211
def p212 : List PA := [.a [(y 2), m1, (l [[(i 0)], [(i 1)]]), bt, e, (y 1), (i 5), (i 0), bt, (y 2), m5, m6, m11, m8], .c (l [[(i 0)]])]
def r212 : List RA := [.c (.c (l [[(i 3), e]]))]
theorem g212 : vcall (VN tb0) rounds 6 71 p212 = some r212 := by kernel_rfl
theorem s212 : Spec Go.Proofs.Tryz.prog 71 p212 r212 := fact tk0 g212
def p214 : List PA := [.a [(i 3), e], .a [(y 1), (i 1), (i 2), (i 3), (i 0), (i 0), (i 0), (i 0), (i 0), (i 0)]]
def r214 : List RA := [.a [.c (i 3), .s 154 10 [[(y 1), (i 1), (i 2), (i 3), (i 0), (i 0), (i 0), (i 0), (i 0), (i 0)]]], .c (.c (i 0))]
theorem g214 : vcall (VN tb0) rounds 6 156 p214 = some r214 := by kernel_rfl
theorem s214 : Spec Go.Proofs.Tryz.prog 156 p214 r214 := fact tk0 g214
def m13 : PV := l [[(y 1), (i 1), (i 2), (i 3), (i 0), (i 0), (i 0), (i 0), (i 0), (i 0)]]
def p218 : List PA := [.a [(i 3), m13]]
def r218 : List RA := [.c (.c (i 0))]
theorem g218 : vcall (VN tb0) rounds 6 103 p218 = some r218 := by kernel_rfl
theorem s218 : Spec Go.Proofs.Tryz.prog 103 p218 r218 := fact tk0 g218
def m14 : PV := l [[(y 1), (i 0), (i 0), e, e, e, m10, e, e], [(y 1), (i 1), (i 0), e, e, e, e, e, e], [(y 2), (i 0), (i 0), e, (l [[(i (-9223372036854775808))]]), e, e, e, e], [(y 2), (i 1), (i 0), e, (l [[(i (-9223372036854775808))]]), e, e, e, e], [(y 3), (i 0), (i 0), e, e, e, e, e, e], [(y 3), (i 1), (i 0), e, e, e, e, e, e], [(y 5), (i 0), (i 0), e, (l [[(i (-9223372036854775808))], [(i (-9223372036854775808))]]), e, e, e, e], [(y 5), (i 1), (i 0), e, (l [[(i (-9223372036854775808))], [(i (-9223372036854775808))]]), e, e, e, e], [(y 6), (i 0), (i 0), e, e, e, e, e, e], [(y 7), (i 0), (i 0), e, e, e, e, e, e]]
def m15 : PV := l [[(i 3), m13], [(i 3), e], [(i 3), e], [(i 3), e], [(i 3), e], [(i 3), e], [(i 3), e], [(i 3), e], [(i 3), e], [(i 3), e], [(i 3), e], [(i 3), e]]
def p220 : List PA := [.a [(y 2), m1, (l [[(i 0)], [(i 1)]]), bt, e, (y 1), (i 5), (i 0), bt, (y 2), m5, m6, m14, m15]]
def r220 : List RA := [.c (.c m12)]
theorem g220 : vcall (VN tb0) rounds 6 59 p220 = some r220 := by kernel_rfl
theorem s220 : Spec Go.Proofs.Tryz.prog 59 p220 r220 := fact tk0 g220
def p222 : List PA := [.a [(y 0), e, e, bf, e, (y 0), (i 0), (i 0), bf, (y 0)]]
def r222 : List RA := [.c (.c (i 0)), .c (.c (i 8))]
theorem g222 : vcall (VN tb0) rounds 6 41 p222 = some r222 := by kernel_rfl
theorem s222 : Spec Go.Proofs.Tryz.prog 41 p222 r222 := fact tk0 g222
def p235 : List PA := [.c (s [])]
def r235 : List RA := [.c (.c e), .c (.c (i 0)), .c (.c (i 0))]
theorem g235 : vcall (VN tb0) rounds 6 86 p235 = some r235 := by kernel_rfl
theorem s235 : Spec Go.Proofs.Tryz.prog 86 p235 r235 := fact tk0 g235
def p241 : List PA := [.c (s [99, 111, 117, 110, 116])]
def r241 : List RA := [.c (.c bt)]
theorem g241 : vcall (VN tb0) rounds 6 173 p241 = some r241 := by kernel_rfl
theorem s241 : Spec Go.Proofs.Tryz.prog 173 p241 r241 := fact tk0 g241
def p244 : List PA := [.c (y 42)]
def r244 : List RA := [.c (.c (y 4))]
theorem g244 : vcall (VN tb0) rounds 6 134 p244 = some r244 := by kernel_rfl
theorem s244 : Spec Go.Proofs.Tryz.prog 134 p244 r244 := fact tk0 g244
def p256 : List PA := [.c m0, .c (s [99, 111, 117, 110, 116])]
def r256 : List RA := [.c (.c (i 0))]
theorem g256 : vcall (VN tb0) rounds 6 224 p256 = some r256 := by kernel_rfl
theorem s256 : Spec Go.Proofs.Tryz.prog 224 p256 r256 := fact tk0 g256
def p257 : List PA := [.c (l [[(s [42])]]), .c (s [42])]
def r257 : List RA := [.c (.c (i 0))]
theorem g257 : vcall (VN tb0) rounds 6 224 p257 = some r257 := by kernel_rfl
theorem s257 : Spec Go.Proofs.Tryz.prog 224 p257 r257 := fact tk0 g257
def p258 : List PA := [.c (l [[(s [106, 111, 105, 110])]]), .c (s [119, 105, 110, 100, 111, 119])]
def r258 : List RA := [.c (.c (i (-1)))]
theorem g258 : vcall (VN tb0) rounds 6 224 p258 = some r258 := by kernel_rfl
theorem s258 : Spec Go.Proofs.Tryz.prog 224 p258 r258 := fact tk0 g258
def p259 : List PA := [.c (l [[(s [117, 110, 105, 111, 110])]]), .c (s [119, 105, 110, 100, 111, 119])]
def r259 : List RA := [.c (.c (i (-1)))]
theorem g259 : vcall (VN tb0) rounds 6 224 p259 = some r259 := by kernel_rfl
theorem s259 : Spec Go.Proofs.Tryz.prog 224 p259 r259 := fact tk0 g259
def p261 : List PA := [.a [(y 1), e, (l [[(i 0)]]), bf, e, (y 1), (i 5), (i 0), bf, (y 1)]]
def r261 : List RA := [.c (.c (i 0)), .c (.c (i 0))]
theorem g261 : vcall (VN tb0) rounds 6 41 p261 = some r261 := by kernel_rfl
theorem s261 : Spec Go.Proofs.Tryz.prog 41 p261 r261 := fact tk0 g261
def p277 : List PA := [.c (l [[(s [106, 111, 105, 110])]]), .c (s [102, 114, 111, 109])]
def r277 : List RA := [.c (.c (i (-1)))]
theorem g277 : vcall (VN tb0) rounds 6 224 p277 = some r277 := by kernel_rfl
theorem s277 : Spec Go.Proofs.Tryz.prog 224 p277 r277 := fact tk0 g277
def p278 : List PA := [.c (l [[(s [117, 110, 105, 111, 110])]]), .c (s [102, 114, 111, 109])]
def r278 : List RA := [.c (.c (i (-1)))]
theorem g278 : vcall (VN tb0) rounds 6 224 p278 = some r278 := by kernel_rfl
theorem s278 : Spec Go.Proofs.Tryz.prog 224 p278 r278 := fact tk0 g278
def p279 : List PA := [.c (l [[(s [119, 104, 101, 114, 101])]]), .c (s [102, 114, 111, 109])]
def r279 : List RA := [.c (.c (i (-1)))]
theorem g279 : vcall (VN tb0) rounds 6 224 p279 = some r279 := by kernel_rfl
theorem s279 : Spec Go.Proofs.Tryz.prog 224 p279 r279 := fact tk0 g279
def p280 : List PA := [.c (l [[(s [119, 105, 110, 100, 111, 119])]]), .c (s [102, 114, 111, 109])]
def r280 : List RA := [.c (.c (i (-1)))]
theorem g280 : vcall (VN tb0) rounds 6 224 p280 = some r280 := by kernel_rfl
theorem s280 : Spec Go.Proofs.Tryz.prog 224 p280 r280 := fact tk0 g280
def p287 : List PA := [.a [(y 1), e, (l [[(i 0)]]), bf, e, (y 1), (i 5), (i 0), bf, (y 1)]]
def r287 : List RA := [.c (.s 5 1 [[(y 1)], [(y 2)], [(y 4)], [(y 6)], [(y 7)], [(y 9)]])]
theorem g287 : vcall (VN tb0) rounds 6 93 p287 = some r287 := by kernel_rfl
theorem s287 : Spec Go.Proofs.Tryz.prog 93 p287 r287 := fact tk0 g287
def m16 : PV := l [[(y 1)], [(y 2)], [(y 4)], [(y 6)], [(y 7)], [(y 9)]]
def p289 : List PA := [.c m16, .c m16]
def r289 : List RA := [.c (.c bt)]
theorem g289 : vcall (VN tb0) rounds 6 147 p289 = some r289 := by kernel_rfl
theorem s289 : Spec Go.Proofs.Tryz.prog 147 p289 r289 := fact tk0 g289
def p291 : List PA := [.c (i 0), .q [(l [[e]])]]
def r291 : List RA := [.a [.c (y 1), .c (i 0), .c (i 0), .c e, .c e, .c e, .s 34 5 [], .c e, .c e], .c (.c (i 0))]
theorem g291 : vcall (VN tb0) rounds 6 47 p291 = some r291 := by kernel_rfl
theorem s291 : Spec Go.Proofs.Tryz.prog 47 p291 r291 := fact tk0 g291
def p292 : List PA := [.c (i 0), .q [(y 1), e, (l [[(i 0)]]), bf, e, (y 1), (i 5), (i 0), bf, (y 1)]]
def r292 : List RA := [.a [.c (y 4), .c (i 0), .c (i 0), .c e, .s 2 1 [[(i (-9223372036854775808))]], .c e, .c e, .c e, .c e], .c (.c (i 0))]
theorem g292 : vcall (VN tb0) rounds 6 51 p292 = some r292 := by kernel_rfl
theorem s292 : Spec Go.Proofs.Tryz.prog 51 p292 r292 := fact tk0 g292
def p295 : List PA := [.c (l [[(i 0)]]), .a [(i 1), (i 2)]]
def r295 : List RA := [.c (.c bt)]
theorem g295 : vcall (VN tb0) rounds 6 187 p295 = some r295 := by kernel_rfl
theorem s295 : Spec Go.Proofs.Tryz.prog 187 p295 r295 := fact tk0 g295
def p296 : List PA := [.c (l [[(i 0)]]), .a [(i 1), (i 4)]]
def r296 : List RA := [.c (.c bt)]
theorem g296 : vcall (VN tb0) rounds 6 187 p296 = some r296 := by kernel_rfl
theorem s296 : Spec Go.Proofs.Tryz.prog 187 p296 r296 := fact tk0 g296
def p297 : List PA := [.c (l [[(i 0)]]), .a [(i 1), (i 3)]]
def r297 : List RA := [.c (.c bt)]
theorem g297 : vcall (VN tb0) rounds 6 187 p297 = some r297 := by kernel_rfl
theorem s297 : Spec Go.Proofs.Tryz.prog 187 p297 r297 := fact tk0 g297
def p300 : List PA := [.a [(i 1), e]]
def r300 : List RA := [.c (.c (i 0))]
theorem g300 : vcall (VN tb0) rounds 6 103 p300 = some r300 := by kernel_rfl
theorem s300 : Spec Go.Proofs.Tryz.prog 103 p300 r300 := fact tk0 g300
def m17 : PV := l [[(y 1), (i 0)], [(y 2), (i 0)], [(y 4), (i 0)], [(y 6), (i 0)]]
def m18 : PV := l [[(i 0), (i 0), (i 1), (i 0), (i 1)], [(i 1), (i 0), (i 2), (i 0), (i 1)], [(i 2), (i 0), (i 3), (i 0), (i 1)]]
def p302 : List PA := [.a [m17, m18], .c (i 0)]
def r302 : List RA := [.c (.c e)]
theorem g302 : vcall (VN tb0) rounds 6 72 p302 = some r302 := by kernel_rfl
theorem s302 : Spec Go.Proofs.Tryz.prog 72 p302 r302 := fact tk0 g302
def p303 : List PA := [.a [m17, m18], .c (i 0)]
def r303 : List RA := [.c (.c (l [[(i 0)]]))]
theorem g303 : vcall (VN tb0) rounds 6 109 p303 = some r303 := by kernel_rfl
theorem s303 : Spec Go.Proofs.Tryz.prog 109 p303 r303 := fact tk0 g303
def p304 : List PA := [.a [m17, m18], .c (i 1)]
def r304 : List RA := [.c (.c (l [[(i 0)]]))]
theorem g304 : vcall (VN tb0) rounds 6 72 p304 = some r304 := by kernel_rfl
theorem s304 : Spec Go.Proofs.Tryz.prog 72 p304 r304 := fact tk0 g304
def p305 : List PA := [.a [m17, m18], .c (i 1)]
def r305 : List RA := [.c (.c (l [[(i 1)]]))]
theorem g305 : vcall (VN tb0) rounds 6 109 p305 = some r305 := by kernel_rfl
theorem s305 : Spec Go.Proofs.Tryz.prog 109 p305 r305 := fact tk0 g305
def p307 : List PA := [.a [m17, m18], .c (i 2)]
def r307 : List RA := [.c (.c (l [[(i 1)]]))]
theorem g307 : vcall (VN tb0) rounds 6 72 p307 = some r307 := by kernel_rfl
theorem s307 : Spec Go.Proofs.Tryz.prog 72 p307 r307 := fact tk0 g307
def p308 : List PA := [.a [m17, m18], .c (i 2)]
def r308 : List RA := [.c (.c (l [[(i 2)]]))]
theorem g308 : vcall (VN tb0) rounds 6 109 p308 = some r308 := by kernel_rfl
theorem s308 : Spec Go.Proofs.Tryz.prog 109 p308 r308 := fact tk0 g308
def p309 : List PA := [.a [m17, m18], .c (i 3)]
def r309 : List RA := [.c (.c (l [[(i 2)]]))]
theorem g309 : vcall (VN tb0) rounds 6 72 p309 = some r309 := by kernel_rfl
theorem s309 : Spec Go.Proofs.Tryz.prog 72 p309 r309 := fact tk0 g309
def p310 : List PA := [.a [m17, m18], .c (i 3)]
def r310 : List RA := [.c (.c e)]
theorem g310 : vcall (VN tb0) rounds 6 109 p310 = some r310 := by kernel_rfl
theorem s310 : Spec Go.Proofs.Tryz.prog 109 p310 r310 := fact tk0 g310
def tb1 : List (FuncId × List PA × List RA) := [(134, p0, r0), (134, p1, r1), (134, p2, r2), (134, p3, r3), (134, p4, r4), (134, p5, r5), (173, p7, r7), (134, p8, r8), (134, p9, r9), (134, p10, r10), (173, p12, r12), (134, p16, r16), (134, p17, r17), (173, p19, r19), (134, p23, r23), (134, p24, r24), (134, p25, r25), (173, p27, r27), (134, p28, r28), (173, p30, r30), (134, p31, r31), (134, p32, r32), (134, p33, r33), (173, p35, r35), (134, p36, r36), (173, p38, r38), (134, p39, r39), (134, p40, r40), (173, p42, r42), (173, p44, r44), (134, p45, r45), (252, p47, r47), (254, p48, r48), (253, p49, r49), (290, p51, r51), (134, p54, r54), (173, p56, r56), (134, p57, r57), (173, p59, r59), (173, p61, r61), (173, p63, r63), (224, p65, r65), (224, p66, r66), (224, p67, r67), (264, p68, r68), (224, p69, r69), (224, p71, r71), (224, p72, r72), (224, p73, r73), (224, p74, r74), (224, p75, r75), (224, p76, r76), (224, p77, r77), (224, p78, r78), (224, p80, r80), (224, p81, r81), (224, p82, r82), (224, p83, r83), (41, p85, r85), (93, p87, r87), (147, p89, r89), (47, p91, r91), (47, p92, r92), (49, p93, r93), (49, p94, r94), (50, p95, r95), (50, p96, r96), (53, p97, r97), (53, p98, r98), (54, p99, r99), (56, p100, r100), (187, p102, r102), (187, p103, r103), (308, p104, r104), (103, p111, r111), (189, p112, r112), (189, p113, r113), (72, p115, r115), (109, p116, r116), (72, p118, r118), (109, p119, r119), (189, p120, r120), (72, p122, r122), (118, p123, r123), (72, p127, r127), (72, p131, r131), (72, p135, r135), (189, p138, r138), (109, p142, r142), (109, p146, r146), (109, p150, r150), (109, p154, r154), (59, p156, r156), (71, p178, r178), (71, p179, r179), (59, p195, r195), (47, p196, r196), (47, p197, r197), (71, p211, r211), (71, p212, r212), (156, p214, r214), (103, p218, r218), (59, p220, r220), (41, p222, r222), (86, p235, r235), (173, p241, r241), (134, p244, r244), (224, p256, r256), (224, p257, r257), (224, p258, r258), (224, p259, r259), (41, p261, r261), (224, p277, r277), (224, p278, r278), (224, p279, r279), (224, p280, r280), (93, p287, r287), (147, p289, r289), (47, p291, r291), (51, p292, r292), (187, p295, r295), (187, p296, r296), (187, p297, r297), (103, p300, r300), (72, p302, r302), (109, p303, r303), (72, p304, r304), (109, p305, r305), (72, p307, r307), (109, p308, r308), (72, p309, r309), (109, p310, r310)] ++ tb0
theorem tk1 : TOK Go.Proofs.Tryz.prog tb1 := TOK.app (l := [(134, p0, r0), (134, p1, r1), (134, p2, r2), (134, p3, r3), (134, p4, r4), (134, p5, r5), (173, p7, r7), (134, p8, r8), (134, p9, r9), (134, p10, r10), (173, p12, r12), (134, p16, r16), (134, p17, r17), (173, p19, r19), (134, p23, r23), (134, p24, r24), (134, p25, r25), (173, p27, r27), (134, p28, r28), (173, p30, r30), (134, p31, r31), (134, p32, r32), (134, p33, r33), (173, p35, r35), (134, p36, r36), (173, p38, r38), (134, p39, r39), (134, p40, r40), (173, p42, r42), (173, p44, r44), (134, p45, r45), (252, p47, r47), (254, p48, r48), (253, p49, r49), (290, p51, r51), (134, p54, r54), (173, p56, r56), (134, p57, r57), (173, p59, r59), (173, p61, r61), (173, p63, r63), (224, p65, r65), (224, p66, r66), (224, p67, r67), (264, p68, r68), (224, p69, r69), (224, p71, r71), (224, p72, r72), (224, p73, r73), (224, p74, r74), (224, p75, r75), (224, p76, r76), (224, p77, r77), (224, p78, r78), (224, p80, r80), (224, p81, r81), (224, p82, r82), (224, p83, r83), (41, p85, r85), (93, p87, r87), (147, p89, r89), (47, p91, r91), (47, p92, r92), (49, p93, r93), (49, p94, r94), (50, p95, r95), (50, p96, r96), (53, p97, r97), (53, p98, r98), (54, p99, r99), (56, p100, r100), (187, p102, r102), (187, p103, r103), (308, p104, r104), (103, p111, r111), (189, p112, r112), (189, p113, r113), (72, p115, r115), (109, p116, r116), (72, p118, r118), (109, p119, r119), (189, p120, r120), (72, p122, r122), (118, p123, r123), (72, p127, r127), (72, p131, r131), (72, p135, r135), (189, p138, r138), (109, p142, r142), (109, p146, r146), (109, p150, r150), (109, p154, r154), (59, p156, r156), (71, p178, r178), (71, p179, r179), (59, p195, r195), (47, p196, r196), (47, p197, r197), (71, p211, r211), (71, p212, r212), (156, p214, r214), (103, p218, r218), (59, p220, r220), (41, p222, r222), (86, p235, r235), (173, p241, r241), (134, p244, r244), (224, p256, r256), (224, p257, r257), (224, p258, r258), (224, p259, r259), (41, p261, r261), (224, p277, r277), (224, p278, r278), (224, p279, r279), (224, p280, r280), (93, p287, r287), (147, p289, r289), (47, p291, r291), (51, p292, r292), (187, p295, r295), (187, p296, r296), (187, p297, r297), (103, p300, r300), (72, p302, r302), (109, p303, r303), (72, p304, r304), (109, p305, r305), (72, p307, r307), (109, p308, r308), (72, p309, r309), (109, p310, r310)]) ⟨s0, s1, s2, s3, s4, s5, s7, s8, s9, s10, s12, s16, s17, s19, s23, s24, s25, s27, s28, s30, s31, s32, s33, s35, s36, s38, s39, s40, s42, s44, s45, s47, s48, s49, s51, s54, s56, s57, s59, s61, s63, s65, s66, s67, s68, s69, s71, s72, s73, s74, s75, s76, s77, s78, s80, s81, s82, s83, s85, s87, s89, s91, s92, s93, s94, s95, s96, s97, s98, s99, s100, s102, s103, s104, s111, s112, s113, s115, s116, s118, s119, s120, s122, s123, s127, s131, s135, s138, s142, s146, s150, s154, s156, s178, s179, s195, s196, s197, s211, s212, s214, s218, s220, s222, s235, s241, s244, s256, s257, s258, s259, s261, s277, s278, s279, s280, s287, s289, s291, s292, s295, s296, s297, s300, s302, s303, s304, s305, s307, s308, s309, s310, trivial⟩ tk0
def p6 : List PA := [.c (s [115, 101, 108, 101, 99, 116, 32, 115, 117, 109, 40, 118, 41, 32, 102, 114, 111, 109, 32, 97, 32, 106, 111, 105, 110, 32, 98, 32, 119, 105, 110, 100, 111, 119, 32, 116, 117, 109, 98, 108, 101, 32, 53, 32, 98, 121, 32, 107, 101, 121, 32, 108, 97, 116, 101, 32, 115, 105, 100, 101])]
def r6 : List RA := [.a [.c (y 2), .c (s [115, 101, 108, 101, 99, 116]), .c (i 0)]]
theorem g6 : vcall (VN tb1) rounds 6 135 p6 = some r6 := by kernel_rfl
theorem s6 : Spec Go.Proofs.Tryz.prog 135 p6 r6 := fact tk1 g6
def p11 : List PA := [.c (s [115, 117, 109, 40, 118, 41, 32, 102, 114, 111, 109, 32, 97, 32, 106, 111, 105, 110, 32, 98, 32, 119, 105, 110, 100, 111, 119, 32, 116, 117, 109, 98, 108, 101, 32, 53, 32, 98, 121, 32, 107, 101, 121, 32, 108, 97, 116, 101, 32, 115, 105, 100, 101])]
def r11 : List RA := [.a [.c (y 2), .c (s [115, 117, 109]), .c (i 0)]]
theorem g11 : vcall (VN tb1) rounds 6 135 p11 = some r11 := by kernel_rfl
theorem s11 : Spec Go.Proofs.Tryz.prog 135 p11 r11 := fact tk1 g11
def p13 : List PA := [.c (s [40, 118, 41, 32, 102, 114, 111, 109, 32, 97, 32, 106, 111, 105, 110, 32, 98, 32, 119, 105, 110, 100, 111, 119, 32, 116, 117, 109, 98, 108, 101, 32, 53, 32, 98, 121, 32, 107, 101, 121, 32, 108, 97, 116, 101, 32, 115, 105, 100, 101]), .c (i 0)]
def r13 : List RA := [.c (.c (i 1)), .c (.c (i 0))]
theorem g13 : vcall (VN tb1) rounds 6 171 p13 = some r13 := by kernel_rfl
theorem s13 : Spec Go.Proofs.Tryz.prog 171 p13 r13 := fact tk1 g13
def p15 : List PA := [.c (s [40]), .c (i 0)]
def r15 : List RA := [.c (.c (i 1)), .c (.c (i 0))]
theorem g15 : vcall (VN tb1) rounds 6 171 p15 = some r15 := by kernel_rfl
theorem s15 : Spec Go.Proofs.Tryz.prog 171 p15 r15 := fact tk1 g15
def p18 : List PA := [.c (s [118, 41, 32, 102, 114, 111, 109, 32, 97, 32, 106, 111, 105, 110, 32, 98, 32, 119, 105, 110, 100, 111, 119, 32, 116, 117, 109, 98, 108, 101, 32, 53, 32, 98, 121, 32, 107, 101, 121, 32, 108, 97, 116, 101, 32, 115, 105, 100, 101])]
def r18 : List RA := [.a [.c (y 2), .c (s [118]), .c (i 0)]]
theorem g18 : vcall (VN tb1) rounds 6 135 p18 = some r18 := by kernel_rfl
theorem s18 : Spec Go.Proofs.Tryz.prog 135 p18 r18 := fact tk1 g18
def p20 : List PA := [.c (s [41, 32, 102, 114, 111, 109, 32, 97, 32, 106, 111, 105, 110, 32, 98, 32, 119, 105, 110, 100, 111, 119, 32, 116, 117, 109, 98, 108, 101, 32, 53, 32, 98, 121, 32, 107, 101, 121, 32, 108, 97, 116, 101, 32, 115, 105, 100, 101]), .c (i 0)]
def r20 : List RA := [.c (.c (i 1)), .c (.c (i 0))]
theorem g20 : vcall (VN tb1) rounds 6 171 p20 = some r20 := by kernel_rfl
theorem s20 : Spec Go.Proofs.Tryz.prog 171 p20 r20 := fact tk1 g20
def p22 : List PA := [.c (s [41]), .c (i 0)]
def r22 : List RA := [.c (.c (i 1)), .c (.c (i 0))]
theorem g22 : vcall (VN tb1) rounds 6 171 p22 = some r22 := by kernel_rfl
theorem s22 : Spec Go.Proofs.Tryz.prog 171 p22 r22 := fact tk1 g22
def p26 : List PA := [.c (s [102, 114, 111, 109, 32, 97, 32, 106, 111, 105, 110, 32, 98, 32, 119, 105, 110, 100, 111, 119, 32, 116, 117, 109, 98, 108, 101, 32, 53, 32, 98, 121, 32, 107, 101, 121, 32, 108, 97, 116, 101, 32, 115, 105, 100, 101])]
def r26 : List RA := [.a [.c (y 2), .c (s [102, 114, 111, 109]), .c (i 0)]]
theorem g26 : vcall (VN tb1) rounds 6 135 p26 = some r26 := by kernel_rfl
theorem s26 : Spec Go.Proofs.Tryz.prog 135 p26 r26 := fact tk1 g26
def p29 : List PA := [.c (s [97, 32, 106, 111, 105, 110, 32, 98, 32, 119, 105, 110, 100, 111, 119, 32, 116, 117, 109, 98, 108, 101, 32, 53, 32, 98, 121, 32, 107, 101, 121, 32, 108, 97, 116, 101, 32, 115, 105, 100, 101])]
def r29 : List RA := [.a [.c (y 2), .c (s [97]), .c (i 0)]]
theorem g29 : vcall (VN tb1) rounds 6 135 p29 = some r29 := by kernel_rfl
theorem s29 : Spec Go.Proofs.Tryz.prog 135 p29 r29 := fact tk1 g29
def p34 : List PA := [.c (s [106, 111, 105, 110, 32, 98, 32, 119, 105, 110, 100, 111, 119, 32, 116, 117, 109, 98, 108, 101, 32, 53, 32, 98, 121, 32, 107, 101, 121, 32, 108, 97, 116, 101, 32, 115, 105, 100, 101])]
def r34 : List RA := [.a [.c (y 2), .c (s [106, 111, 105, 110]), .c (i 0)]]
theorem g34 : vcall (VN tb1) rounds 6 135 p34 = some r34 := by kernel_rfl
theorem s34 : Spec Go.Proofs.Tryz.prog 135 p34 r34 := fact tk1 g34
def p37 : List PA := [.c (s [98, 32, 119, 105, 110, 100, 111, 119, 32, 116, 117, 109, 98, 108, 101, 32, 53, 32, 98, 121, 32, 107, 101, 121, 32, 108, 97, 116, 101, 32, 115, 105, 100, 101])]
def r37 : List RA := [.a [.c (y 2), .c (s [98]), .c (i 0)]]
theorem g37 : vcall (VN tb1) rounds 6 135 p37 = some r37 := by kernel_rfl
theorem s37 : Spec Go.Proofs.Tryz.prog 135 p37 r37 := fact tk1 g37
def p41 : List PA := [.c (s [119, 105, 110, 100, 111, 119, 32, 116, 117, 109, 98, 108, 101, 32, 53, 32, 98, 121, 32, 107, 101, 121, 32, 108, 97, 116, 101, 32, 115, 105, 100, 101])]
def r41 : List RA := [.a [.c (y 2), .c (s [119, 105, 110, 100, 111, 119]), .c (i 0)]]
theorem g41 : vcall (VN tb1) rounds 6 135 p41 = some r41 := by kernel_rfl
theorem s41 : Spec Go.Proofs.Tryz.prog 135 p41 r41 := fact tk1 g41
def p43 : List PA := [.c (s [116, 117, 109, 98, 108, 101, 32, 53, 32, 98, 121, 32, 107, 101, 121, 32, 108, 97, 116, 101, 32, 115, 105, 100, 101])]
def r43 : List RA := [.a [.c (y 2), .c (s [116, 117, 109, 98, 108, 101]), .c (i 0)]]
theorem g43 : vcall (VN tb1) rounds 6 135 p43 = some r43 := by kernel_rfl
theorem s43 : Spec Go.Proofs.Tryz.prog 135 p43 r43 := fact tk1 g43
def p46 : List PA := [.c (s [53, 32, 98, 121, 32, 107, 101, 121, 32, 108, 97, 116, 101, 32, 115, 105, 100, 101])]
def r46 : List RA := [.a [.c (y 1), .c (s [53]), .c (i 0)]]
theorem g46 : vcall (VN tb1) rounds 6 135 p46 = some r46 := by kernel_rfl
theorem s46 : Spec Go.Proofs.Tryz.prog 135 p46 r46 := fact tk1 g46
def p50 : List PA := [.c (s [53]), .c (s [48, 49, 50, 51, 52, 53, 54, 55, 56, 57])]
def r50 : List RA := [.c (.c (s []))]
theorem g50 : vcall (VN tb1) rounds 6 218 p50 = some r50 := by kernel_rfl
theorem s50 : Spec Go.Proofs.Tryz.prog 218 p50 r50 := fact tk1 g50
def p52 : List PA := [.c (s [53]), .c (i 10), .c (i 64)]
def r52 : List RA := [.c (.c (i 5)), .c (.e false)]
theorem g52 : vcall (VN tb1) rounds 6 257 p52 = some r52 := by kernel_rfl
theorem s52 : Spec Go.Proofs.Tryz.prog 257 p52 r52 := fact tk1 g52
def p55 : List PA := [.c (s [98, 121, 32, 107, 101, 121, 32, 108, 97, 116, 101, 32, 115, 105, 100, 101])]
def r55 : List RA := [.a [.c (y 2), .c (s [98, 121]), .c (i 0)]]
theorem g55 : vcall (VN tb1) rounds 6 135 p55 = some r55 := by kernel_rfl
theorem s55 : Spec Go.Proofs.Tryz.prog 135 p55 r55 := fact tk1 g55
def p58 : List PA := [.c (s [107, 101, 121, 32, 108, 97, 116, 101, 32, 115, 105, 100, 101])]
def r58 : List RA := [.a [.c (y 2), .c (s [107, 101, 121]), .c (i 0)]]
theorem g58 : vcall (VN tb1) rounds 6 135 p58 = some r58 := by kernel_rfl
theorem s58 : Spec Go.Proofs.Tryz.prog 135 p58 r58 := fact tk1 g58
def p60 : List PA := [.c (s [108, 97, 116, 101, 32, 115, 105, 100, 101])]
def r60 : List RA := [.a [.c (y 2), .c (s [108, 97, 116, 101]), .c (i 0)]]
theorem g60 : vcall (VN tb1) rounds 6 135 p60 = some r60 := by kernel_rfl
theorem s60 : Spec Go.Proofs.Tryz.prog 135 p60 r60 := fact tk1 g60
def p62 : List PA := [.c (s [115, 105, 100, 101])]
def r62 : List RA := [.a [.c (y 2), .c (s [115, 105, 100, 101]), .c (i 0)]]
theorem g62 : vcall (VN tb1) rounds 6 135 p62 = some r62 := by kernel_rfl
theorem s62 : Spec Go.Proofs.Tryz.prog 135 p62 r62 := fact tk1 g62
def p88 : List PA := [.a [(y 2), m1, (l [[(i 0)], [(i 1)]]), bt, e, (y 1), (i 5), (i 0), bt, (y 2)]]
def r88 : List RA := [.a [.c m2, .c (y 2), .c m1, .c (l [[(i 0)], [(i 1)]]), .c bt, .c e, .c (y 1), .c (i 5), .c (i 0), .c bt, .c (y 2)], .c (.c (i 0))]
theorem g88 : vcall (VN tb1) rounds 6 43 p88 = some r88 := by kernel_rfl
theorem s88 : Spec Go.Proofs.Tryz.prog 43 p88 r88 := fact tk1 g88
def p90 : List PA := [.a [m2, (y 2), m1, (l [[(i 0)], [(i 1)]]), bt, e, (y 1), (i 5), (i 0), bt, (y 2)], .c (i 2), .c (i 3)]
def r90 : List RA := [.a [.c m5, .c m6], .c (.c (i 0))]
theorem g90 : vcall (VN tb1) rounds 6 44 p90 = some r90 := by kernel_rfl
theorem s90 : Spec Go.Proofs.Tryz.prog 44 p90 r90 := fact tk1 g90
end Tn.Bu
