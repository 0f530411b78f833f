import Derived.Test.YtcignakdmepfmaaGreatDoorFa2
/- Closed facts of one run, each by the kernel. -/
set_option linter.unusedVariables false
namespace Tn.Fa
open Go Go.Abs Tn
def p102 : List PA := [.a [(y 1), e, (l [[(i 0)]]), bf, e, (y 1), (i 5), (i 0), bf, (y 1), m3, m4, m5, m6], .c e]
def r102 : List RA := [.c (.c (i 51))]
theorem g102 : vcall (VN tb4) rounds 6 32 p102 = some r102 := by kernel_rfl
theorem s102 : Spec Go.Proofs.Tryz.prog 32 p102 r102 := fact tk4 g102
def p106 : List PA := [.a [(y 1), e, (l [[(i 0)]]), bf, e, (y 1), (i 5), (i 0), bf, (y 1), m3, m4, m5, m6], .c (l [[(i 0)]])]
def r106 : List RA := [.c (.c (i 51))]
theorem g106 : vcall (VN tb4) rounds 6 32 p106 = some r106 := by kernel_rfl
theorem s106 : Spec Go.Proofs.Tryz.prog 32 p106 r106 := fact tk4 g106
def p110 : List PA := [.a [(y 1), e, (l [[(i 0)]]), bf, e, (y 1), (i 5), (i 0), bf, (y 1), m3, m4, m5, m6], .c (l [[(i 0)], [(i 1)], [(i 2)]])]
def r110 : List RA := [.c (.c (i 51))]
theorem g110 : vcall (VN tb4) rounds 6 32 p110 = some r110 := by kernel_rfl
theorem s110 : Spec Go.Proofs.Tryz.prog 32 p110 r110 := fact tk4 g110
def m17 : PV := l [[(i 0)], [(i 1)], [(i 2)], [(i 3)], [(i 4)]]
def p114 : List PA := [.a [(y 1), e, (l [[(i 0)]]), bf, e, (y 1), (i 5), (i 0), bf, (y 1), m3, m4, m5, m6], .c m17]
def r114 : List RA := [.c (.c (i 51))]
theorem g114 : vcall (VN tb4) rounds 6 32 p114 = some r114 := by kernel_rfl
theorem s114 : Spec Go.Proofs.Tryz.prog 32 p114 r114 := fact tk4 g114
def m18 : PV := l [[(i 0)], [(i 1)], [(i 2)], [(i 3)], [(i (-1))]]
def p118 : List PA := [.a [(y 1), e, (l [[(i 0)]]), bf, e, (y 1), (i 5), (i 0), bf, (y 1), m3, m4, m5, m6], .c m18]
def r118 : List RA := [.c (.c (i 51))]
theorem g118 : vcall (VN tb4) rounds 6 32 p118 = some r118 := by kernel_rfl
theorem s118 : Spec Go.Proofs.Tryz.prog 32 p118 r118 := fact tk4 g118
def p122 : List PA := [.a [(y 1), e, (l [[(i 0)]]), bf, e, (y 1), (i 5), (i 0), bf, (y 1), m3, m4, m5, m6], .c (l [[(i 1)], [(i 1)], [(i 2)], [(i 3)]])]
def r122 : List RA := [.c (.c (i 51))]
theorem g122 : vcall (VN tb4) rounds 6 32 p122 = some r122 := by kernel_rfl
theorem s122 : Spec Go.Proofs.Tryz.prog 32 p122 r122 := fact tk4 g122
def m19 : PV := l [[(i 0)], [(i 1)], [(i 2)], [(i 3)], [(i 0)], [(i 1)], [(i 2)], [(i 3)], [(i 0)], [(i 1)], [(i 2)], [(i 3)], [(i 0)], [(i 1)], [(i 2)], [(i 3)], [(i 0)], [(i 1)], [(i 2)], [(i 3)], [(i 0)], [(i 1)], [(i 2)], [(i 3)], [(i 0)], [(i 1)], [(i 2)], [(i 3)], [(i 0)], [(i 1)], [(i 2)], [(i 3)], [(i 0)], [(i 1)], [(i 2)], [(i 3)], [(i 0)], [(i 1)], [(i 2)], [(i 3)], [(i 0)], [(i 1)], [(i 2)], [(i 3)], [(i 0)], [(i 1)], [(i 2)], [(i 3)], [(i 0)], [(i 1)], [(i 2)], [(i 3)], [(i 0)], [(i 1)], [(i 2)], [(i 3)], [(i 0)], [(i 1)], [(i 2)], [(i 3)], [(i 0)]]
def p126 : List PA := [.a [(y 1), e, (l [[(i 0)]]), bf, e, (y 1), (i 5), (i 0), bf, (y 1), m3, m4, m5, m6], .c m19]
def r126 : List RA := [.c (.c (i 51))]
theorem g126 : vcall (VN tb4) rounds 6 32 p126 = some r126 := by kernel_rfl
theorem s126 : Spec Go.Proofs.Tryz.prog 32 p126 r126 := fact tk4 g126
def m20 : PV := l [[(i 0)], [(i 1)], [(i 2)], [(i 3)], [(i 0)], [(i 1)], [(i 2)], [(i 3)], [(i 0)], [(i 1)], [(i 2)], [(i 3)], [(i 0)], [(i 1)], [(i 2)], [(i 3)], [(i 0)], [(i 1)], [(i 2)], [(i 3)], [(i 0)], [(i 1)], [(i 2)], [(i 3)], [(i 0)], [(i 1)], [(i 2)], [(i 3)], [(i 0)], [(i 1)], [(i 2)], [(i 3)], [(i 0)], [(i 1)], [(i 2)], [(i 3)], [(i 0)], [(i 1)], [(i 2)], [(i 3)], [(i 0)], [(i 1)], [(i 2)], [(i 3)], [(i 0)], [(i 1)], [(i 2)], [(i 3)], [(i 0)], [(i 1)], [(i 2)], [(i 3)], [(i 0)], [(i 1)], [(i 2)], [(i 3)], [(i 0)], [(i 1)], [(i 2)], [(i 3)]]
def p136 : List PA := [.a [(y 1), e, (l [[(i 0)]]), bf, e, (y 1), (i 5), (i 0), bf, (y 1), m3, m4, m5, m6], .c m20]
def r136 : List RA := [.c (.c (i 0))]
theorem g136 : vcall (VN tb4) rounds 6 32 p136 = some r136 := by kernel_rfl
theorem s136 : Spec Go.Proofs.Tryz.prog 32 p136 r136 := fact tk4 g136
def p140 : List PA := [.a [(y 1), e, (l [[(i 0)]]), bf, e, (y 1), (i 5), (i 0), bf, (y 1), m3, m4, m5, m6], .c e]
def r140 : List RA := [.a [.c (y 1), .c e, .c (l [[(i 0)]]), .c bf, .c e, .c (y 1), .c (i 5), .c (i 0), .c bf, .c (y 1), .c m3, .c m4, .c m5, .c m6], .c (.c (i 0)), .c (.c (i 0))]
theorem g140 : vcall (VN tb4) rounds 6 22 p140 = some r140 := by kernel_rfl
theorem s140 : Spec Go.Proofs.Tryz.prog 22 p140 r140 := fact tk4 g140
def p149 : List PA := [.a [(y 1), e, (l [[(i 0)]]), bf, e, (y 1), (i 5), (i 0), bf, (y 1), m3, m4, m5, m6], .c (i 0)]
def r149 : List RA := [.a [.c (y 1), .c e, .c (l [[(i 0)]]), .c bf, .c e, .c (y 1), .c (i 5), .c (i 0), .c bf, .c (y 1), .c m3, .c m4, .c m8, .c m6], .c (.c (i 0))]
theorem g149 : vcall (VN tb4) rounds 6 11 p149 = some r149 := by kernel_rfl
theorem s149 : Spec Go.Proofs.Tryz.prog 11 p149 r149 := fact tk4 g149
def p156 : List PA := [.a [(y 1), e, (l [[(i 0)]]), bf, e, (y 1), (i 5), (i 0), bf, (y 1), m3, m4, m8, m6], .c (i 1)]
def r156 : List RA := [.a [.c (y 0), .c e, .c e, .c bf, .c e, .c (y 0), .c (i 0), .c (i 0), .c bf, .c (y 0), .c e, .c e, .c e, .c e], .c (.c (i 6))]
theorem g156 : vcall (VN tb4) rounds 6 11 p156 = some r156 := by kernel_rfl
theorem s156 : Spec Go.Proofs.Tryz.prog 11 p156 r156 := fact tk4 g156
def p160 : List PA := [.a [(y 1), e, (l [[(i 0)]]), bf, e, (y 1), (i 5), (i 0), bf, (y 1), m3, m4, m8, m6], .c (i 2)]
def r160 : List RA := [.a [.c (y 0), .c e, .c e, .c bf, .c e, .c (y 0), .c (i 0), .c (i 0), .c bf, .c (y 0), .c e, .c e, .c e, .c e], .c (.c (i 6))]
theorem g160 : vcall (VN tb4) rounds 6 11 p160 = some r160 := by kernel_rfl
theorem s160 : Spec Go.Proofs.Tryz.prog 11 p160 r160 := fact tk4 g160
def p164 : List PA := [.a [(y 1), e, (l [[(i 0)]]), bf, e, (y 1), (i 5), (i 0), bf, (y 1), m3, m4, m8, m6], .c (i 3)]
def r164 : List RA := [.a [.c (y 0), .c e, .c e, .c bf, .c e, .c (y 0), .c (i 0), .c (i 0), .c bf, .c (y 0), .c e, .c e, .c e, .c e], .c (.c (i 6))]
theorem g164 : vcall (VN tb4) rounds 6 11 p164 = some r164 := by kernel_rfl
theorem s164 : Spec Go.Proofs.Tryz.prog 11 p164 r164 := fact tk4 g164
def p170 : List PA := [.a [(y 1), e, (l [[(i 0)]]), bf, e, (y 1), (i 5), (i 0), bf, (y 1), m3, m4, m8, m6], .c (i 0)]
def r170 : List RA := [.a [.c (y 1), .c e, .c (l [[(i 0)]]), .c bf, .c e, .c (y 1), .c (i 5), .c (i 0), .c bf, .c (y 1), .c m3, .c m4, .c m10, .c m11], .c (.c (i 0))]
theorem g170 : vcall (VN tb4) rounds 6 11 p170 = some r170 := by kernel_rfl
theorem s170 : Spec Go.Proofs.Tryz.prog 11 p170 r170 := fact tk4 g170
def p179 : List PA := [.a [(y 1), e, (l [[(i 0)]]), bf, e, (y 1), (i 5), (i 0), bf, (y 1), m3, m4, m10, m11], .c (i 1)]
def r179 : List RA := [.a [.c (y 1), .c e, .c (l [[(i 0)]]), .c bf, .c e, .c (y 1), .c (i 5), .c (i 0), .c bf, .c (y 1), .c m3, .c m4, .c m13, .c m6], .c (.c (i 0))]
theorem g179 : vcall (VN tb4) rounds 6 11 p179 = some r179 := by kernel_rfl
theorem s179 : Spec Go.Proofs.Tryz.prog 11 p179 r179 := fact tk4 g179
def p185 : List PA := [.a [(y 1), e, (l [[(i 0)]]), bf, e, (y 1), (i 5), (i 0), bf, (y 1), m3, m4, m13, m6], .c (i 2)]
def r185 : List RA := [.a [.c (y 0), .c e, .c e, .c bf, .c e, .c (y 0), .c (i 0), .c (i 0), .c bf, .c (y 0), .c e, .c e, .c e, .c e], .c (.c (i 6))]
theorem g185 : vcall (VN tb4) rounds 6 11 p185 = some r185 := by kernel_rfl
theorem s185 : Spec Go.Proofs.Tryz.prog 11 p185 r185 := fact tk4 g185
def p188 : List PA := [.a [(y 1), e, (l [[(i 0)]]), bf, e, (y 1), (i 5), (i 0), bf, (y 1), m3, m4, m13, m6], .c (i 3)]
def r188 : List RA := [.a [.c (y 0), .c e, .c e, .c bf, .c e, .c (y 0), .c (i 0), .c (i 0), .c bf, .c (y 0), .c e, .c e, .c e, .c e], .c (.c (i 6))]
theorem g188 : vcall (VN tb4) rounds 6 11 p188 = some r188 := by kernel_rfl
theorem s188 : Spec Go.Proofs.Tryz.prog 11 p188 r188 := fact tk4 g188
def p192 : List PA := [.a [(y 1), e, (l [[(i 0)]]), bf, e, (y 1), (i 5), (i 0), bf, (y 1), m3, m4, m13, m6], .c (i 0)]
def r192 : List RA := [.a [.c (y 0), .c e, .c e, .c bf, .c e, .c (y 0), .c (i 0), .c (i 0), .c bf, .c (y 0), .c e, .c e, .c e, .c e], .c (.c (i 6))]
theorem g192 : vcall (VN tb4) rounds 6 11 p192 = some r192 := by kernel_rfl
theorem s192 : Spec Go.Proofs.Tryz.prog 11 p192 r192 := fact tk4 g192
def p197 : List PA := [.a [(y 1), e, (l [[(i 0)]]), bf, e, (y 1), (i 5), (i 0), bf, (y 1), m3, m4, m13, m6], .c (i 1)]
def r197 : List RA := [.a [.c (y 1), .c e, .c (l [[(i 0)]]), .c bf, .c e, .c (y 1), .c (i 5), .c (i 0), .c bf, .c (y 1), .c m3, .c m4, .c m10, .c m14], .c (.c (i 0))]
theorem g197 : vcall (VN tb4) rounds 6 11 p197 = some r197 := by kernel_rfl
theorem s197 : Spec Go.Proofs.Tryz.prog 11 p197 r197 := fact tk4 g197
def p206 : List PA := [.a [(y 1), e, (l [[(i 0)]]), bf, e, (y 1), (i 5), (i 0), bf, (y 1), m3, m4, m10, m14], .c (i 2)]
def r206 : List RA := [.a [.c (y 1), .c e, .c (l [[(i 0)]]), .c bf, .c e, .c (y 1), .c (i 5), .c (i 0), .c bf, .c (y 1), .c m3, .c m4, .c m16, .c m6], .c (.c (i 0))]
theorem g206 : vcall (VN tb4) rounds 6 11 p206 = some r206 := by kernel_rfl
theorem s206 : Spec Go.Proofs.Tryz.prog 11 p206 r206 := fact tk4 g206
def p211 : List PA := [.a [(y 1), e, (l [[(i 0)]]), bf, e, (y 1), (i 5), (i 0), bf, (y 1), m3, m4, m16, m6], .c (i 3)]
def r211 : List RA := [.a [.c (y 0), .c e, .c e, .c bf, .c e, .c (y 0), .c (i 0), .c (i 0), .c bf, .c (y 0), .c e, .c e, .c e, .c e], .c (.c (i 6))]
theorem g211 : vcall (VN tb4) rounds 6 11 p211 = some r211 := by kernel_rfl
theorem s211 : Spec Go.Proofs.Tryz.prog 11 p211 r211 := fact tk4 g211
def p214 : List PA := [.a [(y 1), e, (l [[(i 0)]]), bf, e, (y 1), (i 5), (i 0), bf, (y 1), m3, m4, m16, m6], .c (i 0)]
def r214 : List RA := [.a [.c (y 0), .c e, .c e, .c bf, .c e, .c (y 0), .c (i 0), .c (i 0), .c bf, .c (y 0), .c e, .c e, .c e, .c e], .c (.c (i 6))]
theorem g214 : vcall (VN tb4) rounds 6 11 p214 = some r214 := by kernel_rfl
theorem s214 : Spec Go.Proofs.Tryz.prog 11 p214 r214 := fact tk4 g214
def p217 : List PA := [.a [(y 1), e, (l [[(i 0)]]), bf, e, (y 1), (i 5), (i 0), bf, (y 1), m3, m4, m16, m6], .c (i 1)]
def r217 : List RA := [.a [.c (y 0), .c e, .c e, .c bf, .c e, .c (y 0), .c (i 0), .c (i 0), .c bf, .c (y 0), .c e, .c e, .c e, .c e], .c (.c (i 6))]
theorem g217 : vcall (VN tb4) rounds 6 11 p217 = some r217 := by kernel_rfl
theorem s217 : Spec Go.Proofs.Tryz.prog 11 p217 r217 := fact tk4 g217
def p220 : List PA := [.a [(y 1), e, (l [[(i 0)]]), bf, e, (y 1), (i 5), (i 0), bf, (y 1), m3, m4, m16, m6], .c (i 2)]
def r220 : List RA := [.a [.c (y 0), .c e, .c e, .c bf, .c e, .c (y 0), .c (i 0), .c (i 0), .c bf, .c (y 0), .c e, .c e, .c e, .c e], .c (.c (i 6))]
theorem g220 : vcall (VN tb4) rounds 6 11 p220 = some r220 := by kernel_rfl
theorem s220 : Spec Go.Proofs.Tryz.prog 11 p220 r220 := fact tk4 g220
def p225 : List PA := [.a [(y 1), e, (l [[(i 0)]]), bf, e, (y 1), (i 5), (i 0), bf, (y 1), m3, m4, m16, m6], .c m20]
def r225 : List RA := [.c (.c (i 0))]
theorem g225 : vcall (VN tb4) rounds 6 32 p225 = some r225 := by kernel_rfl
theorem s225 : Spec Go.Proofs.Tryz.prog 32 p225 r225 := fact tk4 g225
def m21 : PV := l [[(i 0)], [(i 0)], [(i 1)], [(i 1)], [(i 2)], [(i 3)]]
def p236 : List PA := [.a [(y 1), e, (l [[(i 0)]]), bf, e, (y 1), (i 5), (i 0), bf, (y 1), m3, m4, m5, m6], .c m21]
def r236 : List RA := [.c (.c (i 0))]
theorem g236 : vcall (VN tb4) rounds 6 32 p236 = some r236 := by kernel_rfl
theorem s236 : Spec Go.Proofs.Tryz.prog 32 p236 r236 := fact tk4 g236
def p239 : List PA := [.a [(y 1), e, (l [[(i 0)]]), bf, e, (y 1), (i 5), (i 0), bf, (y 1), m3, m4, m16, m6], .c m21]
def r239 : List RA := [.c (.c (i 0))]
theorem g239 : vcall (VN tb4) rounds 6 32 p239 = some r239 := by kernel_rfl
theorem s239 : Spec Go.Proofs.Tryz.prog 32 p239 r239 := fact tk4 g239
def p242 : List PA := [.a [(y 1), e, (l [[(i 0)]]), bf, e, (y 1), (i 5), (i 0), bf, (y 1), m3, m4, m5, m6], .c (l [[(i 3)], [(i 2)], [(i 1)], [(i 0)]])]
def r242 : List RA := [.c (.c (i 0))]
theorem g242 : vcall (VN tb4) rounds 6 32 p242 = some r242 := by kernel_rfl
theorem s242 : Spec Go.Proofs.Tryz.prog 32 p242 r242 := fact tk4 g242
def p244 : List PA := [.a [(y 1), e, (l [[(i 0)]]), bf, e, (y 1), (i 5), (i 0), bf, (y 1), m3, m4, m5, m6], .c (i 3)]
def r244 : List RA := [.a [.c (y 0), .c e, .c e, .c bf, .c e, .c (y 0), .c (i 0), .c (i 0), .c bf, .c (y 0), .c e, .c e, .c e, .c e], .c (.c (i 6))]
theorem g244 : vcall (VN tb4) rounds 6 11 p244 = some r244 := by kernel_rfl
theorem s244 : Spec Go.Proofs.Tryz.prog 11 p244 r244 := fact tk4 g244
def p247 : List PA := [.a [(y 1), e, (l [[(i 0)]]), bf, e, (y 1), (i 5), (i 0), bf, (y 1), m3, m4, m5, m6], .c (i 2)]
def r247 : List RA := [.a [.c (y 0), .c e, .c e, .c bf, .c e, .c (y 0), .c (i 0), .c (i 0), .c bf, .c (y 0), .c e, .c e, .c e, .c e], .c (.c (i 6))]
theorem g247 : vcall (VN tb4) rounds 6 11 p247 = some r247 := by kernel_rfl
theorem s247 : Spec Go.Proofs.Tryz.prog 11 p247 r247 := fact tk4 g247
def p249 : List PA := [.a [(y 1), e, (l [[(i 0)]]), bf, e, (y 1), (i 5), (i 0), bf, (y 1), m3, m4, m5, m6], .c (i 1)]
def r249 : List RA := [.a [.c (y 0), .c e, .c e, .c bf, .c e, .c (y 0), .c (i 0), .c (i 0), .c bf, .c (y 0), .c e, .c e, .c e, .c e], .c (.c (i 6))]
theorem g249 : vcall (VN tb4) rounds 6 11 p249 = some r249 := by kernel_rfl
theorem s249 : Spec Go.Proofs.Tryz.prog 11 p249 r249 := fact tk4 g249
def p254 : List PA := [.a [(y 1), e, (l [[(i 0)]]), bf, e, (y 1), (i 5), (i 0), bf, (y 1), m3, m4, m8, m6], .c (l [[(i 3)], [(i 2)], [(i 1)], [(i 0)]])]
def r254 : List RA := [.c (.c (i 0))]
theorem g254 : vcall (VN tb4) rounds 6 32 p254 = some r254 := by kernel_rfl
theorem s254 : Spec Go.Proofs.Tryz.prog 32 p254 r254 := fact tk4 g254
def p258 : List PA := [.a [(y 1), e, (l [[(i 0)]]), bf, e, (y 1), (i 5), (i 0), bf, (y 1), m3, m4, m10, m11], .c (l [[(i 3)], [(i 2)], [(i 1)], [(i 0)]])]
def r258 : List RA := [.c (.c (i 0))]
theorem g258 : vcall (VN tb4) rounds 6 32 p258 = some r258 := by kernel_rfl
theorem s258 : Spec Go.Proofs.Tryz.prog 32 p258 r258 := fact tk4 g258
def p261 : List PA := [.a [(y 1), e, (l [[(i 0)]]), bf, e, (y 1), (i 5), (i 0), bf, (y 1), m3, m4, m10, m11], .c (i 3)]
def r261 : List RA := [.a [.c (y 0), .c e, .c e, .c bf, .c e, .c (y 0), .c (i 0), .c (i 0), .c bf, .c (y 0), .c e, .c e, .c e, .c e], .c (.c (i 6))]
theorem g261 : vcall (VN tb4) rounds 6 11 p261 = some r261 := by kernel_rfl
theorem s261 : Spec Go.Proofs.Tryz.prog 11 p261 r261 := fact tk4 g261
def p263 : List PA := [.a [(y 1), e, (l [[(i 0)]]), bf, e, (y 1), (i 5), (i 0), bf, (y 1), m3, m4, m10, m11], .c (i 2)]
def r263 : List RA := [.a [.c (y 0), .c e, .c e, .c bf, .c e, .c (y 0), .c (i 0), .c (i 0), .c bf, .c (y 0), .c e, .c e, .c e, .c e], .c (.c (i 6))]
theorem g263 : vcall (VN tb4) rounds 6 11 p263 = some r263 := by kernel_rfl
theorem s263 : Spec Go.Proofs.Tryz.prog 11 p263 r263 := fact tk4 g263
def p268 : List PA := [.a [(y 1), e, (l [[(i 0)]]), bf, e, (y 1), (i 5), (i 0), bf, (y 1), m3, m4, m13, m6], .c (l [[(i 3)], [(i 2)], [(i 1)], [(i 0)]])]
def r268 : List RA := [.c (.c (i 0))]
theorem g268 : vcall (VN tb4) rounds 6 32 p268 = some r268 := by kernel_rfl
theorem s268 : Spec Go.Proofs.Tryz.prog 32 p268 r268 := fact tk4 g268
def p271 : List PA := [.a [(y 1), e, (l [[(i 0)]]), bf, e, (y 1), (i 5), (i 0), bf, (y 1), m3, m4, m10, m14], .c (i 0)]
def r271 : List RA := [.a [.c (y 0), .c e, .c e, .c bf, .c e, .c (y 0), .c (i 0), .c (i 0), .c bf, .c (y 0), .c e, .c e, .c e, .c e], .c (.c (i 6))]
theorem g271 : vcall (VN tb4) rounds 6 11 p271 = some r271 := by kernel_rfl
theorem s271 : Spec Go.Proofs.Tryz.prog 11 p271 r271 := fact tk4 g271
def p276 : List PA := [.a [(y 1), e, (l [[(i 0)]]), bf, e, (y 1), (i 5), (i 0), bf, (y 1), m3, m4, m10, m14], .c (l [[(i 3)], [(i 2)], [(i 1)], [(i 0)]])]
def r276 : List RA := [.c (.c (i 0))]
theorem g276 : vcall (VN tb4) rounds 6 32 p276 = some r276 := by kernel_rfl
theorem s276 : Spec Go.Proofs.Tryz.prog 32 p276 r276 := fact tk4 g276
def p277 : List PA := [.a [(y 1), e, (l [[(i 0)]]), bf, e, (y 1), (i 5), (i 0), bf, (y 1), m3, m4, m10, m14], .c (i 3)]
def r277 : List RA := [.a [.c (y 0), .c e, .c e, .c bf, .c e, .c (y 0), .c (i 0), .c (i 0), .c bf, .c (y 0), .c e, .c e, .c e, .c e], .c (.c (i 6))]
theorem g277 : vcall (VN tb4) rounds 6 11 p277 = some r277 := by kernel_rfl
theorem s277 : Spec Go.Proofs.Tryz.prog 11 p277 r277 := fact tk4 g277
def p281 : List PA := [.a [(y 1), e, (l [[(i 0)]]), bf, e, (y 1), (i 5), (i 0), bf, (y 1), m3, m4, m16, m6], .c (l [[(i 3)], [(i 2)], [(i 1)], [(i 0)]])]
def r281 : List RA := [.c (.c (i 0))]
theorem g281 : vcall (VN tb4) rounds 6 32 p281 = some r281 := by kernel_rfl
theorem s281 : Spec Go.Proofs.Tryz.prog 32 p281 r281 := fact tk4 g281
def tb5 : List (FuncId × List PA × List RA) := [(40, p64, r64), (32, p102, r102), (32, p106, r106), (32, p110, r110), (32, p114, r114), (32, p118, r118), (32, p122, r122), (32, p126, r126), (32, p136, r136), (22, p140, r140), (11, p149, r149), (11, p156, r156), (11, p160, r160), (11, p164, r164), (11, p170, r170), (11, p179, r179), (11, p185, r185), (11, p188, r188), (11, p192, r192), (11, p197, r197), (11, p206, r206), (11, p211, r211), (11, p214, r214), (11, p217, r217), (11, p220, r220), (32, p225, r225), (32, p236, r236), (32, p239, r239), (32, p242, r242), (11, p244, r244), (11, p247, r247), (11, p249, r249), (32, p254, r254), (32, p258, r258), (11, p261, r261), (11, p263, r263), (32, p268, r268), (11, p271, r271), (32, p276, r276), (11, p277, r277), (32, p281, r281)] ++ tb4
theorem tk5 : TOK Go.Proofs.Tryz.prog tb5 := TOK.app (l := [(40, p64, r64), (32, p102, r102), (32, p106, r106), (32, p110, r110), (32, p114, r114), (32, p118, r118), (32, p122, r122), (32, p126, r126), (32, p136, r136), (22, p140, r140), (11, p149, r149), (11, p156, r156), (11, p160, r160), (11, p164, r164), (11, p170, r170), (11, p179, r179), (11, p185, r185), (11, p188, r188), (11, p192, r192), (11, p197, r197), (11, p206, r206), (11, p211, r211), (11, p214, r214), (11, p217, r217), (11, p220, r220), (32, p225, r225), (32, p236, r236), (32, p239, r239), (32, p242, r242), (11, p244, r244), (11, p247, r247), (11, p249, r249), (32, p254, r254), (32, p258, r258), (11, p261, r261), (11, p263, r263), (32, p268, r268), (11, p271, r271), (32, p276, r276), (11, p277, r277), (32, p281, r281)]) ⟨s64, s102, s106, s110, s114, s118, s122, s126, s136, s140, s149, s156, s160, s164, s170, s179, s185, s188, s192, s197, s206, s211, s214, s217, s220, s225, s236, s239, s242, s244, s247, s249, s254, s258, s261, s263, s268, s271, s276, s277, s281, trivial⟩ tk4
def p66 : List PA := [.c (s [115, 101, 108, 101, 99, 116, 32, 99, 111, 117, 110, 116, 40, 42, 41, 32, 102, 114, 111, 109, 32, 97, 32, 119, 105, 110, 100, 111, 119, 32, 116, 117, 109, 98, 108, 101, 32, 53])]
def r66 : List RA := [.a [.c (y 1), .c e, .c (l [[(i 0)]]), .c bf, .c e, .c (y 1), .c (i 5), .c (i 0), .c bf, .c (y 1)], .c (.c (i 38)), .c (.c (i 0))]
theorem g66 : vcall (VN tb5) rounds 6 8 p66 = some r66 := by kernel_rfl
theorem s66 : Spec Go.Proofs.Tryz.prog 8 p66 r66 := fact tk5 g66
def p103 : List PA := [.a [(y 1), e, (l [[(i 0)]]), bf, e, (y 1), (i 5), (i 0), bf, (y 1), m3, m4, m5, m6], .c e]
def r103 : List RA := [.a [.c (y 0), .c e, .c e, .c bf, .c e, .c (y 0), .c (i 0), .c (i 0), .c bf, .c (y 0), .c e, .c e, .c e, .c e], .c (.c (i 0)), .c (.c (i 51))]
theorem g103 : vcall (VN tb5) rounds 6 29 p103 = some r103 := by kernel_rfl
theorem s103 : Spec Go.Proofs.Tryz.prog 29 p103 r103 := fact tk5 g103
def p104 : List PA := [.a [(y 1), e, (l [[(i 0)]]), bf, e, (y 1), (i 5), (i 0), bf, (y 1), m3, m4, m5, m6], .c e, .c (i (-1))]
def r104 : List RA := [.a [.c (y 0), .c e, .c e, .c bf, .c e, .c (y 0), .c (i 0), .c (i 0), .c bf, .c (y 0), .c e, .c e, .c e, .c e], .c (.c (i 0)), .c (.c (i 51))]
theorem g104 : vcall (VN tb5) rounds 6 30 p104 = some r104 := by kernel_rfl
theorem s104 : Spec Go.Proofs.Tryz.prog 30 p104 r104 := fact tk5 g104
def p105 : List PA := [.a [(y 1), e, (l [[(i 0)]]), bf, e, (y 1), (i 5), (i 0), bf, (y 1), m3, m4, m5, m6], .c e]
def r105 : List RA := [.a [.c (y 0), .c e, .c e, .c bf, .c e, .c (y 0), .c (i 0), .c (i 0), .c bf, .c (y 0), .c e, .c e, .c e, .c e], .c (.c (i 0)), .c (.c (i 51))]
theorem g105 : vcall (VN tb5) rounds 6 31 p105 = some r105 := by kernel_rfl
theorem s105 : Spec Go.Proofs.Tryz.prog 31 p105 r105 := fact tk5 g105
def p107 : List PA := [.a [(y 1), e, (l [[(i 0)]]), bf, e, (y 1), (i 5), (i 0), bf, (y 1), m3, m4, m5, m6], .c (l [[(i 0)]])]
def r107 : List RA := [.a [.c (y 0), .c e, .c e, .c bf, .c e, .c (y 0), .c (i 0), .c (i 0), .c bf, .c (y 0), .c e, .c e, .c e, .c e], .c (.c (i 0)), .c (.c (i 51))]
theorem g107 : vcall (VN tb5) rounds 6 29 p107 = some r107 := by kernel_rfl
theorem s107 : Spec Go.Proofs.Tryz.prog 29 p107 r107 := fact tk5 g107
def p108 : List PA := [.a [(y 1), e, (l [[(i 0)]]), bf, e, (y 1), (i 5), (i 0), bf, (y 1), m3, m4, m5, m6], .c (l [[(i 0)]]), .c (i (-1))]
def r108 : List RA := [.a [.c (y 0), .c e, .c e, .c bf, .c e, .c (y 0), .c (i 0), .c (i 0), .c bf, .c (y 0), .c e, .c e, .c e, .c e], .c (.c (i 0)), .c (.c (i 51))]
theorem g108 : vcall (VN tb5) rounds 6 30 p108 = some r108 := by kernel_rfl
theorem s108 : Spec Go.Proofs.Tryz.prog 30 p108 r108 := fact tk5 g108
def p109 : List PA := [.a [(y 1), e, (l [[(i 0)]]), bf, e, (y 1), (i 5), (i 0), bf, (y 1), m3, m4, m5, m6], .c (l [[(i 0)]])]
def r109 : List RA := [.a [.c (y 0), .c e, .c e, .c bf, .c e, .c (y 0), .c (i 0), .c (i 0), .c bf, .c (y 0), .c e, .c e, .c e, .c e], .c (.c (i 0)), .c (.c (i 51))]
theorem g109 : vcall (VN tb5) rounds 6 31 p109 = some r109 := by kernel_rfl
theorem s109 : Spec Go.Proofs.Tryz.prog 31 p109 r109 := fact tk5 g109
def p111 : List PA := [.a [(y 1), e, (l [[(i 0)]]), bf, e, (y 1), (i 5), (i 0), bf, (y 1), m3, m4, m5, m6], .c (l [[(i 0)], [(i 1)], [(i 2)]])]
def r111 : List RA := [.a [.c (y 0), .c e, .c e, .c bf, .c e, .c (y 0), .c (i 0), .c (i 0), .c bf, .c (y 0), .c e, .c e, .c e, .c e], .c (.c (i 0)), .c (.c (i 51))]
theorem g111 : vcall (VN tb5) rounds 6 29 p111 = some r111 := by kernel_rfl
theorem s111 : Spec Go.Proofs.Tryz.prog 29 p111 r111 := fact tk5 g111
def p112 : List PA := [.a [(y 1), e, (l [[(i 0)]]), bf, e, (y 1), (i 5), (i 0), bf, (y 1), m3, m4, m5, m6], .c (l [[(i 0)], [(i 1)], [(i 2)]]), .c (i (-1))]
def r112 : List RA := [.a [.c (y 0), .c e, .c e, .c bf, .c e, .c (y 0), .c (i 0), .c (i 0), .c bf, .c (y 0), .c e, .c e, .c e, .c e], .c (.c (i 0)), .c (.c (i 51))]
theorem g112 : vcall (VN tb5) rounds 6 30 p112 = some r112 := by kernel_rfl
theorem s112 : Spec Go.Proofs.Tryz.prog 30 p112 r112 := fact tk5 g112
def p113 : List PA := [.a [(y 1), e, (l [[(i 0)]]), bf, e, (y 1), (i 5), (i 0), bf, (y 1), m3, m4, m5, m6], .c (l [[(i 0)], [(i 1)], [(i 2)]])]
def r113 : List RA := [.a [.c (y 0), .c e, .c e, .c bf, .c e, .c (y 0), .c (i 0), .c (i 0), .c bf, .c (y 0), .c e, .c e, .c e, .c e], .c (.c (i 0)), .c (.c (i 51))]
theorem g113 : vcall (VN tb5) rounds 6 31 p113 = some r113 := by kernel_rfl
theorem s113 : Spec Go.Proofs.Tryz.prog 31 p113 r113 := fact tk5 g113
def p115 : List PA := [.a [(y 1), e, (l [[(i 0)]]), bf, e, (y 1), (i 5), (i 0), bf, (y 1), m3, m4, m5, m6], .c m17]
def r115 : List RA := [.a [.c (y 0), .c e, .c e, .c bf, .c e, .c (y 0), .c (i 0), .c (i 0), .c bf, .c (y 0), .c e, .c e, .c e, .c e], .c (.c (i 0)), .c (.c (i 51))]
theorem g115 : vcall (VN tb5) rounds 6 29 p115 = some r115 := by kernel_rfl
theorem s115 : Spec Go.Proofs.Tryz.prog 29 p115 r115 := fact tk5 g115
def p116 : List PA := [.a [(y 1), e, (l [[(i 0)]]), bf, e, (y 1), (i 5), (i 0), bf, (y 1), m3, m4, m5, m6], .c m17, .c (i (-1))]
def r116 : List RA := [.a [.c (y 0), .c e, .c e, .c bf, .c e, .c (y 0), .c (i 0), .c (i 0), .c bf, .c (y 0), .c e, .c e, .c e, .c e], .c (.c (i 0)), .c (.c (i 51))]
theorem g116 : vcall (VN tb5) rounds 6 30 p116 = some r116 := by kernel_rfl
theorem s116 : Spec Go.Proofs.Tryz.prog 30 p116 r116 := fact tk5 g116
def p117 : List PA := [.a [(y 1), e, (l [[(i 0)]]), bf, e, (y 1), (i 5), (i 0), bf, (y 1), m3, m4, m5, m6], .c m17]
def r117 : List RA := [.a [.c (y 0), .c e, .c e, .c bf, .c e, .c (y 0), .c (i 0), .c (i 0), .c bf, .c (y 0), .c e, .c e, .c e, .c e], .c (.c (i 0)), .c (.c (i 51))]
theorem g117 : vcall (VN tb5) rounds 6 31 p117 = some r117 := by kernel_rfl
theorem s117 : Spec Go.Proofs.Tryz.prog 31 p117 r117 := fact tk5 g117
def p119 : List PA := [.a [(y 1), e, (l [[(i 0)]]), bf, e, (y 1), (i 5), (i 0), bf, (y 1), m3, m4, m5, m6], .c m18]
def r119 : List RA := [.a [.c (y 0), .c e, .c e, .c bf, .c e, .c (y 0), .c (i 0), .c (i 0), .c bf, .c (y 0), .c e, .c e, .c e, .c e], .c (.c (i 0)), .c (.c (i 51))]
theorem g119 : vcall (VN tb5) rounds 6 29 p119 = some r119 := by kernel_rfl
theorem s119 : Spec Go.Proofs.Tryz.prog 29 p119 r119 := fact tk5 g119
def p120 : List PA := [.a [(y 1), e, (l [[(i 0)]]), bf, e, (y 1), (i 5), (i 0), bf, (y 1), m3, m4, m5, m6], .c m18, .c (i (-1))]
def r120 : List RA := [.a [.c (y 0), .c e, .c e, .c bf, .c e, .c (y 0), .c (i 0), .c (i 0), .c bf, .c (y 0), .c e, .c e, .c e, .c e], .c (.c (i 0)), .c (.c (i 51))]
theorem g120 : vcall (VN tb5) rounds 6 30 p120 = some r120 := by kernel_rfl
theorem s120 : Spec Go.Proofs.Tryz.prog 30 p120 r120 := fact tk5 g120
def p121 : List PA := [.a [(y 1), e, (l [[(i 0)]]), bf, e, (y 1), (i 5), (i 0), bf, (y 1), m3, m4, m5, m6], .c m18]
def r121 : List RA := [.a [.c (y 0), .c e, .c e, .c bf, .c e, .c (y 0), .c (i 0), .c (i 0), .c bf, .c (y 0), .c e, .c e, .c e, .c e], .c (.c (i 0)), .c (.c (i 51))]
theorem g121 : vcall (VN tb5) rounds 6 31 p121 = some r121 := by kernel_rfl
theorem s121 : Spec Go.Proofs.Tryz.prog 31 p121 r121 := fact tk5 g121
def p123 : List PA := [.a [(y 1), e, (l [[(i 0)]]), bf, e, (y 1), (i 5), (i 0), bf, (y 1), m3, m4, m5, m6], .c (l [[(i 1)], [(i 1)], [(i 2)], [(i 3)]])]
def r123 : List RA := [.a [.c (y 0), .c e, .c e, .c bf, .c e, .c (y 0), .c (i 0), .c (i 0), .c bf, .c (y 0), .c e, .c e, .c e, .c e], .c (.c (i 0)), .c (.c (i 51))]
theorem g123 : vcall (VN tb5) rounds 6 29 p123 = some r123 := by kernel_rfl
theorem s123 : Spec Go.Proofs.Tryz.prog 29 p123 r123 := fact tk5 g123
def p124 : List PA := [.a [(y 1), e, (l [[(i 0)]]), bf, e, (y 1), (i 5), (i 0), bf, (y 1), m3, m4, m5, m6], .c (l [[(i 1)], [(i 1)], [(i 2)], [(i 3)]]), .c (i (-1))]
def r124 : List RA := [.a [.c (y 0), .c e, .c e, .c bf, .c e, .c (y 0), .c (i 0), .c (i 0), .c bf, .c (y 0), .c e, .c e, .c e, .c e], .c (.c (i 0)), .c (.c (i 51))]
theorem g124 : vcall (VN tb5) rounds 6 30 p124 = some r124 := by kernel_rfl
theorem s124 : Spec Go.Proofs.Tryz.prog 30 p124 r124 := fact tk5 g124
def p125 : List PA := [.a [(y 1), e, (l [[(i 0)]]), bf, e, (y 1), (i 5), (i 0), bf, (y 1), m3, m4, m5, m6], .c (l [[(i 1)], [(i 1)], [(i 2)], [(i 3)]])]
def r125 : List RA := [.a [.c (y 0), .c e, .c e, .c bf, .c e, .c (y 0), .c (i 0), .c (i 0), .c bf, .c (y 0), .c e, .c e, .c e, .c e], .c (.c (i 0)), .c (.c (i 51))]
theorem g125 : vcall (VN tb5) rounds 6 31 p125 = some r125 := by kernel_rfl
theorem s125 : Spec Go.Proofs.Tryz.prog 31 p125 r125 := fact tk5 g125
def p127 : List PA := [.a [(y 1), e, (l [[(i 0)]]), bf, e, (y 1), (i 5), (i 0), bf, (y 1), m3, m4, m5, m6], .c m19]
def r127 : List RA := [.a [.c (y 0), .c e, .c e, .c bf, .c e, .c (y 0), .c (i 0), .c (i 0), .c bf, .c (y 0), .c e, .c e, .c e, .c e], .c (.c (i 0)), .c (.c (i 51))]
theorem g127 : vcall (VN tb5) rounds 6 29 p127 = some r127 := by kernel_rfl
theorem s127 : Spec Go.Proofs.Tryz.prog 29 p127 r127 := fact tk5 g127
def p128 : List PA := [.a [(y 1), e, (l [[(i 0)]]), bf, e, (y 1), (i 5), (i 0), bf, (y 1), m3, m4, m5, m6], .c m19, .c (i (-1))]
def r128 : List RA := [.a [.c (y 0), .c e, .c e, .c bf, .c e, .c (y 0), .c (i 0), .c (i 0), .c bf, .c (y 0), .c e, .c e, .c e, .c e], .c (.c (i 0)), .c (.c (i 51))]
theorem g128 : vcall (VN tb5) rounds 6 30 p128 = some r128 := by kernel_rfl
theorem s128 : Spec Go.Proofs.Tryz.prog 30 p128 r128 := fact tk5 g128
def p129 : List PA := [.a [(y 1), e, (l [[(i 0)]]), bf, e, (y 1), (i 5), (i 0), bf, (y 1), m3, m4, m5, m6], .c m19]
def r129 : List RA := [.a [.c (y 0), .c e, .c e, .c bf, .c e, .c (y 0), .c (i 0), .c (i 0), .c bf, .c (y 0), .c e, .c e, .c e, .c e], .c (.c (i 0)), .c (.c (i 51))]
theorem g129 : vcall (VN tb5) rounds 6 31 p129 = some r129 := by kernel_rfl
theorem s129 : Spec Go.Proofs.Tryz.prog 31 p129 r129 := fact tk5 g129
def p137 : List PA := [.a [(y 1), e, (l [[(i 0)]]), bf, e, (y 1), (i 5), (i 0), bf, (y 1), m3, m4, m5, m6], .c m20, .c (i (-1))]
def r137 : List RA := [.a [.c (y 0), .c e, .c e, .c bf, .c e, .c (y 0), .c (i 0), .c (i 0), .c bf, .c (y 0), .c e, .c e, .c e, .c e], .c (.c (i 0)), .c (.c (i 2))]
theorem g137 : vcall (VN tb5) rounds 6 30 p137 = some r137 := by kernel_rfl
theorem s137 : Spec Go.Proofs.Tryz.prog 30 p137 r137 := fact tk5 g137
def p138 : List PA := [.a [(y 1), e, (l [[(i 0)]]), bf, e, (y 1), (i 5), (i 0), bf, (y 1), m3, m4, m5, m6], .c m20, .c (i 2001)]
def r138 : List RA := [.a [.c (y 0), .c e, .c e, .c bf, .c e, .c (y 0), .c (i 0), .c (i 0), .c bf, .c (y 0), .c e, .c e, .c e, .c e], .c (.c (i 0)), .c (.c (i 2))]
theorem g138 : vcall (VN tb5) rounds 6 30 p138 = some r138 := by kernel_rfl
theorem s138 : Spec Go.Proofs.Tryz.prog 30 p138 r138 := fact tk5 g138
def p150 : List PA := [.a [(y 1), e, (l [[(i 0)]]), bf, e, (y 1), (i 5), (i 0), bf, (y 1), m3, m4, m5, m6], .a [(i 0), (i (-1))]]
def r150 : List RA := [.a [.c (y 1), .c e, .c (l [[(i 0)]]), .c bf, .c e, .c (y 1), .c (i 5), .c (i 0), .c bf, .c (y 1), .c m3, .c m4, .c m8, .c m6], .c (.c bt)]
theorem g150 : vcall (VN tb5) rounds 6 77 p150 = some r150 := by kernel_rfl
theorem s150 : Spec Go.Proofs.Tryz.prog 77 p150 r150 := fact tk5 g150
def p157 : List PA := [.a [(y 1), e, (l [[(i 0)]]), bf, e, (y 1), (i 5), (i 0), bf, (y 1), m3, m4, m8, m6], .a [(i 1), (i (-1))]]
def r157 : List RA := [.a [.c (y 1), .c e, .c (l [[(i 0)]]), .c bf, .c e, .c (y 1), .c (i 5), .c (i 0), .c bf, .c (y 1), .c m3, .c m4, .c m8, .c m6], .c (.c bf)]
theorem g157 : vcall (VN tb5) rounds 6 77 p157 = some r157 := by kernel_rfl
theorem s157 : Spec Go.Proofs.Tryz.prog 77 p157 r157 := fact tk5 g157
def p161 : List PA := [.a [(y 1), e, (l [[(i 0)]]), bf, e, (y 1), (i 5), (i 0), bf, (y 1), m3, m4, m8, m6], .a [(i 2), (i (-1))]]
def r161 : List RA := [.a [.c (y 1), .c e, .c (l [[(i 0)]]), .c bf, .c e, .c (y 1), .c (i 5), .c (i 0), .c bf, .c (y 1), .c m3, .c m4, .c m8, .c m6], .c (.c bf)]
theorem g161 : vcall (VN tb5) rounds 6 77 p161 = some r161 := by kernel_rfl
theorem s161 : Spec Go.Proofs.Tryz.prog 77 p161 r161 := fact tk5 g161
def p165 : List PA := [.a [(y 1), e, (l [[(i 0)]]), bf, e, (y 1), (i 5), (i 0), bf, (y 1), m3, m4, m8, m6], .a [(i 3), (i (-1))]]
def r165 : List RA := [.a [.c (y 1), .c e, .c (l [[(i 0)]]), .c bf, .c e, .c (y 1), .c (i 5), .c (i 0), .c bf, .c (y 1), .c m3, .c m4, .c m8, .c m6], .c (.c bf)]
theorem g165 : vcall (VN tb5) rounds 6 77 p165 = some r165 := by kernel_rfl
theorem s165 : Spec Go.Proofs.Tryz.prog 77 p165 r165 := fact tk5 g165
def p171 : List PA := [.a [(y 1), e, (l [[(i 0)]]), bf, e, (y 1), (i 5), (i 0), bf, (y 1), m3, m4, m8, m6], .a [(i 0), (i (-1))]]
def r171 : List RA := [.a [.c (y 1), .c e, .c (l [[(i 0)]]), .c bf, .c e, .c (y 1), .c (i 5), .c (i 0), .c bf, .c (y 1), .c m3, .c m4, .c m10, .c m11], .c (.c bt)]
theorem g171 : vcall (VN tb5) rounds 6 77 p171 = some r171 := by kernel_rfl
theorem s171 : Spec Go.Proofs.Tryz.prog 77 p171 r171 := fact tk5 g171
def p180 : List PA := [.a [(y 1), e, (l [[(i 0)]]), bf, e, (y 1), (i 5), (i 0), bf, (y 1), m3, m4, m10, m11], .a [(i 1), (i (-1))]]
def r180 : List RA := [.a [.c (y 1), .c e, .c (l [[(i 0)]]), .c bf, .c e, .c (y 1), .c (i 5), .c (i 0), .c bf, .c (y 1), .c m3, .c m4, .c m13, .c m6], .c (.c bt)]
theorem g180 : vcall (VN tb5) rounds 6 77 p180 = some r180 := by kernel_rfl
theorem s180 : Spec Go.Proofs.Tryz.prog 77 p180 r180 := fact tk5 g180
def p186 : List PA := [.a [(y 1), e, (l [[(i 0)]]), bf, e, (y 1), (i 5), (i 0), bf, (y 1), m3, m4, m13, m6], .a [(i 2), (i (-1))]]
def r186 : List RA := [.a [.c (y 1), .c e, .c (l [[(i 0)]]), .c bf, .c e, .c (y 1), .c (i 5), .c (i 0), .c bf, .c (y 1), .c m3, .c m4, .c m13, .c m6], .c (.c bf)]
theorem g186 : vcall (VN tb5) rounds 6 77 p186 = some r186 := by kernel_rfl
theorem s186 : Spec Go.Proofs.Tryz.prog 77 p186 r186 := fact tk5 g186
end Tn.Fa
