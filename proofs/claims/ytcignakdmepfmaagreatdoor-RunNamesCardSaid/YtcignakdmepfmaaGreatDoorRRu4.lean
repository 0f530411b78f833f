import Derived.Test.YtcignakdmepfmaaGreatDoorRRu3
/- Closed facts of one run, each by the kernel. -/
set_option linter.unusedVariables false
namespace Tn.Ru
open Go Go.Abs Tn
def p102 : List PA := [.a [(y 1), e, (l [[(i 0)]]), bf, e, (y 1), (i 5), (i 0), bf, (y 1), m3, m4, m6, m7], .c (l [[(i 0), (i (-1))], [(i (-1)), (i (-1))]])]
def r102 : List RA := [.a [.c (y 0), .c e, .c e, .c bf, .c e, .c (y 0), .c (i 0), .c (i 0), .c bf, .c (y 0), .c e, .c e, .c e, .c e], .c (.c (i 0)), .c (.c (i 2))]
theorem g102 : vcall (VN tb4) rounds 6 22 p102 = some r102 := by kernel_rfl
theorem s102 : Spec Go.Proofs.Tryz.prog 22 p102 r102 := fact tk4 g102
def p103 : List PA := [.a [(y 1), e, (l [[(i 0)]]), bf, e, (y 1), (i 5), (i 0), bf, (y 1), m3, m4, m6, m7], .a [(i (-1)), (i (-1))]]
def r103 : List RA := [.a [.c (y 0), .c e, .c e, .c bf, .c e, .c (y 0), .c (i 0), .c (i 0), .c bf, .c (y 0), .c e, .c e, .c e, .c e], .c (.c bf), .c (.c (i 51))]
theorem g103 : vcall (VN tb4) rounds 6 23 p103 = some r103 := by kernel_rfl
theorem s103 : Spec Go.Proofs.Tryz.prog 23 p103 r103 := fact tk4 g103
def p104 : List PA := [.a [(y 1), e, (l [[(i 0)]]), bf, e, (y 1), (i 5), (i 0), bf, (y 1), m3, m4, m6, m7], .c (l [[(i 0), (i (-1))], [(i 20), (i (-1))]])]
def r104 : List RA := [.a [.c (y 0), .c e, .c e, .c bf, .c e, .c (y 0), .c (i 0), .c (i 0), .c bf, .c (y 0), .c e, .c e, .c e, .c e], .c (.c (i 0)), .c (.c (i 2))]
theorem g104 : vcall (VN tb4) rounds 6 22 p104 = some r104 := by kernel_rfl
theorem s104 : Spec Go.Proofs.Tryz.prog 22 p104 r104 := fact tk4 g104
def p105 : List PA := [.a [(y 1), e, (l [[(i 0)]]), bf, e, (y 1), (i 5), (i 0), bf, (y 1), m3, m4, m6, m7], .a [(i 20), (i (-1))]]
def r105 : List RA := [.a [.c (y 0), .c e, .c e, .c bf, .c e, .c (y 0), .c (i 0), .c (i 0), .c bf, .c (y 0), .c e, .c e, .c e, .c e], .c (.c bf), .c (.c (i 51))]
theorem g105 : vcall (VN tb4) rounds 6 23 p105 = some r105 := by kernel_rfl
theorem s105 : Spec Go.Proofs.Tryz.prog 23 p105 r105 := fact tk4 g105
def p106 : List PA := [.a [(y 1), e, (l [[(i 0)]]), bf, e, (y 1), (i 5), (i 0), bf, (y 1), m3, m4, m6, m7], .c (l [[(i 0), (i (-1))], [(i 0), (i (-2))]])]
def r106 : List RA := [.a [.c (y 0), .c e, .c e, .c bf, .c e, .c (y 0), .c (i 0), .c (i 0), .c bf, .c (y 0), .c e, .c e, .c e, .c e], .c (.c (i 0)), .c (.c (i 2))]
theorem g106 : vcall (VN tb4) rounds 6 22 p106 = some r106 := by kernel_rfl
theorem s106 : Spec Go.Proofs.Tryz.prog 22 p106 r106 := fact tk4 g106
def p107 : List PA := [.a [(y 1), e, (l [[(i 0)]]), bf, e, (y 1), (i 5), (i 0), bf, (y 1), m3, m4, m6, m7], .a [(i 0), (i (-2))]]
def r107 : List RA := [.a [.c (y 0), .c e, .c e, .c bf, .c e, .c (y 0), .c (i 0), .c (i 0), .c bf, .c (y 0), .c e, .c e, .c e, .c e], .c (.c bf), .c (.c (i 51))]
theorem g107 : vcall (VN tb4) rounds 6 23 p107 = some r107 := by kernel_rfl
theorem s107 : Spec Go.Proofs.Tryz.prog 23 p107 r107 := fact tk4 g107
def p108 : List PA := [.a [(y 1), e, (l [[(i 0)]]), bf, e, (y 1), (i 5), (i 0), bf, (y 1), m3, m4, m6, m7], .c (l [[(i 0), (i (-1))], [(i 0), (i 4)]])]
def r108 : List RA := [.a [.c (y 0), .c e, .c e, .c bf, .c e, .c (y 0), .c (i 0), .c (i 0), .c bf, .c (y 0), .c e, .c e, .c e, .c e], .c (.c (i 0)), .c (.c (i 2))]
theorem g108 : vcall (VN tb4) rounds 6 22 p108 = some r108 := by kernel_rfl
theorem s108 : Spec Go.Proofs.Tryz.prog 22 p108 r108 := fact tk4 g108
def p109 : List PA := [.a [(y 1), e, (l [[(i 0)]]), bf, e, (y 1), (i 5), (i 0), bf, (y 1), m3, m4, m6, m7], .a [(i 0), (i 4)]]
def r109 : List RA := [.a [.c (y 0), .c e, .c e, .c bf, .c e, .c (y 0), .c (i 0), .c (i 0), .c bf, .c (y 0), .c e, .c e, .c e, .c e], .c (.c bf), .c (.c (i 51))]
theorem g109 : vcall (VN tb4) rounds 6 23 p109 = some r109 := by kernel_rfl
theorem s109 : Spec Go.Proofs.Tryz.prog 23 p109 r109 := fact tk4 g109
def p110 : List PA := [.a [(y 1), e, (l [[(i 0)]]), bf, e, (y 1), (i 5), (i 0), bf, (y 1), m3, m4, m6, m7], .c (l [[(i 0), (i (-1))], [(i 4), (i (-1))]])]
def r110 : List RA := [.a [.c (y 0), .c e, .c e, .c bf, .c e, .c (y 0), .c (i 0), .c (i 0), .c bf, .c (y 0), .c e, .c e, .c e, .c e], .c (.c (i 0)), .c (.c (i 51))]
theorem g110 : vcall (VN tb4) rounds 6 22 p110 = some r110 := by kernel_rfl
theorem s110 : Spec Go.Proofs.Tryz.prog 22 p110 r110 := fact tk4 g110
def p111 : List PA := [.a [(y 1), e, (l [[(i 0)]]), bf, e, (y 1), (i 5), (i 0), bf, (y 1), m3, m4, m6, m7], .a [(i 4), (i (-1))]]
def r111 : List RA := [.a [.c (y 0), .c e, .c e, .c bf, .c e, .c (y 0), .c (i 0), .c (i 0), .c bf, .c (y 0), .c e, .c e, .c e, .c e], .c (.c bf), .c (.c (i 51))]
theorem g111 : vcall (VN tb4) rounds 6 23 p111 = some r111 := by kernel_rfl
theorem s111 : Spec Go.Proofs.Tryz.prog 23 p111 r111 := fact tk4 g111
def p112 : List PA := [.a [(y 1), e, (l [[(i 0)]]), bf, e, (y 1), (i 5), (i 0), bf, (y 1), m3, m4, m6, m7], .c (l [[(i 0), (i (-1))], [(i 0), (i 0)]])]
def r112 : List RA := [.a [.c (y 0), .c e, .c e, .c bf, .c e, .c (y 0), .c (i 0), .c (i 0), .c bf, .c (y 0), .c e, .c e, .c e, .c e], .c (.c (i 0)), .c (.c (i 51))]
theorem g112 : vcall (VN tb4) rounds 6 22 p112 = some r112 := by kernel_rfl
theorem s112 : Spec Go.Proofs.Tryz.prog 22 p112 r112 := fact tk4 g112
def p113 : List PA := [.a [(y 1), e, (l [[(i 0)]]), bf, e, (y 1), (i 5), (i 0), bf, (y 1), m3, m4, m6, m7], .a [(i 0), (i 0)]]
def r113 : List RA := [.a [.c (y 0), .c e, .c e, .c bf, .c e, .c (y 0), .c (i 0), .c (i 0), .c bf, .c (y 0), .c e, .c e, .c e, .c e], .c (.c bf), .c (.c (i 51))]
theorem g113 : vcall (VN tb4) rounds 6 23 p113 = some r113 := by kernel_rfl
theorem s113 : Spec Go.Proofs.Tryz.prog 23 p113 r113 := fact tk4 g113
def p114 : List PA := [.a [(y 1), e, (l [[(i 0)]]), bf, e, (y 1), (i 5), (i 0), bf, (y 1), m3, m4, m6, m7], .c (l [[(i 0), (i (-1))], [(i 1), (i 1)]])]
def r114 : List RA := [.a [.c (y 0), .c e, .c e, .c bf, .c e, .c (y 0), .c (i 0), .c (i 0), .c bf, .c (y 0), .c e, .c e, .c e, .c e], .c (.c (i 0)), .c (.c (i 51))]
theorem g114 : vcall (VN tb4) rounds 6 22 p114 = some r114 := by kernel_rfl
theorem s114 : Spec Go.Proofs.Tryz.prog 22 p114 r114 := fact tk4 g114
def p115 : List PA := [.a [(y 1), e, (l [[(i 0)]]), bf, e, (y 1), (i 5), (i 0), bf, (y 1), m3, m4, m6, m7], .a [(i 1), (i 1)]]
def r115 : List RA := [.a [.c (y 0), .c e, .c e, .c bf, .c e, .c (y 0), .c (i 0), .c (i 0), .c bf, .c (y 0), .c e, .c e, .c e, .c e], .c (.c bf), .c (.c (i 51))]
theorem g115 : vcall (VN tb4) rounds 6 23 p115 = some r115 := by kernel_rfl
theorem s115 : Spec Go.Proofs.Tryz.prog 23 p115 r115 := fact tk4 g115
def p116 : List PA := [.a [(y 1), e, (l [[(i 0)]]), bf, e, (y 1), (i 5), (i 0), bf, (y 1), m3, m4, m6, m7], .c (l [[(i 0), (i (-1))], [(i 19), (i 3)]])]
def r116 : List RA := [.a [.c (y 0), .c e, .c e, .c bf, .c e, .c (y 0), .c (i 0), .c (i 0), .c bf, .c (y 0), .c e, .c e, .c e, .c e], .c (.c (i 0)), .c (.c (i 51))]
theorem g116 : vcall (VN tb4) rounds 6 22 p116 = some r116 := by kernel_rfl
theorem s116 : Spec Go.Proofs.Tryz.prog 22 p116 r116 := fact tk4 g116
def p117 : List PA := [.a [(y 1), e, (l [[(i 0)]]), bf, e, (y 1), (i 5), (i 0), bf, (y 1), m3, m4, m6, m7], .a [(i 19), (i 3)]]
def r117 : List RA := [.a [.c (y 0), .c e, .c e, .c bf, .c e, .c (y 0), .c (i 0), .c (i 0), .c bf, .c (y 0), .c e, .c e, .c e, .c e], .c (.c bf), .c (.c (i 51))]
theorem g117 : vcall (VN tb4) rounds 6 23 p117 = some r117 := by kernel_rfl
theorem s117 : Spec Go.Proofs.Tryz.prog 23 p117 r117 := fact tk4 g117
def p118 : List PA := [.a [(y 1), e, (l [[(i 0)]]), bf, e, (y 1), (i 5), (i 0), bf, (y 1), m3, m4, m6, m7], .c m37]
def r118 : List RA := [.a [.c (y 0), .c e, .c e, .c bf, .c e, .c (y 0), .c (i 0), .c (i 0), .c bf, .c (y 0), .c e, .c e, .c e, .c e], .c (.c (i 0)), .c (.c (i 4))]
theorem g118 : vcall (VN tb4) rounds 6 22 p118 = some r118 := by kernel_rfl
theorem s118 : Spec Go.Proofs.Tryz.prog 22 p118 r118 := fact tk4 g118
def p132 : List PA := [.a [(y 1), e, (l [[(i 0)]]), bf, e, (y 1), (i 5), (i 0), bf, (y 1), m3, m4, m6, m7], .c (i 0)]
def r132 : List RA := [.a [.c (y 1), .c e, .c (l [[(i 0)]]), .c bf, .c e, .c (y 1), .c (i 5), .c (i 0), .c bf, .c (y 1), .c m3, .c m4, .c m10, .c m7], .c (.c (i 0))]
theorem g132 : vcall (VN tb4) rounds 6 11 p132 = some r132 := by kernel_rfl
theorem s132 : Spec Go.Proofs.Tryz.prog 11 p132 r132 := fact tk4 g132
def p142 : List PA := [.a [(y 1), e, (l [[(i 0)]]), bf, e, (y 1), (i 5), (i 0), bf, (y 1), m3, m4, m10, m7], .c (i 0)]
def r142 : List RA := [.a [.c (y 1), .c e, .c (l [[(i 0)]]), .c bf, .c e, .c (y 1), .c (i 5), .c (i 0), .c bf, .c (y 1), .c m3, .c m4, .c m12, .c m13], .c (.c (i 0))]
theorem g142 : vcall (VN tb4) rounds 6 11 p142 = some r142 := by kernel_rfl
theorem s142 : Spec Go.Proofs.Tryz.prog 11 p142 r142 := fact tk4 g142
def p151 : List PA := [.a [(y 1), e, (l [[(i 0)]]), bf, e, (y 1), (i 5), (i 0), bf, (y 1), m3, m4, m12, m13], .c (i 1)]
def r151 : List RA := [.a [.c (y 1), .c e, .c (l [[(i 0)]]), .c bf, .c e, .c (y 1), .c (i 5), .c (i 0), .c bf, .c (y 1), .c m3, .c m4, .c m15, .c m7], .c (.c (i 0))]
theorem g151 : vcall (VN tb4) rounds 6 11 p151 = some r151 := by kernel_rfl
theorem s151 : Spec Go.Proofs.Tryz.prog 11 p151 r151 := fact tk4 g151
def p160 : List PA := [.a [(y 1), e, (l [[(i 0)]]), bf, e, (y 1), (i 5), (i 0), bf, (y 1), m3, m4, m15, m7], .c (i 1)]
def r160 : List RA := [.a [.c (y 1), .c e, .c (l [[(i 0)]]), .c bf, .c e, .c (y 1), .c (i 5), .c (i 0), .c bf, .c (y 1), .c m3, .c m4, .c m12, .c m16], .c (.c (i 0))]
theorem g160 : vcall (VN tb4) rounds 6 11 p160 = some r160 := by kernel_rfl
theorem s160 : Spec Go.Proofs.Tryz.prog 11 p160 r160 := fact tk4 g160
def p167 : List PA := [.a [(y 1), e, (l [[(i 0)]]), bf, e, (y 1), (i 5), (i 0), bf, (y 1), m3, m4, m12, m16], .c (i 0)]
def r167 : List RA := [.a [.c (y 1), .c e, .c (l [[(i 0)]]), .c bf, .c e, .c (y 1), .c (i 5), .c (i 0), .c bf, .c (y 1), .c m3, .c m4, .c m18, .c m16], .c (.c (i 0))]
theorem g167 : vcall (VN tb4) rounds 6 11 p167 = some r167 := by kernel_rfl
theorem s167 : Spec Go.Proofs.Tryz.prog 11 p167 r167 := fact tk4 g167
def p177 : List PA := [.a [(y 1), e, (l [[(i 0)]]), bf, e, (y 1), (i 5), (i 0), bf, (y 1), m3, m4, m18, m16], .c (i 0)]
def r177 : List RA := [.a [.c (y 1), .c e, .c (l [[(i 0)]]), .c bf, .c e, .c (y 1), .c (i 5), .c (i 0), .c bf, .c (y 1), .c m3, .c m4, .c m20, .c m21], .c (.c (i 0))]
theorem g177 : vcall (VN tb4) rounds 6 11 p177 = some r177 := by kernel_rfl
theorem s177 : Spec Go.Proofs.Tryz.prog 11 p177 r177 := fact tk4 g177
def p188 : List PA := [.a [(y 1), e, (l [[(i 0)]]), bf, e, (y 1), (i 5), (i 0), bf, (y 1), m3, m4, m20, m21], .c (i 2)]
def r188 : List RA := [.a [.c (y 1), .c e, .c (l [[(i 0)]]), .c bf, .c e, .c (y 1), .c (i 5), .c (i 0), .c bf, .c (y 1), .c m3, .c m4, .c m23, .c m24], .c (.c (i 0))]
theorem g188 : vcall (VN tb4) rounds 6 11 p188 = some r188 := by kernel_rfl
theorem s188 : Spec Go.Proofs.Tryz.prog 11 p188 r188 := fact tk4 g188
def p197 : List PA := [.a [(y 1), e, (l [[(i 0)]]), bf, e, (y 1), (i 5), (i 0), bf, (y 1), m3, m4, m23, m24], .c (i 1)]
def r197 : List RA := [.a [.c (y 1), .c e, .c (l [[(i 0)]]), .c bf, .c e, .c (y 1), .c (i 5), .c (i 0), .c bf, .c (y 1), .c m3, .c m4, .c m26, .c m7], .c (.c (i 0))]
theorem g197 : vcall (VN tb4) rounds 6 11 p197 = some r197 := by kernel_rfl
theorem s197 : Spec Go.Proofs.Tryz.prog 11 p197 r197 := fact tk4 g197
def p206 : List PA := [.a [(y 1), e, (l [[(i 0)]]), bf, e, (y 1), (i 5), (i 0), bf, (y 1), m3, m4, m26, m7], .c (i 1)]
def r206 : List RA := [.a [.c (y 1), .c e, .c (l [[(i 0)]]), .c bf, .c e, .c (y 1), .c (i 5), .c (i 0), .c bf, .c (y 1), .c m3, .c m4, .c m27, .c m28], .c (.c (i 0))]
theorem g206 : vcall (VN tb4) rounds 6 11 p206 = some r206 := by kernel_rfl
theorem s206 : Spec Go.Proofs.Tryz.prog 11 p206 r206 := fact tk4 g206
def p215 : List PA := [.a [(y 1), e, (l [[(i 0)]]), bf, e, (y 1), (i 5), (i 0), bf, (y 1), m3, m4, m27, m28], .c (i 2)]
def r215 : List RA := [.a [.c (y 1), .c e, .c (l [[(i 0)]]), .c bf, .c e, .c (y 1), .c (i 5), .c (i 0), .c bf, .c (y 1), .c m3, .c m4, .c m30, .c m7], .c (.c (i 0))]
theorem g215 : vcall (VN tb4) rounds 6 11 p215 = some r215 := by kernel_rfl
theorem s215 : Spec Go.Proofs.Tryz.prog 11 p215 r215 := fact tk4 g215
def p225 : List PA := [.a [(y 1), e, (l [[(i 0)]]), bf, e, (y 1), (i 5), (i 0), bf, (y 1), m3, m4, m30, m7], .c (i 2)]
def r225 : List RA := [.a [.c (y 1), .c e, .c (l [[(i 0)]]), .c bf, .c e, .c (y 1), .c (i 5), .c (i 0), .c bf, .c (y 1), .c m3, .c m4, .c m32, .c m33], .c (.c (i 0))]
theorem g225 : vcall (VN tb4) rounds 6 11 p225 = some r225 := by kernel_rfl
theorem s225 : Spec Go.Proofs.Tryz.prog 11 p225 r225 := fact tk4 g225
def p234 : List PA := [.a [(y 1), e, (l [[(i 0)]]), bf, e, (y 1), (i 5), (i 0), bf, (y 1), m3, m4, m32, m33], .c (i 3)]
def r234 : List RA := [.a [.c (y 1), .c e, .c (l [[(i 0)]]), .c bf, .c e, .c (y 1), .c (i 5), .c (i 0), .c bf, .c (y 1), .c m3, .c m4, .c m36, .c m7], .c (.c (i 0))]
theorem g234 : vcall (VN tb4) rounds 6 11 p234 = some r234 := by kernel_rfl
theorem s234 : Spec Go.Proofs.Tryz.prog 11 p234 r234 := fact tk4 g234
def p241 : List PA := [.a [(y 1), e, (l [[(i 0)]]), bf, e, (y 1), (i 5), (i 0), bf, (y 1), m3, m4, m36, m7], .c (i 3)]
def r241 : List RA := [.a [.c (y 0), .c e, .c e, .c bf, .c e, .c (y 0), .c (i 0), .c (i 0), .c bf, .c (y 0), .c e, .c e, .c e, .c e], .c (.c (i 6))]
theorem g241 : vcall (VN tb4) rounds 6 11 p241 = some r241 := by kernel_rfl
theorem s241 : Spec Go.Proofs.Tryz.prog 11 p241 r241 := fact tk4 g241
def p248 : List PA := [.a [(y 1), e, (l [[(i 0)]]), bf, e, (y 1), (i 5), (i 0), bf, (y 1), m3, m4, m6, m7], .c (i 1), .c (i 0)]
def r248 : List RA := [.a [.c (y 0), .c e, .c e, .c bf, .c e, .c (y 0), .c (i 0), .c (i 0), .c bf, .c (y 0), .c e, .c e, .c e, .c e], .c (.c (i 6))]
theorem g248 : vcall (VN tb4) rounds 6 121 p248 = some r248 := by kernel_rfl
theorem s248 : Spec Go.Proofs.Tryz.prog 121 p248 r248 := fact tk4 g248
def p256 : List PA := [.a [(y 1), e, (l [[(i 0)]]), bf, e, (y 1), (i 5), (i 0), bf, (y 1), m3, m4, m12, m13], .c (i 1), .c (i 0)]
def r256 : List RA := [.a [.c (y 1), .c e, .c (l [[(i 0)]]), .c bf, .c e, .c (y 1), .c (i 5), .c (i 0), .c bf, .c (y 1), .c m3, .c m4, .c m15, .c m7], .c (.c (i 0))]
theorem g256 : vcall (VN tb4) rounds 6 121 p256 = some r256 := by kernel_rfl
theorem s256 : Spec Go.Proofs.Tryz.prog 121 p256 r256 := fact tk4 g256
def p260 : List PA := [.a [(y 1), e, (l [[(i 0)]]), bf, e, (y 1), (i 5), (i 0), bf, (y 1), m3, m4, m6, m7], .c e]
def r260 : List RA := [.a [.c (y 1), .c e, .c (l [[(i 0)]]), .c bf, .c e, .c (y 1), .c (i 5), .c (i 0), .c bf, .c (y 1), .c m3, .c m4, .c m6, .c m7], .c (.c (i 0)), .c (.c (i 0))]
theorem g260 : vcall (VN tb4) rounds 6 22 p260 = some r260 := by kernel_rfl
theorem s260 : Spec Go.Proofs.Tryz.prog 22 p260 r260 := fact tk4 g260
def p276 : List PA := [.a [(y 1), e, (l [[(i 0)]]), bf, e, (y 1), (i 5), (i 0), bf, (y 1), m3, m4, m41, m7], .c (i 1)]
def r276 : List RA := [.a [.c (y 0), .c e, .c e, .c bf, .c e, .c (y 0), .c (i 0), .c (i 0), .c bf, .c (y 0), .c e, .c e, .c e, .c e], .c (.c (i 6))]
theorem g276 : vcall (VN tb4) rounds 6 11 p276 = some r276 := by kernel_rfl
theorem s276 : Spec Go.Proofs.Tryz.prog 11 p276 r276 := fact tk4 g276
def p281 : List PA := [.a [(y 1), e, (l [[(i 0)]]), bf, e, (y 1), (i 5), (i 0), bf, (y 1), m3, m4, m41, m7], .c (i 0)]
def r281 : List RA := [.a [.c (y 1), .c e, .c (l [[(i 0)]]), .c bf, .c e, .c (y 1), .c (i 5), .c (i 0), .c bf, .c (y 1), .c m3, .c m4, .c m42, .c m7], .c (.c (i 0))]
theorem g281 : vcall (VN tb4) rounds 6 11 p281 = some r281 := by kernel_rfl
theorem s281 : Spec Go.Proofs.Tryz.prog 11 p281 r281 := fact tk4 g281
def p290 : List PA := [.a [(y 1), e, (l [[(i 0)]]), bf, e, (y 1), (i 5), (i 0), bf, (y 1), m3, m4, m42, m7], .c (i 0)]
def r290 : List RA := [.a [.c (y 1), .c e, .c (l [[(i 0)]]), .c bf, .c e, .c (y 1), .c (i 5), .c (i 0), .c bf, .c (y 1), .c m3, .c m4, .c m20, .c m13], .c (.c (i 0))]
theorem g290 : vcall (VN tb4) rounds 6 11 p290 = some r290 := by kernel_rfl
theorem s290 : Spec Go.Proofs.Tryz.prog 11 p290 r290 := fact tk4 g290
def p296 : List PA := [.a [(y 1), e, (l [[(i 0)]]), bf, e, (y 1), (i 5), (i 0), bf, (y 1), m3, m4, m20, m13], .c (i 0)]
def r296 : List RA := [.a [.c (y 0), .c e, .c e, .c bf, .c e, .c (y 0), .c (i 0), .c (i 0), .c bf, .c (y 0), .c e, .c e, .c e, .c e], .c (.c (i 6))]
theorem g296 : vcall (VN tb4) rounds 6 11 p296 = some r296 := by kernel_rfl
theorem s296 : Spec Go.Proofs.Tryz.prog 11 p296 r296 := fact tk4 g296
def tb5 : List (FuncId × List PA × List RA) := [(40, p64, r64), (22, p102, r102), (23, p103, r103), (22, p104, r104), (23, p105, r105), (22, p106, r106), (23, p107, r107), (22, p108, r108), (23, p109, r109), (22, p110, r110), (23, p111, r111), (22, p112, r112), (23, p113, r113), (22, p114, r114), (23, p115, r115), (22, p116, r116), (23, p117, r117), (22, p118, r118), (11, p132, r132), (11, p142, r142), (11, p151, r151), (11, p160, r160), (11, p167, r167), (11, p177, r177), (11, p188, r188), (11, p197, r197), (11, p206, r206), (11, p215, r215), (11, p225, r225), (11, p234, r234), (11, p241, r241), (121, p248, r248), (121, p256, r256), (22, p260, r260), (11, p276, r276), (11, p281, r281), (11, p290, r290), (11, p296, r296)] ++ tb4
theorem tk5 : TOK Go.Proofs.Tryz.prog tb5 := TOK.app (l := [(40, p64, r64), (22, p102, r102), (23, p103, r103), (22, p104, r104), (23, p105, r105), (22, p106, r106), (23, p107, r107), (22, p108, r108), (23, p109, r109), (22, p110, r110), (23, p111, r111), (22, p112, r112), (23, p113, r113), (22, p114, r114), (23, p115, r115), (22, p116, r116), (23, p117, r117), (22, p118, r118), (11, p132, r132), (11, p142, r142), (11, p151, r151), (11, p160, r160), (11, p167, r167), (11, p177, r177), (11, p188, r188), (11, p197, r197), (11, p206, r206), (11, p215, r215), (11, p225, r225), (11, p234, r234), (11, p241, r241), (121, p248, r248), (121, p256, r256), (22, p260, r260), (11, p276, r276), (11, p281, r281), (11, p290, r290), (11, p296, r296)]) ⟨s64, s102, s103, s104, s105, s106, s107, s108, s109, s110, s111, s112, s113, s114, s115, s116, s117, s118, s132, s142, s151, s160, s167, s177, s188, s197, s206, s215, s225, s234, s241, s248, s256, s260, s276, s281, s290, s296, trivial⟩ tk4
def p66 : List PA := [.c (s [115, 101, 108, 101, 99, 116, 32, 99, 111, 117, 110, 116, 40, 42, 41, 32, 102, 114, 111, 109, 32, 97, 32, 119, 105, 110, 100, 111, 119, 32, 116, 117, 109, 98, 108, 101, 32, 53])]
def r66 : List RA := [.a [.c (y 1), .c e, .c (l [[(i 0)]]), .c bf, .c e, .c (y 1), .c (i 5), .c (i 0), .c bf, .c (y 1)], .c (.c (i 38)), .c (.c (i 0))]
theorem g66 : vcall (VN tb5) rounds 6 8 p66 = some r66 := by kernel_rfl
theorem s66 : Spec Go.Proofs.Tryz.prog 8 p66 r66 := fact tk5 g66
def p133 : List PA := [.a [(y 1), e, (l [[(i 0)]]), bf, e, (y 1), (i 5), (i 0), bf, (y 1), m3, m4, m6, m7], .a [(i 0), (i (-1))]]
def r133 : List RA := [.a [.c (y 1), .c e, .c (l [[(i 0)]]), .c bf, .c e, .c (y 1), .c (i 5), .c (i 0), .c bf, .c (y 1), .c m3, .c m4, .c m10, .c m7], .c (.c bt)]
theorem g133 : vcall (VN tb5) rounds 6 77 p133 = some r133 := by kernel_rfl
theorem s133 : Spec Go.Proofs.Tryz.prog 77 p133 r133 := fact tk5 g133
def p143 : List PA := [.a [(y 1), e, (l [[(i 0)]]), bf, e, (y 1), (i 5), (i 0), bf, (y 1), m3, m4, m10, m7], .a [(i 0), (i (-1))]]
def r143 : List RA := [.a [.c (y 1), .c e, .c (l [[(i 0)]]), .c bf, .c e, .c (y 1), .c (i 5), .c (i 0), .c bf, .c (y 1), .c m3, .c m4, .c m12, .c m13], .c (.c bt)]
theorem g143 : vcall (VN tb5) rounds 6 77 p143 = some r143 := by kernel_rfl
theorem s143 : Spec Go.Proofs.Tryz.prog 77 p143 r143 := fact tk5 g143
def p152 : List PA := [.a [(y 1), e, (l [[(i 0)]]), bf, e, (y 1), (i 5), (i 0), bf, (y 1), m3, m4, m12, m13], .a [(i 1), (i (-1))]]
def r152 : List RA := [.a [.c (y 1), .c e, .c (l [[(i 0)]]), .c bf, .c e, .c (y 1), .c (i 5), .c (i 0), .c bf, .c (y 1), .c m3, .c m4, .c m15, .c m7], .c (.c bt)]
theorem g152 : vcall (VN tb5) rounds 6 77 p152 = some r152 := by kernel_rfl
theorem s152 : Spec Go.Proofs.Tryz.prog 77 p152 r152 := fact tk5 g152
def p161 : List PA := [.a [(y 1), e, (l [[(i 0)]]), bf, e, (y 1), (i 5), (i 0), bf, (y 1), m3, m4, m15, m7], .a [(i 1), (i (-1))]]
def r161 : List RA := [.a [.c (y 1), .c e, .c (l [[(i 0)]]), .c bf, .c e, .c (y 1), .c (i 5), .c (i 0), .c bf, .c (y 1), .c m3, .c m4, .c m12, .c m16], .c (.c bt)]
theorem g161 : vcall (VN tb5) rounds 6 77 p161 = some r161 := by kernel_rfl
theorem s161 : Spec Go.Proofs.Tryz.prog 77 p161 r161 := fact tk5 g161
def p168 : List PA := [.a [(y 1), e, (l [[(i 0)]]), bf, e, (y 1), (i 5), (i 0), bf, (y 1), m3, m4, m12, m16], .a [(i 0), (i (-1))]]
def r168 : List RA := [.a [.c (y 1), .c e, .c (l [[(i 0)]]), .c bf, .c e, .c (y 1), .c (i 5), .c (i 0), .c bf, .c (y 1), .c m3, .c m4, .c m18, .c m16], .c (.c bt)]
theorem g168 : vcall (VN tb5) rounds 6 77 p168 = some r168 := by kernel_rfl
theorem s168 : Spec Go.Proofs.Tryz.prog 77 p168 r168 := fact tk5 g168
def p178 : List PA := [.a [(y 1), e, (l [[(i 0)]]), bf, e, (y 1), (i 5), (i 0), bf, (y 1), m3, m4, m18, m16], .a [(i 0), (i (-1))]]
def r178 : List RA := [.a [.c (y 1), .c e, .c (l [[(i 0)]]), .c bf, .c e, .c (y 1), .c (i 5), .c (i 0), .c bf, .c (y 1), .c m3, .c m4, .c m20, .c m21], .c (.c bt)]
theorem g178 : vcall (VN tb5) rounds 6 77 p178 = some r178 := by kernel_rfl
theorem s178 : Spec Go.Proofs.Tryz.prog 77 p178 r178 := fact tk5 g178
def p189 : List PA := [.a [(y 1), e, (l [[(i 0)]]), bf, e, (y 1), (i 5), (i 0), bf, (y 1), m3, m4, m20, m21], .a [(i 2), (i (-1))]]
def r189 : List RA := [.a [.c (y 1), .c e, .c (l [[(i 0)]]), .c bf, .c e, .c (y 1), .c (i 5), .c (i 0), .c bf, .c (y 1), .c m3, .c m4, .c m23, .c m24], .c (.c bt)]
theorem g189 : vcall (VN tb5) rounds 6 77 p189 = some r189 := by kernel_rfl
theorem s189 : Spec Go.Proofs.Tryz.prog 77 p189 r189 := fact tk5 g189
def p198 : List PA := [.a [(y 1), e, (l [[(i 0)]]), bf, e, (y 1), (i 5), (i 0), bf, (y 1), m3, m4, m23, m24], .a [(i 1), (i (-1))]]
def r198 : List RA := [.a [.c (y 1), .c e, .c (l [[(i 0)]]), .c bf, .c e, .c (y 1), .c (i 5), .c (i 0), .c bf, .c (y 1), .c m3, .c m4, .c m26, .c m7], .c (.c bt)]
theorem g198 : vcall (VN tb5) rounds 6 77 p198 = some r198 := by kernel_rfl
theorem s198 : Spec Go.Proofs.Tryz.prog 77 p198 r198 := fact tk5 g198
def p207 : List PA := [.a [(y 1), e, (l [[(i 0)]]), bf, e, (y 1), (i 5), (i 0), bf, (y 1), m3, m4, m26, m7], .a [(i 1), (i (-1))]]
def r207 : List RA := [.a [.c (y 1), .c e, .c (l [[(i 0)]]), .c bf, .c e, .c (y 1), .c (i 5), .c (i 0), .c bf, .c (y 1), .c m3, .c m4, .c m27, .c m28], .c (.c bt)]
theorem g207 : vcall (VN tb5) rounds 6 77 p207 = some r207 := by kernel_rfl
theorem s207 : Spec Go.Proofs.Tryz.prog 77 p207 r207 := fact tk5 g207
def p216 : List PA := [.a [(y 1), e, (l [[(i 0)]]), bf, e, (y 1), (i 5), (i 0), bf, (y 1), m3, m4, m27, m28], .a [(i 2), (i (-1))]]
def r216 : List RA := [.a [.c (y 1), .c e, .c (l [[(i 0)]]), .c bf, .c e, .c (y 1), .c (i 5), .c (i 0), .c bf, .c (y 1), .c m3, .c m4, .c m30, .c m7], .c (.c bt)]
theorem g216 : vcall (VN tb5) rounds 6 77 p216 = some r216 := by kernel_rfl
theorem s216 : Spec Go.Proofs.Tryz.prog 77 p216 r216 := fact tk5 g216
def p226 : List PA := [.a [(y 1), e, (l [[(i 0)]]), bf, e, (y 1), (i 5), (i 0), bf, (y 1), m3, m4, m30, m7], .a [(i 2), (i (-1))]]
def r226 : List RA := [.a [.c (y 1), .c e, .c (l [[(i 0)]]), .c bf, .c e, .c (y 1), .c (i 5), .c (i 0), .c bf, .c (y 1), .c m3, .c m4, .c m32, .c m33], .c (.c bt)]
theorem g226 : vcall (VN tb5) rounds 6 77 p226 = some r226 := by kernel_rfl
theorem s226 : Spec Go.Proofs.Tryz.prog 77 p226 r226 := fact tk5 g226
def p235 : List PA := [.a [(y 1), e, (l [[(i 0)]]), bf, e, (y 1), (i 5), (i 0), bf, (y 1), m3, m4, m32, m33], .a [(i 3), (i (-1))]]
def r235 : List RA := [.a [.c (y 1), .c e, .c (l [[(i 0)]]), .c bf, .c e, .c (y 1), .c (i 5), .c (i 0), .c bf, .c (y 1), .c m3, .c m4, .c m36, .c m7], .c (.c bt)]
theorem g235 : vcall (VN tb5) rounds 6 77 p235 = some r235 := by kernel_rfl
theorem s235 : Spec Go.Proofs.Tryz.prog 77 p235 r235 := fact tk5 g235
def p242 : List PA := [.a [(y 1), e, (l [[(i 0)]]), bf, e, (y 1), (i 5), (i 0), bf, (y 1), m3, m4, m36, m7], .a [(i 3), (i (-1))]]
def r242 : List RA := [.a [.c (y 1), .c e, .c (l [[(i 0)]]), .c bf, .c e, .c (y 1), .c (i 5), .c (i 0), .c bf, .c (y 1), .c m3, .c m4, .c m36, .c m7], .c (.c bf)]
theorem g242 : vcall (VN tb5) rounds 6 77 p242 = some r242 := by kernel_rfl
theorem s242 : Spec Go.Proofs.Tryz.prog 77 p242 r242 := fact tk5 g242
def p249 : List PA := [.a [(y 1), e, (l [[(i 0)]]), bf, e, (y 1), (i 5), (i 0), bf, (y 1), m3, m4, m6, m7], .a [(i 1), (i 0)]]
def r249 : List RA := [.a [.c (y 1), .c e, .c (l [[(i 0)]]), .c bf, .c e, .c (y 1), .c (i 5), .c (i 0), .c bf, .c (y 1), .c m3, .c m4, .c m6, .c m7], .c (.c bf)]
theorem g249 : vcall (VN tb5) rounds 6 77 p249 = some r249 := by kernel_rfl
theorem s249 : Spec Go.Proofs.Tryz.prog 77 p249 r249 := fact tk5 g249
def p257 : List PA := [.a [(y 1), e, (l [[(i 0)]]), bf, e, (y 1), (i 5), (i 0), bf, (y 1), m3, m4, m12, m13], .a [(i 1), (i 0)]]
def r257 : List RA := [.a [.c (y 1), .c e, .c (l [[(i 0)]]), .c bf, .c e, .c (y 1), .c (i 5), .c (i 0), .c bf, .c (y 1), .c m3, .c m4, .c m15, .c m7], .c (.c bt)]
theorem g257 : vcall (VN tb5) rounds 6 77 p257 = some r257 := by kernel_rfl
theorem s257 : Spec Go.Proofs.Tryz.prog 77 p257 r257 := fact tk5 g257
def p277 : List PA := [.a [(y 1), e, (l [[(i 0)]]), bf, e, (y 1), (i 5), (i 0), bf, (y 1), m3, m4, m41, m7], .a [(i 1), (i (-1))]]
def r277 : List RA := [.a [.c (y 1), .c e, .c (l [[(i 0)]]), .c bf, .c e, .c (y 1), .c (i 5), .c (i 0), .c bf, .c (y 1), .c m3, .c m4, .c m41, .c m7], .c (.c bf)]
theorem g277 : vcall (VN tb5) rounds 6 77 p277 = some r277 := by kernel_rfl
theorem s277 : Spec Go.Proofs.Tryz.prog 77 p277 r277 := fact tk5 g277
def p282 : List PA := [.a [(y 1), e, (l [[(i 0)]]), bf, e, (y 1), (i 5), (i 0), bf, (y 1), m3, m4, m41, m7], .a [(i 0), (i (-1))]]
def r282 : List RA := [.a [.c (y 1), .c e, .c (l [[(i 0)]]), .c bf, .c e, .c (y 1), .c (i 5), .c (i 0), .c bf, .c (y 1), .c m3, .c m4, .c m42, .c m7], .c (.c bt)]
theorem g282 : vcall (VN tb5) rounds 6 77 p282 = some r282 := by kernel_rfl
theorem s282 : Spec Go.Proofs.Tryz.prog 77 p282 r282 := fact tk5 g282
def p291 : List PA := [.a [(y 1), e, (l [[(i 0)]]), bf, e, (y 1), (i 5), (i 0), bf, (y 1), m3, m4, m42, m7], .a [(i 0), (i (-1))]]
def r291 : List RA := [.a [.c (y 1), .c e, .c (l [[(i 0)]]), .c bf, .c e, .c (y 1), .c (i 5), .c (i 0), .c bf, .c (y 1), .c m3, .c m4, .c m20, .c m13], .c (.c bt)]
theorem g291 : vcall (VN tb5) rounds 6 77 p291 = some r291 := by kernel_rfl
theorem s291 : Spec Go.Proofs.Tryz.prog 77 p291 r291 := fact tk5 g291
def p297 : List PA := [.a [(y 1), e, (l [[(i 0)]]), bf, e, (y 1), (i 5), (i 0), bf, (y 1), m3, m4, m20, m13], .a [(i 0), (i (-1))]]
def r297 : List RA := [.a [.c (y 1), .c e, .c (l [[(i 0)]]), .c bf, .c e, .c (y 1), .c (i 5), .c (i 0), .c bf, .c (y 1), .c m3, .c m4, .c m20, .c m13], .c (.c bf)]
theorem g297 : vcall (VN tb5) rounds 6 77 p297 = some r297 := by kernel_rfl
theorem s297 : Spec Go.Proofs.Tryz.prog 77 p297 r297 := fact tk5 g297
def tb6 : List (FuncId × List PA × List RA) := [(8, p66, r66), (77, p133, r133), (77, p143, r143), (77, p152, r152), (77, p161, r161), (77, p168, r168), (77, p178, r178), (77, p189, r189), (77, p198, r198), (77, p207, r207), (77, p216, r216), (77, p226, r226), (77, p235, r235), (77, p242, r242), (77, p249, r249), (77, p257, r257), (77, p277, r277), (77, p282, r282), (77, p291, r291), (77, p297, r297)] ++ tb5
theorem tk6 : TOK Go.Proofs.Tryz.prog tb6 := TOK.app (l := [(8, p66, r66), (77, p133, r133), (77, p143, r143), (77, p152, r152), (77, p161, r161), (77, p168, r168), (77, p178, r178), (77, p189, r189), (77, p198, r198), (77, p207, r207), (77, p216, r216), (77, p226, r226), (77, p235, r235), (77, p242, r242), (77, p249, r249), (77, p257, r257), (77, p277, r277), (77, p282, r282), (77, p291, r291), (77, p297, r297)]) ⟨s66, s133, s143, s152, s161, s168, s178, s189, s198, s207, s216, s226, s235, s242, s249, s257, s277, s282, s291, s297, trivial⟩ tk5
def p76 : List PA := [.c (s [115, 101, 108, 101, 99, 116, 32, 99, 111, 117, 110, 116, 40, 42, 41, 32, 102, 114, 111, 109, 32, 97, 32, 119, 105, 110, 100, 111, 119, 32, 116, 117, 109, 98, 108, 101, 32, 53]), .c m2, .c (i 1), .c (i 1)]
def r76 : List RA := [.a [.c (y 1), .c e, .c (l [[(i 0)]]), .c bf, .c e, .c (y 1), .c (i 5), .c (i 0), .c bf, .c (y 1), .c m3, .c m4, .c m6, .c m7], .c (.c (i 38)), .c (.c (i 0))]
theorem g76 : vcall (VN tb6) rounds 6 13 p76 = some r76 := by kernel_rfl
theorem s76 : Spec Go.Proofs.Tryz.prog 13 p76 r76 := fact tk6 g76
def p244 : List PA := [.a [(y 1), e, (l [[(i 0)]]), bf, e, (y 1), (i 5), (i 0), bf, (y 1), m3, m4, m6, m7], .c m5]
def r244 : List RA := [.a [.c (y 1), .c e, .c (l [[(i 0)]]), .c bf, .c e, .c (y 1), .c (i 5), .c (i 0), .c bf, .c (y 1), .c m3, .c m4, .c m36, .c m7], .c (.c (i 12)), .c (.c (i 0))]
theorem g244 : vcall (VN tb6) rounds 6 22 p244 = some r244 := by kernel_rfl
theorem s244 : Spec Go.Proofs.Tryz.prog 22 p244 r244 := fact tk6 g244
end Tn.Ru
