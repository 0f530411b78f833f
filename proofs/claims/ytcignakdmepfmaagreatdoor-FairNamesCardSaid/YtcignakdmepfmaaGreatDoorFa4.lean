import Derived.Test.YtcignakdmepfmaaGreatDoorFa3
/- Closed facts of one run, each by the kernel. -/
set_option linter.unusedVariables false
namespace Tn.Fa
open Go Go.Abs Tn
def p189 : List PA := [.a [(y 1), e, (l [[(i 0)]]), bf, e, (y 1), (i 5), (i 0), bf, (y 1), m3, m4, m13, m6], .a [(i 3), (i (-1))]]
def r189 : List RA := [.a [.c (y 1), .c e, .c (l [[(i 0)]]), .c bf, .c e, .c (y 1), .c (i 5), .c (i 0), .c bf, .c (y 1), .c m3, .c m4, .c m13, .c m6], .c (.c bf)]
theorem g189 : vcall (VN tb5) rounds 6 77 p189 = some r189 := by kernel_rfl
theorem s189 : Spec Go.Proofs.Tryz.prog 77 p189 r189 := fact tk5 g189
def p193 : List PA := [.a [(y 1), e, (l [[(i 0)]]), bf, e, (y 1), (i 5), (i 0), bf, (y 1), m3, m4, m13, m6], .a [(i 0), (i (-1))]]
def r193 : List RA := [.a [.c (y 1), .c e, .c (l [[(i 0)]]), .c bf, .c e, .c (y 1), .c (i 5), .c (i 0), .c bf, .c (y 1), .c m3, .c m4, .c m13, .c m6], .c (.c bf)]
theorem g193 : vcall (VN tb5) rounds 6 77 p193 = some r193 := by kernel_rfl
theorem s193 : Spec Go.Proofs.Tryz.prog 77 p193 r193 := fact tk5 g193
def p198 : List PA := [.a [(y 1), e, (l [[(i 0)]]), bf, e, (y 1), (i 5), (i 0), bf, (y 1), m3, m4, m13, m6], .a [(i 1), (i (-1))]]
def r198 : List RA := [.a [.c (y 1), .c e, .c (l [[(i 0)]]), .c bf, .c e, .c (y 1), .c (i 5), .c (i 0), .c bf, .c (y 1), .c m3, .c m4, .c m10, .c m14], .c (.c bt)]
theorem g198 : vcall (VN tb5) rounds 6 77 p198 = some r198 := by kernel_rfl
theorem s198 : Spec Go.Proofs.Tryz.prog 77 p198 r198 := fact tk5 g198
def p207 : List PA := [.a [(y 1), e, (l [[(i 0)]]), bf, e, (y 1), (i 5), (i 0), bf, (y 1), m3, m4, m10, m14], .a [(i 2), (i (-1))]]
def r207 : List RA := [.a [.c (y 1), .c e, .c (l [[(i 0)]]), .c bf, .c e, .c (y 1), .c (i 5), .c (i 0), .c bf, .c (y 1), .c m3, .c m4, .c m16, .c m6], .c (.c bt)]
theorem g207 : vcall (VN tb5) rounds 6 77 p207 = some r207 := by kernel_rfl
theorem s207 : Spec Go.Proofs.Tryz.prog 77 p207 r207 := fact tk5 g207
def p212 : List PA := [.a [(y 1), e, (l [[(i 0)]]), bf, e, (y 1), (i 5), (i 0), bf, (y 1), m3, m4, m16, m6], .a [(i 3), (i (-1))]]
def r212 : List RA := [.a [.c (y 1), .c e, .c (l [[(i 0)]]), .c bf, .c e, .c (y 1), .c (i 5), .c (i 0), .c bf, .c (y 1), .c m3, .c m4, .c m16, .c m6], .c (.c bf)]
theorem g212 : vcall (VN tb5) rounds 6 77 p212 = some r212 := by kernel_rfl
theorem s212 : Spec Go.Proofs.Tryz.prog 77 p212 r212 := fact tk5 g212
def p215 : List PA := [.a [(y 1), e, (l [[(i 0)]]), bf, e, (y 1), (i 5), (i 0), bf, (y 1), m3, m4, m16, m6], .a [(i 0), (i (-1))]]
def r215 : List RA := [.a [.c (y 1), .c e, .c (l [[(i 0)]]), .c bf, .c e, .c (y 1), .c (i 5), .c (i 0), .c bf, .c (y 1), .c m3, .c m4, .c m16, .c m6], .c (.c bf)]
theorem g215 : vcall (VN tb5) rounds 6 77 p215 = some r215 := by kernel_rfl
theorem s215 : Spec Go.Proofs.Tryz.prog 77 p215 r215 := fact tk5 g215
def p218 : List PA := [.a [(y 1), e, (l [[(i 0)]]), bf, e, (y 1), (i 5), (i 0), bf, (y 1), m3, m4, m16, m6], .a [(i 1), (i (-1))]]
def r218 : List RA := [.a [.c (y 1), .c e, .c (l [[(i 0)]]), .c bf, .c e, .c (y 1), .c (i 5), .c (i 0), .c bf, .c (y 1), .c m3, .c m4, .c m16, .c m6], .c (.c bf)]
theorem g218 : vcall (VN tb5) rounds 6 77 p218 = some r218 := by kernel_rfl
theorem s218 : Spec Go.Proofs.Tryz.prog 77 p218 r218 := fact tk5 g218
def p221 : List PA := [.a [(y 1), e, (l [[(i 0)]]), bf, e, (y 1), (i 5), (i 0), bf, (y 1), m3, m4, m16, m6], .a [(i 2), (i (-1))]]
def r221 : List RA := [.a [.c (y 1), .c e, .c (l [[(i 0)]]), .c bf, .c e, .c (y 1), .c (i 5), .c (i 0), .c bf, .c (y 1), .c m3, .c m4, .c m16, .c m6], .c (.c bf)]
theorem g221 : vcall (VN tb5) rounds 6 77 p221 = some r221 := by kernel_rfl
theorem s221 : Spec Go.Proofs.Tryz.prog 77 p221 r221 := fact tk5 g221
def p229 : List PA := [.a [(y 1), e, (l [[(i 0)]]), bf, e, (y 1), (i 5), (i 0), bf, (y 1), m3, m4, m5, m6], .c m20, .c (i 0)]
def r229 : List RA := [.a [.c (y 1), .c e, .c (l [[(i 0)]]), .c bf, .c e, .c (y 1), .c (i 5), .c (i 0), .c bf, .c (y 1), .c m3, .c m4, .c m5, .c m6], .c (.c (i 0)), .c (.c (i 0))]
theorem g229 : vcall (VN tb5) rounds 6 30 p229 = some r229 := by kernel_rfl
theorem s229 : Spec Go.Proofs.Tryz.prog 30 p229 r229 := fact tk5 g229
def p245 : List PA := [.a [(y 1), e, (l [[(i 0)]]), bf, e, (y 1), (i 5), (i 0), bf, (y 1), m3, m4, m5, m6], .a [(i 3), (i (-1))]]
def r245 : List RA := [.a [.c (y 1), .c e, .c (l [[(i 0)]]), .c bf, .c e, .c (y 1), .c (i 5), .c (i 0), .c bf, .c (y 1), .c m3, .c m4, .c m5, .c m6], .c (.c bf)]
theorem g245 : vcall (VN tb5) rounds 6 77 p245 = some r245 := by kernel_rfl
theorem s245 : Spec Go.Proofs.Tryz.prog 77 p245 r245 := fact tk5 g245
def p248 : List PA := [.a [(y 1), e, (l [[(i 0)]]), bf, e, (y 1), (i 5), (i 0), bf, (y 1), m3, m4, m5, m6], .a [(i 2), (i (-1))]]
def r248 : List RA := [.a [.c (y 1), .c e, .c (l [[(i 0)]]), .c bf, .c e, .c (y 1), .c (i 5), .c (i 0), .c bf, .c (y 1), .c m3, .c m4, .c m5, .c m6], .c (.c bf)]
theorem g248 : vcall (VN tb5) rounds 6 77 p248 = some r248 := by kernel_rfl
theorem s248 : Spec Go.Proofs.Tryz.prog 77 p248 r248 := fact tk5 g248
def p250 : List PA := [.a [(y 1), e, (l [[(i 0)]]), bf, e, (y 1), (i 5), (i 0), bf, (y 1), m3, m4, m5, m6], .a [(i 1), (i (-1))]]
def r250 : List RA := [.a [.c (y 1), .c e, .c (l [[(i 0)]]), .c bf, .c e, .c (y 1), .c (i 5), .c (i 0), .c bf, .c (y 1), .c m3, .c m4, .c m5, .c m6], .c (.c bf)]
theorem g250 : vcall (VN tb5) rounds 6 77 p250 = some r250 := by kernel_rfl
theorem s250 : Spec Go.Proofs.Tryz.prog 77 p250 r250 := fact tk5 g250
def p262 : List PA := [.a [(y 1), e, (l [[(i 0)]]), bf, e, (y 1), (i 5), (i 0), bf, (y 1), m3, m4, m10, m11], .a [(i 3), (i (-1))]]
def r262 : List RA := [.a [.c (y 1), .c e, .c (l [[(i 0)]]), .c bf, .c e, .c (y 1), .c (i 5), .c (i 0), .c bf, .c (y 1), .c m3, .c m4, .c m10, .c m11], .c (.c bf)]
theorem g262 : vcall (VN tb5) rounds 6 77 p262 = some r262 := by kernel_rfl
theorem s262 : Spec Go.Proofs.Tryz.prog 77 p262 r262 := fact tk5 g262
def p264 : List PA := [.a [(y 1), e, (l [[(i 0)]]), bf, e, (y 1), (i 5), (i 0), bf, (y 1), m3, m4, m10, m11], .a [(i 2), (i (-1))]]
def r264 : List RA := [.a [.c (y 1), .c e, .c (l [[(i 0)]]), .c bf, .c e, .c (y 1), .c (i 5), .c (i 0), .c bf, .c (y 1), .c m3, .c m4, .c m10, .c m11], .c (.c bf)]
theorem g264 : vcall (VN tb5) rounds 6 77 p264 = some r264 := by kernel_rfl
theorem s264 : Spec Go.Proofs.Tryz.prog 77 p264 r264 := fact tk5 g264
def p272 : List PA := [.a [(y 1), e, (l [[(i 0)]]), bf, e, (y 1), (i 5), (i 0), bf, (y 1), m3, m4, m10, m14], .a [(i 0), (i (-1))]]
def r272 : List RA := [.a [.c (y 1), .c e, .c (l [[(i 0)]]), .c bf, .c e, .c (y 1), .c (i 5), .c (i 0), .c bf, .c (y 1), .c m3, .c m4, .c m10, .c m14], .c (.c bf)]
theorem g272 : vcall (VN tb5) rounds 6 77 p272 = some r272 := by kernel_rfl
theorem s272 : Spec Go.Proofs.Tryz.prog 77 p272 r272 := fact tk5 g272
def p278 : List PA := [.a [(y 1), e, (l [[(i 0)]]), bf, e, (y 1), (i 5), (i 0), bf, (y 1), m3, m4, m10, m14], .a [(i 3), (i (-1))]]
def r278 : List RA := [.a [.c (y 1), .c e, .c (l [[(i 0)]]), .c bf, .c e, .c (y 1), .c (i 5), .c (i 0), .c bf, .c (y 1), .c m3, .c m4, .c m10, .c m14], .c (.c bf)]
theorem g278 : vcall (VN tb5) rounds 6 77 p278 = some r278 := by kernel_rfl
theorem s278 : Spec Go.Proofs.Tryz.prog 77 p278 r278 := fact tk5 g278
def tb6 : List (FuncId × List PA × List RA) := [(8, p66, r66), (29, p103, r103), (30, p104, r104), (31, p105, r105), (29, p107, r107), (30, p108, r108), (31, p109, r109), (29, p111, r111), (30, p112, r112), (31, p113, r113), (29, p115, r115), (30, p116, r116), (31, p117, r117), (29, p119, r119), (30, p120, r120), (31, p121, r121), (29, p123, r123), (30, p124, r124), (31, p125, r125), (29, p127, r127), (30, p128, r128), (31, p129, r129), (30, p137, r137), (30, p138, r138), (77, p150, r150), (77, p157, r157), (77, p161, r161), (77, p165, r165), (77, p171, r171), (77, p180, r180), (77, p186, r186), (77, p189, r189), (77, p193, r193), (77, p198, r198), (77, p207, r207), (77, p212, r212), (77, p215, r215), (77, p218, r218), (77, p221, r221), (30, p229, r229), (77, p245, r245), (77, p248, r248), (77, p250, r250), (77, p262, r262), (77, p264, r264), (77, p272, r272), (77, p278, r278)] ++ tb5
theorem tk6 : TOK Go.Proofs.Tryz.prog tb6 := TOK.app (l := [(8, p66, r66), (29, p103, r103), (30, p104, r104), (31, p105, r105), (29, p107, r107), (30, p108, r108), (31, p109, r109), (29, p111, r111), (30, p112, r112), (31, p113, r113), (29, p115, r115), (30, p116, r116), (31, p117, r117), (29, p119, r119), (30, p120, r120), (31, p121, r121), (29, p123, r123), (30, p124, r124), (31, p125, r125), (29, p127, r127), (30, p128, r128), (31, p129, r129), (30, p137, r137), (30, p138, r138), (77, p150, r150), (77, p157, r157), (77, p161, r161), (77, p165, r165), (77, p171, r171), (77, p180, r180), (77, p186, r186), (77, p189, r189), (77, p193, r193), (77, p198, r198), (77, p207, r207), (77, p212, r212), (77, p215, r215), (77, p218, r218), (77, p221, r221), (30, p229, r229), (77, p245, r245), (77, p248, r248), (77, p250, r250), (77, p262, r262), (77, p264, r264), (77, p272, r272), (77, p278, r278)]) ⟨s66, s103, s104, s105, s107, s108, s109, s111, s112, s113, s115, s116, s117, s119, s120, s121, s123, s124, s125, s127, s128, s129, s137, s138, s150, s157, s161, s165, s171, s180, s186, s189, s193, s198, s207, s212, s215, s218, s221, s229, s245, s248, s250, s262, s264, s272, s278, trivial⟩ tk5
def p76 : List PA := [.c (s [115, 101, 108, 101, 99, 116, 32, 99, 111, 117, 110, 116, 40, 42, 41, 32, 102, 114, 111, 109, 32, 97, 32, 119, 105, 110, 100, 111, 119, 32, 116, 117, 109, 98, 108, 101, 32, 53]), .c m2, .c (i 1), .c (i 1)]
def r76 : List RA := [.a [.c (y 1), .c e, .c (l [[(i 0)]]), .c bf, .c e, .c (y 1), .c (i 5), .c (i 0), .c bf, .c (y 1), .c m3, .c m4, .c m5, .c m6], .c (.c (i 38)), .c (.c (i 0))]
theorem g76 : vcall (VN tb6) rounds 6 13 p76 = some r76 := by kernel_rfl
theorem s76 : Spec Go.Proofs.Tryz.prog 13 p76 r76 := fact tk6 g76
def m22 : PV := l [[(i 0), (i (-1))], [(i 1), (i (-1))], [(i 2), (i (-1))], [(i 3), (i (-1))], [(i 0), (i (-1))], [(i 1), (i (-1))], [(i 2), (i (-1))], [(i 3), (i (-1))], [(i 0), (i (-1))], [(i 1), (i (-1))], [(i 2), (i (-1))], [(i 3), (i (-1))], [(i 0), (i (-1))], [(i 1), (i (-1))], [(i 2), (i (-1))], [(i 3), (i (-1))], [(i 0), (i (-1))], [(i 1), (i (-1))], [(i 2), (i (-1))], [(i 3), (i (-1))], [(i 0), (i (-1))], [(i 1), (i (-1))], [(i 2), (i (-1))], [(i 3), (i (-1))], [(i 0), (i (-1))], [(i 1), (i (-1))], [(i 2), (i (-1))], [(i 3), (i (-1))], [(i 0), (i (-1))], [(i 1), (i (-1))], [(i 2), (i (-1))], [(i 3), (i (-1))], [(i 0), (i (-1))], [(i 1), (i (-1))], [(i 2), (i (-1))], [(i 3), (i (-1))], [(i 0), (i (-1))], [(i 1), (i (-1))], [(i 2), (i (-1))], [(i 3), (i (-1))], [(i 0), (i (-1))], [(i 1), (i (-1))], [(i 2), (i (-1))], [(i 3), (i (-1))], [(i 0), (i (-1))], [(i 1), (i (-1))], [(i 2), (i (-1))], [(i 3), (i (-1))], [(i 0), (i (-1))], [(i 1), (i (-1))], [(i 2), (i (-1))], [(i 3), (i (-1))], [(i 0), (i (-1))], [(i 1), (i (-1))], [(i 2), (i (-1))], [(i 3), (i (-1))], [(i 0), (i (-1))], [(i 1), (i (-1))], [(i 2), (i (-1))], [(i 3), (i (-1))]]
def p223 : List PA := [.a [(y 1), e, (l [[(i 0)]]), bf, e, (y 1), (i 5), (i 0), bf, (y 1), m3, m4, m5, m6], .c m22]
def r223 : List RA := [.a [.c (y 1), .c e, .c (l [[(i 0)]]), .c bf, .c e, .c (y 1), .c (i 5), .c (i 0), .c bf, .c (y 1), .c m3, .c m4, .c m16, .c m6], .c (.c (i 5)), .c (.c (i 0))]
theorem g223 : vcall (VN tb6) rounds 6 22 p223 = some r223 := by kernel_rfl
theorem s223 : Spec Go.Proofs.Tryz.prog 22 p223 r223 := fact tk6 g223
def p226 : List PA := [.a [(y 1), e, (l [[(i 0)]]), bf, e, (y 1), (i 5), (i 0), bf, (y 1), m3, m4, m16, m6], .c m22]
def r226 : List RA := [.a [.c (y 1), .c e, .c (l [[(i 0)]]), .c bf, .c e, .c (y 1), .c (i 5), .c (i 0), .c bf, .c (y 1), .c m3, .c m4, .c m16, .c m6], .c (.c (i 0)), .c (.c (i 0))]
theorem g226 : vcall (VN tb6) rounds 6 22 p226 = some r226 := by kernel_rfl
theorem s226 : Spec Go.Proofs.Tryz.prog 22 p226 r226 := fact tk6 g226
end Tn.Fa
