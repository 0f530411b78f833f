import Derived.Test.YtcignakdmepfmaaGreatDoorBo4
/- Closed facts of one run, each by the kernel. -/
set_option linter.unusedVariables false
namespace Tn.Bo
open Go Go.Abs Tn
def p75 : List PA := [.c m21, .c (i 3)]
def r75 : List RA := [.c (.c m2), .c (.c (i 4)), .c (.c (i 0))]
theorem g75 : vcall (VN tb3) rounds 6 174 p75 = some r75 := by kernel_rfl
theorem s75 : Spec Go.Proofs.Tryz.prog 174 p75 r75 := fact tk3 g75
def p84 : List PA := [.c (s [49, 48])]
def r84 : List RA := [.c (.c (i 10)), .c (.c (i 0))]
theorem g84 : vcall (VN tb3) rounds 6 172 p84 = some r84 := by kernel_rfl
theorem s84 : Spec Go.Proofs.Tryz.prog 172 p84 r84 := fact tk3 g84
def p86 : List PA := [.c (s [52])]
def r86 : List RA := [.c (.c (i 4)), .c (.c (i 0))]
theorem g86 : vcall (VN tb3) rounds 6 172 p86 = some r86 := by kernel_rfl
theorem s86 : Spec Go.Proofs.Tryz.prog 172 p86 r86 := fact tk3 g86
def m22 : PV := l [[(y 2), (s [115, 101, 108, 101, 99, 116]), (i 0)], [(y 2), (s [115, 117, 109]), (i 7)], [(y 3), (s [40]), (i 10)], [(y 2), (s [118]), (i 11)], [(y 3), (s [41]), (i 12)], [(y 2), (s [102, 114, 111, 109]), (i 14)], [(y 2), (s [97]), (i 19)], [(y 2), (s [119, 105, 110, 100, 111, 119]), (i 21)], [(y 2), (s [115, 108, 105, 100, 101]), (i 28)], [(y 1), (s [49, 48]), (i 34)], [(y 2), (s [101, 118, 101, 114, 121]), (i 37)], [(y 1), (s [52]), (i 43)]]
def p121 : List PA := [.c (s [115, 101, 108, 101, 99, 116, 32, 115, 117, 109, 40, 118, 41, 32, 102, 114, 111, 109, 32, 97, 32, 119, 105, 110, 100, 111, 119, 32, 115, 108, 105, 100, 101, 32, 49, 48, 32, 101, 118, 101, 114, 121, 32, 52])]
def r121 : List RA := [.c (.c m22), .c (.c (i 44)), .c (.c (i 0))]
theorem g121 : vcall (VN tb3) rounds 6 86 p121 = some r121 := by kernel_rfl
theorem s121 : Spec Go.Proofs.Tryz.prog 86 p121 r121 := fact tk3 g121
def p122 : List PA := [.c m22, .c (i 3)]
def r122 : List RA := [.c (.c m2), .c (.c (i 4)), .c (.c (i 0))]
theorem g122 : vcall (VN tb3) rounds 6 174 p122 = some r122 := by kernel_rfl
theorem s122 : Spec Go.Proofs.Tryz.prog 174 p122 r122 := fact tk3 g122
def p133 : List PA := [.a [(y 0), e, e, bf, e, (y 0), (i 0), (i 0), bf, (y 0), e, e, e, e]]
def r133 : List RA := [.c (.c (i 0)), .c (.c (i 8))]
theorem g133 : vcall (VN tb3) rounds 6 37 p133 = some r133 := by kernel_rfl
theorem s133 : Spec Go.Proofs.Tryz.prog 37 p133 r133 := fact tk3 g133
def p141 : List PA := [.a [m6, m7]]
def r141 : List RA := [.c (.c (i 0))]
theorem g141 : vcall (VN tb3) rounds 6 102 p141 = some r141 := by kernel_rfl
theorem s141 : Spec Go.Proofs.Tryz.prog 102 p141 r141 := fact tk3 g141
def p227 : List PA := [.c (s [115, 101, 108, 101, 99, 116, 32, 99, 111, 117, 110, 116, 40, 42, 41, 32, 102, 114, 111, 109, 32, 97, 32, 119, 105, 110, 100, 111, 119, 32, 116, 117, 109, 98, 108, 101, 32, 53])]
def r227 : List RA := [.c (.c (l [[(y 2), (s [115, 101, 108, 101, 99, 116]), (i 0)], [(y 2), (s [99, 111, 117, 110, 116]), (i 7)], [(y 3), (s [40]), (i 12)], [(y 3), (s [42]), (i 13)], [(y 3), (s [41]), (i 14)], [(y 2), (s [102, 114, 111, 109]), (i 16)], [(y 2), (s [97]), (i 21)], [(y 2), (s [119, 105, 110, 100, 111, 119]), (i 23)], [(y 2), (s [116, 117, 109, 98, 108, 101]), (i 30)], [(y 1), (s [53]), (i 37)]])), .c (.c (i 38)), .c (.c (i 0))]
theorem g227 : vcall (VN tb3) rounds 6 86 p227 = some r227 := by kernel_rfl
theorem s227 : Spec Go.Proofs.Tryz.prog 86 p227 r227 := fact tk3 g227
def p231 : List PA := [.c (s [53])]
def r231 : List RA := [.c (.c (i 5)), .c (.c (i 0))]
theorem g231 : vcall (VN tb3) rounds 6 172 p231 = some r231 := by kernel_rfl
theorem s231 : Spec Go.Proofs.Tryz.prog 172 p231 r231 := fact tk3 g231
def p256 : List PA := [.a [(y 1), e, (l [[(i 0)]]), bf, e, (y 1), (i 5), (i 0), bf, (y 1), m17, m18, m19, m20]]
def r256 : List RA := [.c (.c (i 0))]
theorem g256 : vcall (VN tb3) rounds 6 58 p256 = some r256 := by kernel_rfl
theorem s256 : Spec Go.Proofs.Tryz.prog 58 p256 r256 := fact tk3 g256
def tb4 : List (FuncId × List PA × List RA) := [(86, p69, r69), (174, p75, r75), (172, p84, r84), (172, p86, r86), (86, p121, r121), (174, p122, r122), (37, p133, r133), (102, p141, r141), (86, p227, r227), (172, p231, r231), (58, p256, r256)] ++ tb3
theorem tk4 : TOK Go.Proofs.Tryz.prog tb4 := TOK.app (l := [(86, p69, r69), (174, p75, r75), (172, p84, r84), (172, p86, r86), (86, p121, r121), (174, p122, r122), (37, p133, r133), (102, p141, r141), (86, p227, r227), (172, p231, r231), (58, p256, r256)]) ⟨s69, s75, s84, s86, s121, s122, s133, s141, s227, s231, s256, trivial⟩ tk3
def p91 : List PA := [.c (s [115, 101, 108, 101, 99, 116, 32, 115, 117, 109, 40, 118, 41, 32, 102, 114, 111, 109, 32, 97, 32, 119, 105, 110, 100, 111, 119, 32, 115, 108, 105, 100, 101, 32, 49, 48, 32, 101, 118, 101, 114, 121, 32, 52, 32, 98, 121, 32, 107, 101, 121, 32, 108, 97, 116, 101, 32, 115, 105, 100, 101])]
def r91 : List RA := [.a [.c (y 2), .c m2, .c (l [[(i 0)]]), .c bf, .c e, .c (y 2), .c (i 10), .c (i 4), .c bt, .c (y 2)], .c (.c (i 61)), .c (.c (i 0))]
theorem g91 : vcall (VN tb4) rounds 6 40 p91 = some r91 := by kernel_rfl
theorem s91 : Spec Go.Proofs.Tryz.prog 40 p91 r91 := fact tk4 g91
def p123 : List PA := [.c (s [115, 101, 108, 101, 99, 116, 32, 115, 117, 109, 40, 118, 41, 32, 102, 114, 111, 109, 32, 97, 32, 119, 105, 110, 100, 111, 119, 32, 115, 108, 105, 100, 101, 32, 49, 48, 32, 101, 118, 101, 114, 121, 32, 52])]
def r123 : List RA := [.a [.c (y 2), .c m2, .c (l [[(i 0)]]), .c bf, .c e, .c (y 2), .c (i 10), .c (i 4), .c bf, .c (y 1)], .c (.c (i 44)), .c (.c (i 0))]
theorem g123 : vcall (VN tb4) rounds 6 40 p123 = some r123 := by kernel_rfl
theorem s123 : Spec Go.Proofs.Tryz.prog 40 p123 r123 := fact tk4 g123
def p172 : List PA := [.a [(y 2), m2, (l [[(i 0)]]), bf, e, (y 2), (i 10), (i 4), bt, (y 2), m6, m7, m8, m9]]
def r172 : List RA := [.c (.c (i 0))]
theorem g172 : vcall (VN tb4) rounds 6 58 p172 = some r172 := by kernel_rfl
theorem s172 : Spec Go.Proofs.Tryz.prog 58 p172 r172 := fact tk4 g172
def p189 : List PA := [.a [(y 2), m2, (l [[(i 0)]]), bf, e, (y 2), (i 10), (i 4), bt, (y 2), m6, m7, m12, m9]]
def r189 : List RA := [.c (.c (i 0))]
theorem g189 : vcall (VN tb4) rounds 6 58 p189 = some r189 := by kernel_rfl
theorem s189 : Spec Go.Proofs.Tryz.prog 58 p189 r189 := fact tk4 g189
def p201 : List PA := [.a [(y 2), m2, (l [[(i 0)]]), bf, e, (y 2), (i 10), (i 4), bt, (y 2), m6, m7, m13, m15]]
def r201 : List RA := [.c (.c (i 0))]
theorem g201 : vcall (VN tb4) rounds 6 58 p201 = some r201 := by kernel_rfl
theorem s201 : Spec Go.Proofs.Tryz.prog 58 p201 r201 := fact tk4 g201
def p232 : List PA := [.c (s [115, 101, 108, 101, 99, 116, 32, 99, 111, 117, 110, 116, 40, 42, 41, 32, 102, 114, 111, 109, 32, 97, 32, 119, 105, 110, 100, 111, 119, 32, 116, 117, 109, 98, 108, 101, 32, 53])]
def r232 : List RA := [.a [.c (y 1), .c e, .c (l [[(i 0)]]), .c bf, .c e, .c (y 1), .c (i 5), .c (i 0), .c bf, .c (y 1)], .c (.c (i 38)), .c (.c (i 0))]
theorem g232 : vcall (VN tb4) rounds 6 40 p232 = some r232 := by kernel_rfl
theorem s232 : Spec Go.Proofs.Tryz.prog 40 p232 r232 := fact tk4 g232
def p257 : List PA := [.a [(y 1), e, (l [[(i 0)]]), bf, e, (y 1), (i 5), (i 0), bf, (y 1), m17, m18, m19, m20]]
def r257 : List RA := [.c (.c (l [[(i 5)], [(i 3)], [(i 1)]])), .c (.c (l [[(i 3)], [(i 1)], [(i 1)]])), .c (.c (i 0))]
theorem g257 : vcall (VN tb4) rounds 6 36 p257 = some r257 := by kernel_rfl
theorem s257 : Spec Go.Proofs.Tryz.prog 36 p257 r257 := fact tk4 g257
end Tn.Bo
