import Derived.Test.YtcignakdmepfmaaGreatDoorRRu4
/- Closed facts of one run, each by the kernel. -/
set_option linter.unusedVariables false
namespace Tn.Ru
open Go Go.Abs Tn
def p251 : List PA := [.a [(y 1), e, (l [[(i 0)]]), bf, e, (y 1), (i 5), (i 0), bf, (y 1), m3, m4, m6, m7], .a [(i 1), (i 0)]]
def r251 : List RA := [.a [.c (y 1), .c e, .c (l [[(i 0)]]), .c bf, .c e, .c (y 1), .c (i 5), .c (i 0), .c bf, .c (y 1), .c m3, .c m4, .c m6, .c m7], .c (.c bf), .c (.c (i 0))]
theorem g251 : vcall (VN tb6) rounds 6 23 p251 = some r251 := by kernel_rfl
theorem s251 : Spec Go.Proofs.Tryz.prog 23 p251 r251 := fact tk6 g251
def p254 : List PA := [.a [(y 1), e, (l [[(i 0)]]), bf, e, (y 1), (i 5), (i 0), bf, (y 1), m3, m4, m6, m7], .c (l [[(i 0), (i (-1))], [(i 0), (i (-1))]])]
def r254 : List RA := [.a [.c (y 1), .c e, .c (l [[(i 0)]]), .c bf, .c e, .c (y 1), .c (i 5), .c (i 0), .c bf, .c (y 1), .c m3, .c m4, .c m12, .c m13], .c (.c (i 2)), .c (.c (i 0))]
theorem g254 : vcall (VN tb6) rounds 6 22 p254 = some r254 := by kernel_rfl
theorem s254 : Spec Go.Proofs.Tryz.prog 22 p254 r254 := fact tk6 g254
def p259 : List PA := [.a [(y 1), e, (l [[(i 0)]]), bf, e, (y 1), (i 5), (i 0), bf, (y 1), m3, m4, m12, m13], .a [(i 1), (i 0)]]
def r259 : List RA := [.a [.c (y 1), .c e, .c (l [[(i 0)]]), .c bf, .c e, .c (y 1), .c (i 5), .c (i 0), .c bf, .c (y 1), .c m3, .c m4, .c m15, .c m7], .c (.c bt), .c (.c (i 0))]
theorem g259 : vcall (VN tb6) rounds 6 23 p259 = some r259 := by kernel_rfl
theorem s259 : Spec Go.Proofs.Tryz.prog 23 p259 r259 := fact tk6 g259
def p270 : List PA := [.c (s [115, 101, 108, 101, 99, 116, 32, 99, 111, 117, 110, 116, 40, 42, 41, 32, 102, 114, 111, 109, 32, 97, 32, 119, 105, 110, 100, 111, 119, 32, 116, 117, 109, 98, 108, 101, 32, 53]), .c m39, .c (i 1), .c (i 1)]
def r270 : List RA := [.a [.c (y 1), .c e, .c (l [[(i 0)]]), .c bf, .c e, .c (y 1), .c (i 5), .c (i 0), .c bf, .c (y 1), .c m3, .c m4, .c m41, .c m7], .c (.c (i 38)), .c (.c (i 0))]
theorem g270 : vcall (VN tb6) rounds 6 13 p270 = some r270 := by kernel_rfl
theorem s270 : Spec Go.Proofs.Tryz.prog 13 p270 r270 := fact tk6 g270
def p299 : List PA := [.a [(y 1), e, (l [[(i 0)]]), bf, e, (y 1), (i 5), (i 0), bf, (y 1), m3, m4, m41, m7], .c m40]
def r299 : List RA := [.a [.c (y 1), .c e, .c (l [[(i 0)]]), .c bf, .c e, .c (y 1), .c (i 5), .c (i 0), .c bf, .c (y 1), .c m3, .c m4, .c m20, .c m13], .c (.c (i 2)), .c (.c (i 0))]
theorem g299 : vcall (VN tb6) rounds 6 22 p299 = some r299 := by kernel_rfl
theorem s299 : Spec Go.Proofs.Tryz.prog 22 p299 r299 := fact tk6 g299
def tb7 : List (FuncId × List PA × List RA) := [(13, p76, r76), (22, p244, r244), (23, p251, r251), (22, p254, r254), (23, p259, r259), (13, p270, r270), (22, p299, r299)] ++ tb6
theorem tk7 : TOK Go.Proofs.Tryz.prog tb7 := TOK.app (l := [(13, p76, r76), (22, p244, r244), (23, p251, r251), (22, p254, r254), (23, p259, r259), (13, p270, r270), (22, p299, r299)]) ⟨s76, s244, s251, s254, s259, s270, s299, trivial⟩ tk6
def p300 : List PA := []
def r300 : List RA := [.c (.c bt)]
theorem g300 : vcall (VN tb7) rounds 6 27 p300 = some r300 := by kernel_rfl
theorem s300 : Spec Go.Proofs.Tryz.prog 27 p300 r300 := fact tk7 g300
def tb8 : List (FuncId × List PA × List RA) := [(27, p300, r300)] ++ tb7
theorem tk8 : TOK Go.Proofs.Tryz.prog tb8 := TOK.app (l := [(27, p300, r300)]) ⟨s300, trivial⟩ tk7
def p301 : List PA := []
def r301 : List RA := [.c (.c bt)]
theorem g301 : vcall (VN tb8) rounds 6 5 p301 = some r301 := by kernel_rfl
theorem s301 : Spec Go.Proofs.Tryz.prog 5 p301 r301 := fact tk8 g301
theorem law : Spec Go.Proofs.Tryz.prog 5 [] [.c (.c (.bool true))] := s301
end Tn.Ru
