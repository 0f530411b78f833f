import Derived.Test.YtcignakdmepfmaaGreatDoorBo5
/- Closed facts of one run, each by the kernel. -/
set_option linter.unusedVariables false
namespace Tn.Bo
open Go Go.Abs Tn
def tb5 : List (FuncId × List PA × List RA) := [(40, p91, r91), (40, p123, r123), (58, p172, r172), (58, p189, r189), (58, p201, r201), (40, p232, r232), (36, p257, r257)] ++ tb4
theorem tk5 : TOK Go.Proofs.Tryz.prog tb5 := TOK.app (l := [(40, p91, r91), (40, p123, r123), (58, p172, r172), (58, p189, r189), (58, p201, r201), (40, p232, r232), (36, p257, r257)]) ⟨s91, s123, s172, s189, s201, s232, s257, trivial⟩ tk4
def p93 : List PA := [.c (s [115, 101, 108, 101, 99, 116, 32, 115, 117, 109, 40, 118, 41, 32, 102, 114, 111, 109, 32, 97, 32, 119, 105, 110, 100, 111, 119, 32, 115, 108, 105, 100, 101, 32, 49, 48, 32, 101, 118, 101, 114, 121, 32, 52, 32, 98, 121, 32, 107, 101, 121, 32, 108, 97, 116, 101, 32, 115, 105, 100, 101])]
def r93 : List RA := [.a [.c (y 2), .c m2, .c (l [[(i 0)]]), .c bf, .c e, .c (y 2), .c (i 10), .c (i 4), .c bt, .c (y 2)], .c (.c (i 61)), .c (.c (i 0))]
theorem g93 : vcall (VN tb5) rounds 6 8 p93 = some r93 := by kernel_rfl
theorem s93 : Spec Go.Proofs.Tryz.prog 8 p93 r93 := fact tk5 g93
def p125 : List PA := [.c (s [115, 101, 108, 101, 99, 116, 32, 115, 117, 109, 40, 118, 41, 32, 102, 114, 111, 109, 32, 97, 32, 119, 105, 110, 100, 111, 119, 32, 115, 108, 105, 100, 101, 32, 49, 48, 32, 101, 118, 101, 114, 121, 32, 52])]
def r125 : List RA := [.a [.c (y 2), .c m2, .c (l [[(i 0)]]), .c bf, .c e, .c (y 2), .c (i 10), .c (i 4), .c bf, .c (y 1)], .c (.c (i 44)), .c (.c (i 0))]
theorem g125 : vcall (VN tb5) rounds 6 8 p125 = some r125 := by kernel_rfl
theorem s125 : Spec Go.Proofs.Tryz.prog 8 p125 r125 := fact tk5 g125
def m23 : PV := l [[(i 21)], [(i 17)], [(i 1)], [(i 7)], [(i 7)], [(i 1)], [(i 1)]]
def m24 : PV := l [[(i 9)], [(i 5)], [(i 1)], [(i 1)], [(i 1)], [(i 1)], [(i 1)]]
def p173 : List PA := [.a [(y 2), m2, (l [[(i 0)]]), bf, e, (y 2), (i 10), (i 4), bt, (y 2), m6, m7, m8, m9]]
def r173 : List RA := [.c (.c m23), .c (.c m24), .c (.c (i 0))]
theorem g173 : vcall (VN tb5) rounds 6 36 p173 = some r173 := by kernel_rfl
theorem s173 : Spec Go.Proofs.Tryz.prog 36 p173 r173 := fact tk5 g173
def p186 : List PA := [.a [(y 2), m2, (l [[(i 0)]]), bf, e, (y 2), (i 10), (i 4), bt, (y 2), m6, m7, m8, m9], .c (i 0)]
def r186 : List RA := [.a [.c (y 2), .c m2, .c (l [[(i 0)]]), .c bf, .c e, .c (y 2), .c (i 10), .c (i 4), .c bt, .c (y 2), .c m6, .c m7, .c m12, .c m9], .c (.c (i 0))]
theorem g186 : vcall (VN tb5) rounds 6 11 p186 = some r186 := by kernel_rfl
theorem s186 : Spec Go.Proofs.Tryz.prog 11 p186 r186 := fact tk5 g186
def p196 : List PA := [.a [(y 2), m2, (l [[(i 0)]]), bf, e, (y 2), (i 10), (i 4), bt, (y 2), m6, m7, m12, m9], .c (i 0)]
def r196 : List RA := [.a [.c (y 2), .c m2, .c (l [[(i 0)]]), .c bf, .c e, .c (y 2), .c (i 10), .c (i 4), .c bt, .c (y 2), .c m6, .c m7, .c m13, .c m15], .c (.c (i 0))]
theorem g196 : vcall (VN tb5) rounds 6 11 p196 = some r196 := by kernel_rfl
theorem s196 : Spec Go.Proofs.Tryz.prog 11 p196 r196 := fact tk5 g196
def p202 : List PA := [.a [(y 2), m2, (l [[(i 0)]]), bf, e, (y 2), (i 10), (i 4), bt, (y 2), m6, m7, m13, m15]]
def r202 : List RA := [.c (.c m23), .c (.c m24), .c (.c (i 0))]
theorem g202 : vcall (VN tb5) rounds 6 36 p202 = some r202 := by kernel_rfl
theorem s202 : Spec Go.Proofs.Tryz.prog 36 p202 r202 := fact tk5 g202
def p234 : List PA := [.c (s [115, 101, 108, 101, 99, 116, 32, 99, 111, 117, 110, 116, 40, 42, 41, 32, 102, 114, 111, 109, 32, 97, 32, 119, 105, 110, 100, 111, 119, 32, 116, 117, 109, 98, 108, 101, 32, 53])]
def r234 : List RA := [.a [.c (y 1), .c e, .c (l [[(i 0)]]), .c bf, .c e, .c (y 1), .c (i 5), .c (i 0), .c bf, .c (y 1)], .c (.c (i 38)), .c (.c (i 0))]
theorem g234 : vcall (VN tb5) rounds 6 8 p234 = some r234 := by kernel_rfl
theorem s234 : Spec Go.Proofs.Tryz.prog 8 p234 r234 := fact tk5 g234
def p258 : List PA := [.a [(y 1), e, (l [[(i 0)]]), bf, e, (y 1), (i 5), (i 0), bf, (y 1), m17, m18, m19, m20]]
def r258 : List RA := [.c (.c (i 0)), .c (.c (i 0))]
theorem g258 : vcall (VN tb5) rounds 6 37 p258 = some r258 := by kernel_rfl
theorem s258 : Spec Go.Proofs.Tryz.prog 37 p258 r258 := fact tk5 g258
def tb6 : List (FuncId × List PA × List RA) := [(8, p93, r93), (8, p125, r125), (36, p173, r173), (11, p186, r186), (11, p196, r196), (36, p202, r202), (8, p234, r234), (37, p258, r258)] ++ tb5
theorem tk6 : TOK Go.Proofs.Tryz.prog tb6 := TOK.app (l := [(8, p93, r93), (8, p125, r125), (36, p173, r173), (11, p186, r186), (11, p196, r196), (36, p202, r202), (8, p234, r234), (37, p258, r258)]) ⟨s93, s125, s173, s186, s196, s202, s234, s258, trivial⟩ tk5
def p106 : List PA := [.c (s [115, 101, 108, 101, 99, 116, 32, 115, 117, 109, 40, 118, 41, 32, 102, 114, 111, 109, 32, 97, 32, 119, 105, 110, 100, 111, 119, 32, 115, 108, 105, 100, 101, 32, 49, 48, 32, 101, 118, 101, 114, 121, 32, 52, 32, 98, 121, 32, 107, 101, 121, 32, 108, 97, 116, 101, 32, 115, 105, 100, 101]), .c m5, .c (i 2), .c (i 1)]
def r106 : List RA := [.a [.c (y 2), .c m2, .c (l [[(i 0)]]), .c bf, .c e, .c (y 2), .c (i 10), .c (i 4), .c bt, .c (y 2), .c m6, .c m7, .c m8, .c m9], .c (.c (i 61)), .c (.c (i 0))]
theorem g106 : vcall (VN tb6) rounds 6 13 p106 = some r106 := by kernel_rfl
theorem s106 : Spec Go.Proofs.Tryz.prog 13 p106 r106 := fact tk6 g106
def p174 : List PA := [.a [(y 2), m2, (l [[(i 0)]]), bf, e, (y 2), (i 10), (i 4), bt, (y 2), m6, m7, m8, m9]]
def r174 : List RA := [.c (.c (i 34)), .c (.c (i 0))]
theorem g174 : vcall (VN tb6) rounds 6 37 p174 = some r174 := by kernel_rfl
theorem s174 : Spec Go.Proofs.Tryz.prog 37 p174 r174 := fact tk6 g174
def p187 : List PA := [.a [(y 2), m2, (l [[(i 0)]]), bf, e, (y 2), (i 10), (i 4), bt, (y 2), m6, m7, m8, m9], .a [(i 0), (i (-1))]]
def r187 : List RA := [.a [.c (y 2), .c m2, .c (l [[(i 0)]]), .c bf, .c e, .c (y 2), .c (i 10), .c (i 4), .c bt, .c (y 2), .c m6, .c m7, .c m12, .c m9], .c (.c bt)]
theorem g187 : vcall (VN tb6) rounds 6 77 p187 = some r187 := by kernel_rfl
theorem s187 : Spec Go.Proofs.Tryz.prog 77 p187 r187 := fact tk6 g187
def p197 : List PA := [.a [(y 2), m2, (l [[(i 0)]]), bf, e, (y 2), (i 10), (i 4), bt, (y 2), m6, m7, m12, m9], .a [(i 0), (i (-1))]]
def r197 : List RA := [.a [.c (y 2), .c m2, .c (l [[(i 0)]]), .c bf, .c e, .c (y 2), .c (i 10), .c (i 4), .c bt, .c (y 2), .c m6, .c m7, .c m13, .c m15], .c (.c bt)]
theorem g197 : vcall (VN tb6) rounds 6 77 p197 = some r197 := by kernel_rfl
theorem s197 : Spec Go.Proofs.Tryz.prog 77 p197 r197 := fact tk6 g197
def p203 : List PA := [.a [(y 2), m2, (l [[(i 0)]]), bf, e, (y 2), (i 10), (i 4), bt, (y 2), m6, m7, m13, m15]]
def r203 : List RA := [.c (.c (i 32)), .c (.c (i 0))]
theorem g203 : vcall (VN tb6) rounds 6 37 p203 = some r203 := by kernel_rfl
theorem s203 : Spec Go.Proofs.Tryz.prog 37 p203 r203 := fact tk6 g203
def p242 : List PA := [.c (s [115, 101, 108, 101, 99, 116, 32, 99, 111, 117, 110, 116, 40, 42, 41, 32, 102, 114, 111, 109, 32, 97, 32, 119, 105, 110, 100, 111, 119, 32, 116, 117, 109, 98, 108, 101, 32, 53]), .c (l [[e]]), .c (i 2), .c (i 1)]
def r242 : List RA := [.a [.c (y 1), .c e, .c (l [[(i 0)]]), .c bf, .c e, .c (y 1), .c (i 5), .c (i 0), .c bf, .c (y 1), .c m17, .c m18, .c m19, .c m20], .c (.c (i 38)), .c (.c (i 0))]
theorem g242 : vcall (VN tb6) rounds 6 13 p242 = some r242 := by kernel_rfl
theorem s242 : Spec Go.Proofs.Tryz.prog 13 p242 r242 := fact tk6 g242
def tb7 : List (FuncId × List PA × List RA) := [(13, p106, r106), (37, p174, r174), (77, p187, r187), (77, p197, r197), (37, p203, r203), (13, p242, r242)] ++ tb6
theorem tk7 : TOK Go.Proofs.Tryz.prog tb7 := TOK.app (l := [(13, p106, r106), (37, p174, r174), (77, p187, r187), (77, p197, r197), (37, p203, r203), (13, p242, r242)]) ⟨s106, s174, s187, s197, s203, s242, trivial⟩ tk6
def p199 : List PA := [.a [(y 2), m2, (l [[(i 0)]]), bf, e, (y 2), (i 10), (i 4), bt, (y 2), m6, m7, m8, m9], .c (l [[(i 0), (i (-1))], [(i 0), (i (-1))]])]
def r199 : List RA := [.a [.c (y 2), .c m2, .c (l [[(i 0)]]), .c bf, .c e, .c (y 2), .c (i 10), .c (i 4), .c bt, .c (y 2), .c m6, .c m7, .c m13, .c m15], .c (.c (i 2)), .c (.c (i 0))]
theorem g199 : vcall (VN tb7) rounds 6 22 p199 = some r199 := by kernel_rfl
theorem s199 : Spec Go.Proofs.Tryz.prog 22 p199 r199 := fact tk7 g199
def tb8 : List (FuncId × List PA × List RA) := [(22, p199, r199)] ++ tb7
theorem tk8 : TOK Go.Proofs.Tryz.prog tb8 := TOK.app (l := [(22, p199, r199)]) ⟨s199, trivial⟩ tk7
def p259 : List PA := []
def r259 : List RA := [.c (.c bt)]
theorem g259 : vcall (VN tb8) rounds 6 7 p259 = some r259 := by kernel_rfl
theorem s259 : Spec Go.Proofs.Tryz.prog 7 p259 r259 := fact tk8 g259
theorem law : Spec Go.Proofs.Tryz.prog 7 [] [.c (.c (.bool true))] := s259
end Tn.Bo
