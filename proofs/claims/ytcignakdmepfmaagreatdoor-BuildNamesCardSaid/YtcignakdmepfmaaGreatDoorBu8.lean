import Derived.Test.YtcignakdmepfmaaGreatDoorBu7
/- Closed facts of one run, each by the kernel. -/
set_option linter.unusedVariables false
namespace Tn.Bu
open Go Go.Abs Tn
def p194 : List PA := [.a [(y 2), m1, (l [[(i 0)], [(i 1)]]), bt, e, (y 1), (i 5), (i 0), bt, (y 2), m5, m6, m11, m8]]
def r194 : List RA := [.c (.c (i 0))]
theorem g194 : vcall (VN tb4) rounds 6 58 p194 = some r194 := by kernel_rfl
theorem s194 : Spec Go.Proofs.Tryz.prog 58 p194 r194 := fact tk4 g194
def p219 : List PA := [.a [(y 2), m1, (l [[(i 0)], [(i 1)]]), bt, e, (y 1), (i 5), (i 0), bt, (y 2), m5, m6, m14, m15]]
def r219 : List RA := [.c (.c (i 0))]
theorem g219 : vcall (VN tb4) rounds 6 58 p219 = some r219 := by kernel_rfl
theorem s219 : Spec Go.Proofs.Tryz.prog 58 p219 r219 := fact tk4 g219
def p260 : List PA := [.c (s [115, 101, 108, 101, 99, 116, 32, 99, 111, 117, 110, 116, 40, 42, 41, 32, 102, 114, 111, 109, 32, 97, 32, 119, 105, 110, 100, 111, 119, 32, 116, 117, 109, 98, 108, 101, 32, 53])]
def r260 : List RA := [.a [.c (y 1), .c e, .c (l [[(i 0)]]), .c bf, .c e, .c (y 1), .c (i 5), .c (i 0), .c bf, .c (y 1)], .c (.c (i 38)), .c (.c (i 0))]
theorem g260 : vcall (VN tb4) rounds 6 40 p260 = some r260 := by kernel_rfl
theorem s260 : Spec Go.Proofs.Tryz.prog 40 p260 r260 := fact tk4 g260
def p281 : List PA := [.c (s [115, 101, 108, 101, 99, 116, 32, 99, 111, 117, 110, 116, 40, 42, 41, 32, 102, 114, 111, 109, 32, 97, 32, 102, 114, 111, 109])]
def r281 : List RA := [.a [.c (y 0), .c e, .c e, .c bf, .c e, .c (y 0), .c (i 0), .c (i 0), .c bf, .c (y 0)], .c (.c (i 23)), .c (.c (i 12))]
theorem g281 : vcall (VN tb4) rounds 6 40 p281 = some r281 := by kernel_rfl
theorem s281 : Spec Go.Proofs.Tryz.prog 40 p281 r281 := fact tk4 g281
def tb5 : List (FuncId × List PA × List RA) := [(40, p84, r84), (58, p155, r155), (58, p194, r194), (58, p219, r219), (40, p260, r260), (40, p281, r281)] ++ tb4
theorem tk5 : TOK Go.Proofs.Tryz.prog tb5 := TOK.app (l := [(40, p84, r84), (58, p155, r155), (58, p194, r194), (58, p219, r219), (40, p260, r260), (40, p281, r281)]) ⟨s84, s155, s194, s219, s260, s281, trivial⟩ tk4
def p86 : List PA := [.c (s [115, 101, 108, 101, 99, 116, 32, 115, 117, 109, 40, 118, 41, 32, 102, 114, 111, 109, 32, 97, 32, 106, 111, 105, 110, 32, 98, 32, 119, 105, 110, 100, 111, 119, 32, 116, 117, 109, 98, 108, 101, 32, 53, 32, 98, 121, 32, 107, 101, 121, 32, 108, 97, 116, 101, 32, 115, 105, 100, 101])]
def r86 : List RA := [.a [.c (y 2), .c m1, .c (l [[(i 0)], [(i 1)]]), .c bt, .c e, .c (y 1), .c (i 5), .c (i 0), .c bt, .c (y 2)], .c (.c (i 60)), .c (.c (i 0))]
theorem g86 : vcall (VN tb5) rounds 6 8 p86 = some r86 := by kernel_rfl
theorem s86 : Spec Go.Proofs.Tryz.prog 8 p86 r86 := fact tk5 g86
def p177 : List PA := [.a [(y 2), m1, (l [[(i 0)], [(i 1)]]), bt, e, (y 1), (i 5), (i 0), bt, (y 2), m5, m6, m7, m8]]
def r177 : List RA := [.c (.c bt), .c (.c (i 0))]
theorem g177 : vcall (VN tb5) rounds 6 10 p177 = some r177 := by kernel_rfl
theorem s177 : Spec Go.Proofs.Tryz.prog 10 p177 r177 := fact tk5 g177
def p192 : List PA := [.a [(y 2), m1, (l [[(i 0)], [(i 1)]]), bt, e, (y 1), (i 5), (i 0), bt, (y 2), m5, m6, m7, m8], .c (i 0)]
def r192 : List RA := [.a [.c (y 2), .c m1, .c (l [[(i 0)], [(i 1)]]), .c bt, .c e, .c (y 1), .c (i 5), .c (i 0), .c bt, .c (y 2), .c m5, .c m6, .c m11, .c m8], .c (.c (i 0))]
theorem g192 : vcall (VN tb5) rounds 6 11 p192 = some r192 := by kernel_rfl
theorem s192 : Spec Go.Proofs.Tryz.prog 11 p192 r192 := fact tk5 g192
def p209 : List PA := [.a [(y 2), m1, (l [[(i 0)], [(i 1)]]), bt, e, (y 1), (i 5), (i 0), bt, (y 2), m5, m6, m11, m8]]
def r209 : List RA := [.c (.c bf), .c (.c (i 0))]
theorem g209 : vcall (VN tb5) rounds 6 10 p209 = some r209 := by kernel_rfl
theorem s209 : Spec Go.Proofs.Tryz.prog 10 p209 r209 := fact tk5 g209
def p210 : List PA := [.a [(y 2), m1, (l [[(i 0)], [(i 1)]]), bt, e, (y 1), (i 5), (i 0), bt, (y 2), m5, m6, m11, m8]]
def r210 : List RA := [.c (.c m12), .c (.c (i 0))]
theorem g210 : vcall (VN tb5) rounds 6 12 p210 = some r210 := by kernel_rfl
theorem s210 : Spec Go.Proofs.Tryz.prog 12 p210 r210 := fact tk5 g210
def p217 : List PA := [.a [(y 2), m1, (l [[(i 0)], [(i 1)]]), bt, e, (y 1), (i 5), (i 0), bt, (y 2), m5, m6, m11, m8], .c (i 0)]
def r217 : List RA := [.a [.c (y 2), .c m1, .c (l [[(i 0)], [(i 1)]]), .c bt, .c e, .c (y 1), .c (i 5), .c (i 0), .c bt, .c (y 2), .c m5, .c m6, .c m14, .c m15], .c (.c (i 0))]
theorem g217 : vcall (VN tb5) rounds 6 11 p217 = some r217 := by kernel_rfl
theorem s217 : Spec Go.Proofs.Tryz.prog 11 p217 r217 := fact tk5 g217
def p221 : List PA := [.a [(y 2), m1, (l [[(i 0)], [(i 1)]]), bt, e, (y 1), (i 5), (i 0), bt, (y 2), m5, m6, m14, m15]]
def r221 : List RA := [.c (.c bf), .c (.c (i 0))]
theorem g221 : vcall (VN tb5) rounds 6 10 p221 = some r221 := by kernel_rfl
theorem s221 : Spec Go.Proofs.Tryz.prog 10 p221 r221 := fact tk5 g221
def p262 : List PA := [.c (s [115, 101, 108, 101, 99, 116, 32, 99, 111, 117, 110, 116, 40, 42, 41, 32, 102, 114, 111, 109, 32, 97, 32, 119, 105, 110, 100, 111, 119, 32, 116, 117, 109, 98, 108, 101, 32, 53])]
def r262 : List RA := [.a [.c (y 1), .c e, .c (l [[(i 0)]]), .c bf, .c e, .c (y 1), .c (i 5), .c (i 0), .c bf, .c (y 1)], .c (.c (i 38)), .c (.c (i 0))]
theorem g262 : vcall (VN tb5) rounds 6 8 p262 = some r262 := by kernel_rfl
theorem s262 : Spec Go.Proofs.Tryz.prog 8 p262 r262 := fact tk5 g262
def p282 : List PA := [.c (s [115, 101, 108, 101, 99, 116, 32, 99, 111, 117, 110, 116, 40, 42, 41, 32, 102, 114, 111, 109, 32, 97, 32, 102, 114, 111, 109])]
def r282 : List RA := [.a [.c (y 0), .c e, .c e, .c bf, .c e, .c (y 0), .c (i 0), .c (i 0), .c bf, .c (y 0)], .c (.c (i 23)), .c (.c (i 12))]
theorem g282 : vcall (VN tb5) rounds 6 8 p282 = some r282 := by kernel_rfl
theorem s282 : Spec Go.Proofs.Tryz.prog 8 p282 r282 := fact tk5 g282
def tb6 : List (FuncId × List PA × List RA) := [(8, p86, r86), (10, p177, r177), (11, p192, r192), (10, p209, r209), (12, p210, r210), (11, p217, r217), (10, p221, r221), (8, p262, r262), (8, p282, r282)] ++ tb5
theorem tk6 : TOK Go.Proofs.Tryz.prog tb6 := TOK.app (l := [(8, p86, r86), (10, p177, r177), (11, p192, r192), (10, p209, r209), (12, p210, r210), (11, p217, r217), (10, p221, r221), (8, p262, r262), (8, p282, r282)]) ⟨s86, s177, s192, s209, s210, s217, s221, s262, s282, trivial⟩ tk5
def p264 : List PA := [.c (s [115, 101, 108, 101, 99, 116, 32, 99, 111, 117, 110, 116, 40, 42, 41, 32, 102, 114, 111, 109, 32, 97, 32, 119, 105, 110, 100, 111, 119, 32, 116, 117, 109, 98, 108, 101, 32, 53]), .c e, .c (i 1), .c (i 1)]
def r264 : List RA := [.a [.c (y 0), .c e, .c e, .c bf, .c e, .c (y 0), .c (i 0), .c (i 0), .c bf, .c (y 0), .c e, .c e, .c e, .c e], .c (.c (i 0)), .c (.c (i 2))]
theorem g264 : vcall (VN tb6) rounds 6 13 p264 = some r264 := by kernel_rfl
theorem s264 : Spec Go.Proofs.Tryz.prog 13 p264 r264 := fact tk6 g264
def p283 : List PA := [.c (s [115, 101, 108, 101, 99, 116, 32, 99, 111, 117, 110, 116, 40, 42, 41, 32, 102, 114, 111, 109, 32, 97, 32, 102, 114, 111, 109]), .c e, .c (i 1), .c (i 1)]
def r283 : List RA := [.a [.c (y 0), .c e, .c e, .c bf, .c e, .c (y 0), .c (i 0), .c (i 0), .c bf, .c (y 0), .c e, .c e, .c e, .c e], .c (.c (i 23)), .c (.c (i 12))]
theorem g283 : vcall (VN tb6) rounds 6 13 p283 = some r283 := by kernel_rfl
theorem s283 : Spec Go.Proofs.Tryz.prog 13 p283 r283 := fact tk6 g283
def p294 : List PA := [.c (s [115, 101, 108, 101, 99, 116, 32, 99, 111, 117, 110, 116, 40, 42, 41, 32, 102, 114, 111, 109, 32, 97, 32, 119, 105, 110, 100, 111, 119, 32, 116, 117, 109, 98, 108, 101, 32, 53]), .c (l [[e]]), .c (i 1), .c (i 1)]
def r294 : List RA := [.a [.c (y 1), .c e, .c (l [[(i 0)]]), .c bf, .c e, .c (y 1), .c (i 5), .c (i 0), .c bf, .c (y 1), .c m17, .c m18, .c m42, .c m43], .c (.c (i 38)), .c (.c (i 0))]
theorem g294 : vcall (VN tb6) rounds 6 13 p294 = some r294 := by kernel_rfl
theorem s294 : Spec Go.Proofs.Tryz.prog 13 p294 r294 := fact tk6 g294
def tb7 : List (FuncId × List PA × List RA) := [(13, p264, r264), (13, p283, r283), (13, p294, r294)] ++ tb6
theorem tk7 : TOK Go.Proofs.Tryz.prog tb7 := TOK.app (l := [(13, p264, r264), (13, p283, r283), (13, p294, r294)]) ⟨s264, s283, s294, trivial⟩ tk6
def p312 : List PA := []
def r312 : List RA := [.c (.c bt)]
theorem g312 : vcall (VN tb7) rounds 6 3 p312 = some r312 := by kernel_rfl
theorem s312 : Spec Go.Proofs.Tryz.prog 3 p312 r312 := fact tk7 g312
theorem law : Spec Go.Proofs.Tryz.prog 3 [] [.c (.c (.bool true))] := s312
end Tn.Bu
