import Derived.Test.YtcignakdmepfmaaGreatDoorBo0
/- Closed facts of one run, each by the kernel. -/
set_option linter.unusedVariables false
namespace Tn.Bo
open Go Go.Abs Tn
def p31 : List PA := [.c (y 119)]
def r31 : List RA := [.c (.c (y 3))]
theorem g31 : vcall (VN tb0) rounds 6 134 p31 = some r31 := by kernel_rfl
theorem s31 : Spec Go.Proofs.Tryz.prog 134 p31 r31 := fact tk0 g31
def p32 : List PA := [.c (y 105)]
def r32 : List RA := [.c (.c (y 3))]
theorem g32 : vcall (VN tb0) rounds 6 134 p32 = some r32 := by kernel_rfl
theorem s32 : Spec Go.Proofs.Tryz.prog 134 p32 r32 := fact tk0 g32
def p33 : List PA := [.c (y 110)]
def r33 : List RA := [.c (.c (y 3))]
theorem g33 : vcall (VN tb0) rounds 6 134 p33 = some r33 := by kernel_rfl
theorem s33 : Spec Go.Proofs.Tryz.prog 134 p33 r33 := fact tk0 g33
def p34 : List PA := [.c (y 100)]
def r34 : List RA := [.c (.c (y 3))]
theorem g34 : vcall (VN tb0) rounds 6 134 p34 = some r34 := by kernel_rfl
theorem s34 : Spec Go.Proofs.Tryz.prog 134 p34 r34 := fact tk0 g34
def p36 : List PA := [.c (s [119, 105, 110, 100, 111, 119])]
def r36 : List RA := [.c (.c bt)]
theorem g36 : vcall (VN tb0) rounds 6 173 p36 = some r36 := by kernel_rfl
theorem s36 : Spec Go.Proofs.Tryz.prog 173 p36 r36 := fact tk0 g36
def p38 : List PA := [.c (s [115, 108, 105, 100, 101])]
def r38 : List RA := [.c (.c bt)]
theorem g38 : vcall (VN tb0) rounds 6 173 p38 = some r38 := by kernel_rfl
theorem s38 : Spec Go.Proofs.Tryz.prog 173 p38 r38 := fact tk0 g38
def p39 : List PA := [.c (y 49)]
def r39 : List RA := [.c (.c (y 2))]
theorem g39 : vcall (VN tb0) rounds 6 134 p39 = some r39 := by kernel_rfl
theorem s39 : Spec Go.Proofs.Tryz.prog 134 p39 r39 := fact tk0 g39
def p40 : List PA := [.c (y 48)]
def r40 : List RA := [.c (.c (y 2))]
theorem g40 : vcall (VN tb0) rounds 6 134 p40 = some r40 := by kernel_rfl
theorem s40 : Spec Go.Proofs.Tryz.prog 134 p40 r40 := fact tk0 g40
def p42 : List PA := [.c (s [48, 49, 50, 51, 52, 53, 54, 55, 56, 57])]
def r42 : List RA := [.a [.c bf, .c bf, .c bf, .c bf, .c bf, .c bf, .c bf, .c bf, .c bf, .c bf, .c bf, .c bf, .c bf, .c bf, .c bf, .c bf, .c bf, .c bf, .c bf, .c bf, .c bf, .c bf, .c bf, .c bf, .c bf, .c bf, .c bf, .c bf, .c bf, .c bf, .c bf, .c bf, .c bf, .c bf, .c bf, .c bf, .c bf, .c bf, .c bf, .c bf, .c bf, .c bf, .c bf, .c bf, .c bf, .c bf, .c bf, .c bf, .c bt, .c bt, .c bt, .c bt, .c bt, .c bt, .c bt, .c bt, .c bt, .c bt, .c bf, .c bf, .c bf, .c bf, .c bf, .c bf, .c bf, .c bf, .c bf, .c bf, .c bf, .c bf, .c bf, .c bf, .c bf, .c bf, .c bf, .c bf, .c bf, .c bf, .c bf, .c bf, .c bf, .c bf, .c bf, .c bf, .c bf, .c bf, .c bf, .c bf, .c bf, .c bf, .c bf, .c bf, .c bf, .c bf, .c bf, .c bf, .c bf, .c bf, .c bf, .c bf, .c bf, .c bf, .c bf, .c bf, .c bf, .c bf, .c bf, .c bf, .c bf, .c bf, .c bf, .c bf, .c bf, .c bf, .c bf, .c bf, .c bf, .c bf, .c bf, .c bf, .c bf, .c bf, .c bf, .c bf, .c bf, .c bf, .c bf, .c bf, .c bf, .c bf, .c bf, .c bf, .c bf, .c bf, .c bf, .c bf, .c bf, .c bf, .c bf, .c bf, .c bf, .c bf, .c bf, .c bf, .c bf, .c bf, .c bf, .c bf, .c bf, .c bf, .c bf, .c bf, .c bf, .c bf, .c bf, .c bf, .c bf, .c bf, .c bf, .c bf, .c bf, .c bf, .c bf, .c bf, .c bf, .c bf, .c bf, .c bf, .c bf, .c bf, .c bf, .c bf, .c bf, .c bf, .c bf, .c bf, .c bf, .c bf, .c bf, .c bf, .c bf, .c bf, .c bf, .c bf, .c bf, .c bf, .c bf, .c bf, .c bf, .c bf, .c bf, .c bf, .c bf, .c bf, .c bf, .c bf, .c bf, .c bf, .c bf, .c bf, .c bf, .c bf, .c bf, .c bf, .c bf, .c bf, .c bf, .c bf, .c bf, .c bf, .c bf, .c bf, .c bf, .c bf, .c bf, .c bf, .c bf, .c bf, .c bf, .c bf, .c bf, .c bf, .c bf, .c bf, .c bf, .c bf, .c bf, .c bf, .c bf, .c bf, .c bf, .c bf, .c bf, .c bf, .c bf, .c bf, .c bf, .c bf, .c bf, .c bf, .c bf, .c bf, .c bf, .c bf, .c bf, .c bf, .c bf, .c bf, .c bf, .c bf, .c bf, .c bf, .c bf, .c bf, .c bf, .c bf], .c (.c bt)]
theorem g42 : vcall (VN tb0) rounds 6 252 p42 = some r42 := by kernel_rfl
theorem s42 : Spec Go.Proofs.Tryz.prog 252 p42 r42 := fact tk0 g42
def p43 : List PA := [.c (s [49, 48]), .q [bf, bf, bf, bf, bf, bf, bf, bf, bf, bf, bf, bf, bf, bf, bf, bf, bf, bf, bf, bf, bf, bf, bf, bf, bf, bf, bf, bf, bf, bf, bf, bf, bf, bf, bf, bf, bf, bf, bf, bf, bf, bf, bf, bf, bf, bf, bf, bf, bt, bt, bt, bt, bt, bt, bt, bt, bt, bt, bf, bf, bf, bf, bf, bf, bf, bf, bf, bf, bf, bf, bf, bf, bf, bf, bf, bf, bf, bf, bf, bf, bf, bf, bf, bf, bf, bf, bf, bf, bf, bf, bf, bf, bf, bf, bf, bf, bf, bf, bf, bf, bf, bf, bf, bf, bf, bf, bf, bf, bf, bf, bf, bf, bf, bf, bf, bf, bf, bf, bf, bf, bf, bf, bf, bf, bf, bf, bf, bf, bf, bf, bf, bf, bf, bf, bf, bf, bf, bf, bf, bf, bf, bf, bf, bf, bf, bf, bf, bf, bf, bf, bf, bf, bf, bf, bf, bf, bf, bf, bf, bf, bf, bf, bf, bf, bf, bf, bf, bf, bf, bf, bf, bf, bf, bf, bf, bf, bf, bf, bf, bf, bf, bf, bf, bf, bf, bf, bf, bf, bf, bf, bf, bf, bf, bf, bf, bf, bf, bf, bf, bf, bf, bf, bf, bf, bf, bf, bf, bf, bf, bf, bf, bf, bf, bf, bf, bf, bf, bf, bf, bf, bf, bf, bf, bf, bf, bf, bf, bf, bf, bf, bf, bf, bf, bf, bf, bf, bf, bf, bf, bf, bf, bf, bf, bf, bf, bf, bf, bf, bf, bf, bf, bf, bf, bf, bf, bf]]
def r43 : List RA := [.c (.c (s []))]
theorem g43 : vcall (VN tb0) rounds 6 254 p43 = some r43 := by kernel_rfl
theorem s43 : Spec Go.Proofs.Tryz.prog 254 p43 r43 := fact tk0 g43
def p44 : List PA := [.c (s []), .q [bf, bf, bf, bf, bf, bf, bf, bf, bf, bf, bf, bf, bf, bf, bf, bf, bf, bf, bf, bf, bf, bf, bf, bf, bf, bf, bf, bf, bf, bf, bf, bf, bf, bf, bf, bf, bf, bf, bf, bf, bf, bf, bf, bf, bf, bf, bf, bf, bt, bt, bt, bt, bt, bt, bt, bt, bt, bt, bf, bf, bf, bf, bf, bf, bf, bf, bf, bf, bf, bf, bf, bf, bf, bf, bf, bf, bf, bf, bf, bf, bf, bf, bf, bf, bf, bf, bf, bf, bf, bf, bf, bf, bf, bf, bf, bf, bf, bf, bf, bf, bf, bf, bf, bf, bf, bf, bf, bf, bf, bf, bf, bf, bf, bf, bf, bf, bf, bf, bf, bf, bf, bf, bf, bf, bf, bf, bf, bf, bf, bf, bf, bf, bf, bf, bf, bf, bf, bf, bf, bf, bf, bf, bf, bf, bf, bf, bf, bf, bf, bf, bf, bf, bf, bf, bf, bf, bf, bf, bf, bf, bf, bf, bf, bf, bf, bf, bf, bf, bf, bf, bf, bf, bf, bf, bf, bf, bf, bf, bf, bf, bf, bf, bf, bf, bf, bf, bf, bf, bf, bf, bf, bf, bf, bf, bf, bf, bf, bf, bf, bf, bf, bf, bf, bf, bf, bf, bf, bf, bf, bf, bf, bf, bf, bf, bf, bf, bf, bf, bf, bf, bf, bf, bf, bf, bf, bf, bf, bf, bf, bf, bf, bf, bf, bf, bf, bf, bf, bf, bf, bf, bf, bf, bf, bf, bf, bf, bf, bf, bf, bf, bf, bf, bf, bf, bf, bf]]
def r44 : List RA := [.c (.c (s []))]
theorem g44 : vcall (VN tb0) rounds 6 253 p44 = some r44 := by kernel_rfl
theorem s44 : Spec Go.Proofs.Tryz.prog 253 p44 r44 := fact tk0 g44
def p46 : List PA := [.c (s [49, 48]), .c (i 10), .c (i 64)]
def r46 : List RA := [.c (.c (.int .u64 10)), .c (.e false)]
theorem g46 : vcall (VN tb0) rounds 6 290 p46 = some r46 := by kernel_rfl
theorem s46 : Spec Go.Proofs.Tryz.prog 290 p46 r46 := fact tk0 g46
def p49 : List PA := [.c (y 121)]
def r49 : List RA := [.c (.c (y 3))]
theorem g49 : vcall (VN tb0) rounds 6 134 p49 = some r49 := by kernel_rfl
theorem s49 : Spec Go.Proofs.Tryz.prog 134 p49 r49 := fact tk0 g49
def p51 : List PA := [.c (s [101, 118, 101, 114, 121])]
def r51 : List RA := [.c (.c bt)]
theorem g51 : vcall (VN tb0) rounds 6 173 p51 = some r51 := by kernel_rfl
theorem s51 : Spec Go.Proofs.Tryz.prog 173 p51 r51 := fact tk0 g51
def p52 : List PA := [.c (y 52)]
def r52 : List RA := [.c (.c (y 2))]
theorem g52 : vcall (VN tb0) rounds 6 134 p52 = some r52 := by kernel_rfl
theorem s52 : Spec Go.Proofs.Tryz.prog 134 p52 r52 := fact tk0 g52
def p54 : List PA := [.c (s [52]), .q [bf, bf, bf, bf, bf, bf, bf, bf, bf, bf, bf, bf, bf, bf, bf, bf, bf, bf, bf, bf, bf, bf, bf, bf, bf, bf, bf, bf, bf, bf, bf, bf, bf, bf, bf, bf, bf, bf, bf, bf, bf, bf, bf, bf, bf, bf, bf, bf, bt, bt, bt, bt, bt, bt, bt, bt, bt, bt, bf, bf, bf, bf, bf, bf, bf, bf, bf, bf, bf, bf, bf, bf, bf, bf, bf, bf, bf, bf, bf, bf, bf, bf, bf, bf, bf, bf, bf, bf, bf, bf, bf, bf, bf, bf, bf, bf, bf, bf, bf, bf, bf, bf, bf, bf, bf, bf, bf, bf, bf, bf, bf, bf, bf, bf, bf, bf, bf, bf, bf, bf, bf, bf, bf, bf, bf, bf, bf, bf, bf, bf, bf, bf, bf, bf, bf, bf, bf, bf, bf, bf, bf, bf, bf, bf, bf, bf, bf, bf, bf, bf, bf, bf, bf, bf, bf, bf, bf, bf, bf, bf, bf, bf, bf, bf, bf, bf, bf, bf, bf, bf, bf, bf, bf, bf, bf, bf, bf, bf, bf, bf, bf, bf, bf, bf, bf, bf, bf, bf, bf, bf, bf, bf, bf, bf, bf, bf, bf, bf, bf, bf, bf, bf, bf, bf, bf, bf, bf, bf, bf, bf, bf, bf, bf, bf, bf, bf, bf, bf, bf, bf, bf, bf, bf, bf, bf, bf, bf, bf, bf, bf, bf, bf, bf, bf, bf, bf, bf, bf, bf, bf, bf, bf, bf, bf, bf, bf, bf, bf, bf, bf, bf, bf, bf, bf, bf, bf]]
def r54 : List RA := [.c (.c (s []))]
theorem g54 : vcall (VN tb0) rounds 6 254 p54 = some r54 := by kernel_rfl
theorem s54 : Spec Go.Proofs.Tryz.prog 254 p54 r54 := fact tk0 g54
def p56 : List PA := [.c (s [52]), .c (i 10), .c (i 64)]
def r56 : List RA := [.c (.c (.int .u64 4)), .c (.e false)]
theorem g56 : vcall (VN tb0) rounds 6 290 p56 = some r56 := by kernel_rfl
theorem s56 : Spec Go.Proofs.Tryz.prog 290 p56 r56 := fact tk0 g56
def p59 : List PA := [.c (y 98)]
def r59 : List RA := [.c (.c (y 3))]
theorem g59 : vcall (VN tb0) rounds 6 134 p59 = some r59 := by kernel_rfl
theorem s59 : Spec Go.Proofs.Tryz.prog 134 p59 r59 := fact tk0 g59
def p61 : List PA := [.c (s [98, 121])]
def r61 : List RA := [.c (.c bt)]
theorem g61 : vcall (VN tb0) rounds 6 173 p61 = some r61 := by kernel_rfl
theorem s61 : Spec Go.Proofs.Tryz.prog 173 p61 r61 := fact tk0 g61
def p62 : List PA := [.c (y 107)]
def r62 : List RA := [.c (.c (y 3))]
theorem g62 : vcall (VN tb0) rounds 6 134 p62 = some r62 := by kernel_rfl
theorem s62 : Spec Go.Proofs.Tryz.prog 134 p62 r62 := fact tk0 g62
def p64 : List PA := [.c (s [107, 101, 121])]
def r64 : List RA := [.c (.c bt)]
theorem g64 : vcall (VN tb0) rounds 6 173 p64 = some r64 := by kernel_rfl
theorem s64 : Spec Go.Proofs.Tryz.prog 173 p64 r64 := fact tk0 g64
end Tn.Bo
