import Derived.Test.YtcignakdmepfmaaGreatDoorBu0
/- Closed facts of one run, each by the kernel. -/
set_option linter.unusedVariables false
namespace Tn.Bu
open Go Go.Abs Tn
def p31 : List PA := [.c (y 106)]
def r31 : List RA := [.c (.c (y 3))]
theorem g31 : vcall (VN tb0) rounds 6 134 p31 = some r31 := by kernel_rfl
theorem s31 : Spec Go.Proofs.Tryz.prog 134 p31 r31 := fact tk0 g31
def p32 : List PA := [.c (y 105)]
def r32 : List RA := [.c (.c (y 3))]
theorem g32 : vcall (VN tb0) rounds 6 134 p32 = some r32 := by kernel_rfl
theorem s32 : Spec Go.Proofs.Tryz.prog 134 p32 r32 := fact tk0 g32
def p33 : List PA := [.c (y 110)]
def r33 : List RA := [.c (.c (y 3))]
theorem g33 : vcall (VN tb0) rounds 6 134 p33 = some r33 := by kernel_rfl
theorem s33 : Spec Go.Proofs.Tryz.prog 134 p33 r33 := fact tk0 g33
def p35 : List PA := [.c (s [106, 111, 105, 110])]
def r35 : List RA := [.c (.c bt)]
theorem g35 : vcall (VN tb0) rounds 6 173 p35 = some r35 := by kernel_rfl
theorem s35 : Spec Go.Proofs.Tryz.prog 173 p35 r35 := fact tk0 g35
def p36 : List PA := [.c (y 98)]
def r36 : List RA := [.c (.c (y 3))]
theorem g36 : vcall (VN tb0) rounds 6 134 p36 = some r36 := by kernel_rfl
theorem s36 : Spec Go.Proofs.Tryz.prog 134 p36 r36 := fact tk0 g36
def p38 : List PA := [.c (s [98])]
def r38 : List RA := [.c (.c bt)]
theorem g38 : vcall (VN tb0) rounds 6 173 p38 = some r38 := by kernel_rfl
theorem s38 : Spec Go.Proofs.Tryz.prog 173 p38 r38 := fact tk0 g38
def p39 : List PA := [.c (y 119)]
def r39 : List RA := [.c (.c (y 3))]
theorem g39 : vcall (VN tb0) rounds 6 134 p39 = some r39 := by kernel_rfl
theorem s39 : Spec Go.Proofs.Tryz.prog 134 p39 r39 := fact tk0 g39
def p40 : List PA := [.c (y 100)]
def r40 : List RA := [.c (.c (y 3))]
theorem g40 : vcall (VN tb0) rounds 6 134 p40 = some r40 := by kernel_rfl
theorem s40 : Spec Go.Proofs.Tryz.prog 134 p40 r40 := fact tk0 g40
def p42 : List PA := [.c (s [119, 105, 110, 100, 111, 119])]
def r42 : List RA := [.c (.c bt)]
theorem g42 : vcall (VN tb0) rounds 6 173 p42 = some r42 := by kernel_rfl
theorem s42 : Spec Go.Proofs.Tryz.prog 173 p42 r42 := fact tk0 g42
def p44 : List PA := [.c (s [116, 117, 109, 98, 108, 101])]
def r44 : List RA := [.c (.c bt)]
theorem g44 : vcall (VN tb0) rounds 6 173 p44 = some r44 := by kernel_rfl
theorem s44 : Spec Go.Proofs.Tryz.prog 173 p44 r44 := fact tk0 g44
end Tn.Bu
