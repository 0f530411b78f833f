import Derived.Test.YtdfikojbpojmfaaGreatDoorLn0
/- Closed facts of one run, each by the kernel. -/
set_option linter.unusedVariables false
namespace Tn.Ln
open Go Go.Abs Tn
def p210 : List PA := [.c (y 102)]
def r210 : List RA := [.c (.c (y 3))]
theorem g210 : vcall (VN tb0) rounds 6 116 p210 = some r210 := by kernel_rfl
theorem s210 : Spec Go.Proofs.Tryz.prog 116 p210 r210 := fact tk0 g210
def p211 : List PA := [.c (y 114)]
def r211 : List RA := [.c (.c (y 3))]
theorem g211 : vcall (VN tb0) rounds 6 116 p211 = some r211 := by kernel_rfl
theorem s211 : Spec Go.Proofs.Tryz.prog 116 p211 r211 := fact tk0 g211
def p212 : List PA := [.c (y 111)]
def r212 : List RA := [.c (.c (y 3))]
theorem g212 : vcall (VN tb0) rounds 6 116 p212 = some r212 := by kernel_rfl
theorem s212 : Spec Go.Proofs.Tryz.prog 116 p212 r212 := fact tk0 g212
def p214 : List PA := [.c (s [102, 114, 111, 109])]
def r214 : List RA := [.c (.c bt)]
theorem g214 : vcall (VN tb0) rounds 6 154 p214 = some r214 := by kernel_rfl
theorem s214 : Spec Go.Proofs.Tryz.prog 154 p214 r214 := fact tk0 g214
def p215 : List PA := [.c (y 98)]
def r215 : List RA := [.c (.c (y 3))]
theorem g215 : vcall (VN tb0) rounds 6 116 p215 = some r215 := by kernel_rfl
theorem s215 : Spec Go.Proofs.Tryz.prog 116 p215 r215 := fact tk0 g215
def p217 : List PA := [.c (s [98])]
def r217 : List RA := [.c (.c bt)]
theorem g217 : vcall (VN tb0) rounds 6 154 p217 = some r217 := by kernel_rfl
theorem s217 : Spec Go.Proofs.Tryz.prog 154 p217 r217 := fact tk0 g217
def p218 : List PA := [.c (y 106)]
def r218 : List RA := [.c (.c (y 3))]
theorem g218 : vcall (VN tb0) rounds 6 116 p218 = some r218 := by kernel_rfl
theorem s218 : Spec Go.Proofs.Tryz.prog 116 p218 r218 := fact tk0 g218
def p219 : List PA := [.c (y 105)]
def r219 : List RA := [.c (.c (y 3))]
theorem g219 : vcall (VN tb0) rounds 6 116 p219 = some r219 := by kernel_rfl
theorem s219 : Spec Go.Proofs.Tryz.prog 116 p219 r219 := fact tk0 g219
def p220 : List PA := [.c (y 110)]
def r220 : List RA := [.c (.c (y 3))]
theorem g220 : vcall (VN tb0) rounds 6 116 p220 = some r220 := by kernel_rfl
theorem s220 : Spec Go.Proofs.Tryz.prog 116 p220 r220 := fact tk0 g220
def p222 : List PA := [.c (s [106, 111, 105, 110])]
def r222 : List RA := [.c (.c bt)]
theorem g222 : vcall (VN tb0) rounds 6 154 p222 = some r222 := by kernel_rfl
theorem s222 : Spec Go.Proofs.Tryz.prog 154 p222 r222 := fact tk0 g222
def p223 : List PA := [.c (y 100)]
def r223 : List RA := [.c (.c (y 3))]
theorem g223 : vcall (VN tb0) rounds 6 116 p223 = some r223 := by kernel_rfl
theorem s223 : Spec Go.Proofs.Tryz.prog 116 p223 r223 := fact tk0 g223
def p225 : List PA := [.c (s [100])]
def r225 : List RA := [.c (.c bt)]
theorem g225 : vcall (VN tb0) rounds 6 154 p225 = some r225 := by kernel_rfl
theorem s225 : Spec Go.Proofs.Tryz.prog 154 p225 r225 := fact tk0 g225
end Tn.Ln
