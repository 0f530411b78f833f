import Derived.Test.YtcignakdmepfmaaGreatDoorBu5
/- Closed facts of one run, each by the kernel. -/
set_option linter.unusedVariables false
namespace Tn.Bu
open Go Go.Abs Tn
def m36 : PV := l [[(i 6), e], [(i 6), e], [(i 6), e], [(i 6), e], [(i 6), e], [(i 6), e], [(i 6), e], [(i 6), e], [(i 6), e]]
def p168 : List PA := [.a [(y 2), m1, (l [[(i 0)], [(i 1)]]), bt, e, (y 1), (i 5), (i 0), bt, (y 2)], .c m4, .c (i 1), .c (i 6)]
def r168 : List RA := [.a [.c (y 2), .c m1, .c (l [[(i 0)], [(i 1)]]), .c bt, .c e, .c (y 1), .c (i 5), .c (i 0), .c bt, .c (y 2), .c m19, .c m25, .c m30, .c m36], .c (.c (i 0))]
theorem g168 : vcall (VN tb2) rounds 6 9 p168 = some r168 := by kernel_rfl
theorem s168 : Spec Go.Proofs.Tryz.prog 9 p168 r168 := fact tk2 g168
def m37 : PV := l [[(i 7), e], [(i 7), e], [(i 7), e], [(i 7), e], [(i 7), e], [(i 7), e], [(i 7), e], [(i 7), e], [(i 7), e]]
def p170 : List PA := [.a [(y 2), m1, (l [[(i 0)], [(i 1)]]), bt, e, (y 1), (i 5), (i 0), bt, (y 2)], .c m4, .c (i 1), .c (i 7)]
def r170 : List RA := [.a [.c (y 2), .c m1, .c (l [[(i 0)], [(i 1)]]), .c bt, .c e, .c (y 1), .c (i 5), .c (i 0), .c bt, .c (y 2), .c m19, .c m26, .c m30, .c m37], .c (.c (i 0))]
theorem g170 : vcall (VN tb2) rounds 6 9 p170 = some r170 := by kernel_rfl
theorem s170 : Spec Go.Proofs.Tryz.prog 9 p170 r170 := fact tk2 g170
def m38 : PV := l [[(i 8), e], [(i 8), e], [(i 8), e], [(i 8), e], [(i 8), e], [(i 8), e], [(i 8), e], [(i 8), e], [(i 8), e]]
def p172 : List PA := [.a [(y 2), m1, (l [[(i 0)], [(i 1)]]), bt, e, (y 1), (i 5), (i 0), bt, (y 2)], .c m4, .c (i 1), .c (i 8)]
def r172 : List RA := [.a [.c (y 2), .c m1, .c (l [[(i 0)], [(i 1)]]), .c bt, .c e, .c (y 1), .c (i 5), .c (i 0), .c bt, .c (y 2), .c m19, .c m27, .c m30, .c m38], .c (.c (i 0))]
theorem g172 : vcall (VN tb2) rounds 6 9 p172 = some r172 := by kernel_rfl
theorem s172 : Spec Go.Proofs.Tryz.prog 9 p172 r172 := fact tk2 g172
def m39 : PV := l [[(i 1), e], [(i 1), e], [(i 1), e], [(i 1), e], [(i 1), e], [(i 1), e], [(i 1), e], [(i 1), e], [(i 1), e], [(i 1), e], [(i 1), e], [(i 1), e]]
def p174 : List PA := [.a [(y 2), m1, (l [[(i 0)], [(i 1)]]), bt, e, (y 1), (i 5), (i 0), bt, (y 2)], .c m4, .c (i 2), .c (i 1)]
def r174 : List RA := [.a [.c (y 2), .c m1, .c (l [[(i 0)], [(i 1)]]), .c bt, .c e, .c (y 1), .c (i 5), .c (i 0), .c bt, .c (y 2), .c m5, .c m28, .c m7, .c m39], .c (.c (i 0))]
theorem g174 : vcall (VN tb2) rounds 6 9 p174 = some r174 := by kernel_rfl
theorem s174 : Spec Go.Proofs.Tryz.prog 9 p174 r174 := fact tk2 g174
def m40 : PV := l [[(i 2), e], [(i 2), e], [(i 2), e], [(i 2), e], [(i 2), e], [(i 2), e], [(i 2), e], [(i 2), e], [(i 2), e], [(i 2), e], [(i 2), e], [(i 2), e]]
def p176 : List PA := [.a [(y 2), m1, (l [[(i 0)], [(i 1)]]), bt, e, (y 1), (i 5), (i 0), bt, (y 2)], .c m4, .c (i 2), .c (i 2)]
def r176 : List RA := [.a [.c (y 2), .c m1, .c (l [[(i 0)], [(i 1)]]), .c bt, .c e, .c (y 1), .c (i 5), .c (i 0), .c bt, .c (y 2), .c m5, .c m29, .c m7, .c m40], .c (.c (i 0))]
theorem g176 : vcall (VN tb2) rounds 6 9 p176 = some r176 := by kernel_rfl
theorem s176 : Spec Go.Proofs.Tryz.prog 9 p176 r176 := fact tk2 g176
def p180 : List PA := [.a [(y 1), (i 0), (i 0), e, e, e, m3, e, e], .c e, .c (l [[(i 3), e]])]
def r180 : List RA := [.c (.c bt), .c (.c (i 0))]
theorem g180 : vcall (VN tb2) rounds 6 108 p180 = some r180 := by kernel_rfl
theorem s180 : Spec Go.Proofs.Tryz.prog 108 p180 r180 := fact tk2 g180
def p182 : List PA := [.a [(y 1), (i 0), (i 0), e, e, e, m3, e, e], .c e]
def r182 : List RA := [.a [.c (y 1), .c (i 0), .c (i 0), .s 156 11 [], .s 2 1 [], .s 212 11 [], .s 34 5 [[bf, (i 0), (i 1), (i 2), (i 3)], [bt, (i 9223372036854775807), (i 0), (i 0), (i 0)]], .s 92 5 [], .s 32 3 []], .c (.c (i 0))]
theorem g182 : vcall (VN tb2) rounds 6 157 p182 = some r182 := by kernel_rfl
theorem s182 : Spec Go.Proofs.Tryz.prog 157 p182 r182 := fact tk2 g182
def p183 : List PA := [.a [(y 1), (i 1), (i 0), e, e, e, e, e, e], .c e]
def r183 : List RA := [.a [.c (y 1), .c (i 1), .c (i 0), .s 156 11 [], .s 2 1 [], .s 212 11 [], .s 34 5 [], .s 92 5 [], .s 32 3 []], .c (.c (i 0))]
theorem g183 : vcall (VN tb2) rounds 6 157 p183 = some r183 := by kernel_rfl
theorem s183 : Spec Go.Proofs.Tryz.prog 157 p183 r183 := fact tk2 g183
def p184 : List PA := [.a [(y 2), (i 0), (i 0), e, (l [[(i (-9223372036854775808))]]), e, e, e, e], .c e]
def r184 : List RA := [.a [.c (y 2), .c (i 0), .c (i 0), .s 156 11 [], .s 2 1 [[(i (-9223372036854775808))]], .s 212 11 [], .s 34 5 [], .s 92 5 [], .s 32 3 []], .c (.c (i 0))]
theorem g184 : vcall (VN tb2) rounds 6 157 p184 = some r184 := by kernel_rfl
theorem s184 : Spec Go.Proofs.Tryz.prog 157 p184 r184 := fact tk2 g184
def p185 : List PA := [.a [(y 2), (i 1), (i 0), e, (l [[(i (-9223372036854775808))]]), e, e, e, e], .c e]
def r185 : List RA := [.a [.c (y 2), .c (i 1), .c (i 0), .s 156 11 [], .s 2 1 [[(i (-9223372036854775808))]], .s 212 11 [], .s 34 5 [], .s 92 5 [], .s 32 3 []], .c (.c (i 0))]
theorem g185 : vcall (VN tb2) rounds 6 157 p185 = some r185 := by kernel_rfl
theorem s185 : Spec Go.Proofs.Tryz.prog 157 p185 r185 := fact tk2 g185
def p186 : List PA := [.a [(y 3), (i 0), (i 0), e, e, e, e, e, e], .c e]
def r186 : List RA := [.a [.c (y 3), .c (i 0), .c (i 0), .s 156 11 [], .s 2 1 [], .s 212 11 [], .s 34 5 [], .s 92 5 [], .s 32 3 []], .c (.c (i 0))]
theorem g186 : vcall (VN tb2) rounds 6 157 p186 = some r186 := by kernel_rfl
theorem s186 : Spec Go.Proofs.Tryz.prog 157 p186 r186 := fact tk2 g186
def p187 : List PA := [.a [(y 3), (i 1), (i 0), e, e, e, e, e, e], .c e]
def r187 : List RA := [.a [.c (y 3), .c (i 1), .c (i 0), .s 156 11 [], .s 2 1 [], .s 212 11 [], .s 34 5 [], .s 92 5 [], .s 32 3 []], .c (.c (i 0))]
theorem g187 : vcall (VN tb2) rounds 6 157 p187 = some r187 := by kernel_rfl
theorem s187 : Spec Go.Proofs.Tryz.prog 157 p187 r187 := fact tk2 g187
def p188 : List PA := [.a [(y 5), (i 0), (i 0), e, (l [[(i (-9223372036854775808))], [(i (-9223372036854775808))]]), e, e, e, e], .c e]
def r188 : List RA := [.a [.c (y 5), .c (i 0), .c (i 0), .s 156 11 [], .s 2 1 [[(i (-9223372036854775808))], [(i (-9223372036854775808))]], .s 212 11 [], .s 34 5 [], .s 92 5 [], .s 32 3 []], .c (.c (i 0))]
theorem g188 : vcall (VN tb2) rounds 6 157 p188 = some r188 := by kernel_rfl
theorem s188 : Spec Go.Proofs.Tryz.prog 157 p188 r188 := fact tk2 g188
def p189 : List PA := [.a [(y 5), (i 1), (i 0), e, (l [[(i (-9223372036854775808))], [(i (-9223372036854775808))]]), e, e, e, e], .c e]
def r189 : List RA := [.a [.c (y 5), .c (i 1), .c (i 0), .s 156 11 [], .s 2 1 [[(i (-9223372036854775808))], [(i (-9223372036854775808))]], .s 212 11 [], .s 34 5 [], .s 92 5 [], .s 32 3 []], .c (.c (i 0))]
theorem g189 : vcall (VN tb2) rounds 6 157 p189 = some r189 := by kernel_rfl
theorem s189 : Spec Go.Proofs.Tryz.prog 157 p189 r189 := fact tk2 g189
def p190 : List PA := [.a [(y 6), (i 0), (i 0), e, e, e, e, e, e], .c e]
def r190 : List RA := [.a [.c (y 6), .c (i 0), .c (i 0), .s 156 11 [], .s 2 1 [], .s 212 11 [], .s 34 5 [], .s 92 5 [], .s 32 3 []], .c (.c (i 0))]
theorem g190 : vcall (VN tb2) rounds 6 157 p190 = some r190 := by kernel_rfl
theorem s190 : Spec Go.Proofs.Tryz.prog 157 p190 r190 := fact tk2 g190
def p191 : List PA := [.a [(y 7), (i 0), (i 0), e, e, e, e, e, e], .c e]
def r191 : List RA := [.a [.c (y 7), .c (i 0), .c (i 0), .s 156 11 [], .s 2 1 [], .s 212 11 [], .s 34 5 [], .s 92 5 [], .s 32 3 []], .c (.c (i 0))]
theorem g191 : vcall (VN tb2) rounds 6 157 p191 = some r191 := by kernel_rfl
theorem s191 : Spec Go.Proofs.Tryz.prog 157 p191 r191 := fact tk2 g191
def m41 : PV := l [[(y 1), (i 0), (i 0), e, e, e, m10, e, e], [(y 1), (i 1), (i 0), e, e, e, e, e, e], [(y 2), (i 0), (i 0), e, (l [[(i (-9223372036854775808))]]), e, e, e, e], [(y 2), (i 1), (i 0), e, (l [[(i (-9223372036854775808))]]), e, e, e, e], [(y 3), (i 0), (i 0), e, e, e, e, e, e], [(y 3), (i 1), (i 0), e, e, e, e, e, e], [(y 5), (i 0), (i 0), e, (l [[(i (-9223372036854775808))], [(i (-9223372036854775808))]]), e, e, e, e], [(y 6), (i 0), (i 0), e, e, e, e, e, e], [(y 7), (i 0), (i 0), e, e, e, e, e, e]]
def p198 : List PA := [.a [(y 2), m1, (l [[(i 0)], [(i 1)]]), bt, e, (y 1), (i 5), (i 0), bt, (y 2)], .c m12, .c (i 1), .c (i 1)]
def r198 : List RA := [.a [.c (y 2), .c m1, .c (l [[(i 0)], [(i 1)]]), .c bt, .c e, .c (y 1), .c (i 5), .c (i 0), .c bt, .c (y 2), .c m19, .c m20, .c m41, .c m31], .c (.c (i 0))]
theorem g198 : vcall (VN tb2) rounds 6 9 p198 = some r198 := by kernel_rfl
theorem s198 : Spec Go.Proofs.Tryz.prog 9 p198 r198 := fact tk2 g198
def p199 : List PA := [.a [(y 2), m1, (l [[(i 0)], [(i 1)]]), bt, e, (y 1), (i 5), (i 0), bt, (y 2)], .c m12, .c (i 1), .c (i 2)]
def r199 : List RA := [.a [.c (y 2), .c m1, .c (l [[(i 0)], [(i 1)]]), .c bt, .c e, .c (y 1), .c (i 5), .c (i 0), .c bt, .c (y 2), .c m19, .c m21, .c m41, .c m32], .c (.c (i 0))]
theorem g199 : vcall (VN tb2) rounds 6 9 p199 = some r199 := by kernel_rfl
theorem s199 : Spec Go.Proofs.Tryz.prog 9 p199 r199 := fact tk2 g199
def p200 : List PA := [.a [(y 2), m1, (l [[(i 0)], [(i 1)]]), bt, e, (y 1), (i 5), (i 0), bt, (y 2)], .c m12, .c (i 1), .c (i 3)]
def r200 : List RA := [.a [.c (y 2), .c m1, .c (l [[(i 0)], [(i 1)]]), .c bt, .c e, .c (y 1), .c (i 5), .c (i 0), .c bt, .c (y 2), .c m19, .c m22, .c m41, .c m33], .c (.c (i 0))]
theorem g200 : vcall (VN tb2) rounds 6 9 p200 = some r200 := by kernel_rfl
theorem s200 : Spec Go.Proofs.Tryz.prog 9 p200 r200 := fact tk2 g200
def p201 : List PA := [.a [(y 2), m1, (l [[(i 0)], [(i 1)]]), bt, e, (y 1), (i 5), (i 0), bt, (y 2)], .c m12, .c (i 1), .c (i 4)]
def r201 : List RA := [.a [.c (y 2), .c m1, .c (l [[(i 0)], [(i 1)]]), .c bt, .c e, .c (y 1), .c (i 5), .c (i 0), .c bt, .c (y 2), .c m19, .c m23, .c m41, .c m34], .c (.c (i 0))]
theorem g201 : vcall (VN tb2) rounds 6 9 p201 = some r201 := by kernel_rfl
theorem s201 : Spec Go.Proofs.Tryz.prog 9 p201 r201 := fact tk2 g201
def p202 : List PA := [.a [(y 2), m1, (l [[(i 0)], [(i 1)]]), bt, e, (y 1), (i 5), (i 0), bt, (y 2)], .c m12, .c (i 1), .c (i 5)]
def r202 : List RA := [.a [.c (y 2), .c m1, .c (l [[(i 0)], [(i 1)]]), .c bt, .c e, .c (y 1), .c (i 5), .c (i 0), .c bt, .c (y 2), .c m19, .c m24, .c m41, .c m35], .c (.c (i 0))]
theorem g202 : vcall (VN tb2) rounds 6 9 p202 = some r202 := by kernel_rfl
theorem s202 : Spec Go.Proofs.Tryz.prog 9 p202 r202 := fact tk2 g202
def p203 : List PA := [.a [(y 2), m1, (l [[(i 0)], [(i 1)]]), bt, e, (y 1), (i 5), (i 0), bt, (y 2)], .c m12, .c (i 1), .c (i 6)]
def r203 : List RA := [.a [.c (y 2), .c m1, .c (l [[(i 0)], [(i 1)]]), .c bt, .c e, .c (y 1), .c (i 5), .c (i 0), .c bt, .c (y 2), .c m19, .c m25, .c m41, .c m36], .c (.c (i 0))]
theorem g203 : vcall (VN tb2) rounds 6 9 p203 = some r203 := by kernel_rfl
theorem s203 : Spec Go.Proofs.Tryz.prog 9 p203 r203 := fact tk2 g203
def p204 : List PA := [.a [(y 2), m1, (l [[(i 0)], [(i 1)]]), bt, e, (y 1), (i 5), (i 0), bt, (y 2)], .c m12, .c (i 1), .c (i 7)]
def r204 : List RA := [.a [.c (y 2), .c m1, .c (l [[(i 0)], [(i 1)]]), .c bt, .c e, .c (y 1), .c (i 5), .c (i 0), .c bt, .c (y 2), .c m19, .c m26, .c m41, .c m37], .c (.c (i 0))]
theorem g204 : vcall (VN tb2) rounds 6 9 p204 = some r204 := by kernel_rfl
theorem s204 : Spec Go.Proofs.Tryz.prog 9 p204 r204 := fact tk2 g204
def p205 : List PA := [.a [(y 2), m1, (l [[(i 0)], [(i 1)]]), bt, e, (y 1), (i 5), (i 0), bt, (y 2)], .c m12, .c (i 1), .c (i 8)]
def r205 : List RA := [.a [.c (y 2), .c m1, .c (l [[(i 0)], [(i 1)]]), .c bt, .c e, .c (y 1), .c (i 5), .c (i 0), .c bt, .c (y 2), .c m19, .c m27, .c m41, .c m38], .c (.c (i 0))]
theorem g205 : vcall (VN tb2) rounds 6 9 p205 = some r205 := by kernel_rfl
theorem s205 : Spec Go.Proofs.Tryz.prog 9 p205 r205 := fact tk2 g205
def p206 : List PA := [.a [(y 2), m1, (l [[(i 0)], [(i 1)]]), bt, e, (y 1), (i 5), (i 0), bt, (y 2)], .c m12, .c (i 2), .c (i 1)]
def r206 : List RA := [.a [.c (y 2), .c m1, .c (l [[(i 0)], [(i 1)]]), .c bt, .c e, .c (y 1), .c (i 5), .c (i 0), .c bt, .c (y 2), .c m5, .c m28, .c m14, .c m39], .c (.c (i 0))]
theorem g206 : vcall (VN tb2) rounds 6 9 p206 = some r206 := by kernel_rfl
theorem s206 : Spec Go.Proofs.Tryz.prog 9 p206 r206 := fact tk2 g206
end Tn.Bu
