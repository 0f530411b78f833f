import Derived.Test.YtcignakdmepfmaaGreatDoorBo3
/- Closed facts of one run, each by the kernel. -/
set_option linter.unusedVariables false
namespace Tn.Bo
open Go Go.Abs Tn
def p114 : List PA := [.c (s [102, 114, 111, 109, 32, 97, 32, 119, 105, 110, 100, 111, 119, 32, 115, 108, 105, 100, 101, 32, 49, 48, 32, 101, 118, 101, 114, 121, 32, 52])]
def r114 : List RA := [.a [.c (y 2), .c (s [102, 114, 111, 109]), .c (i 0)]]
theorem g114 : vcall (VN tb1) rounds 6 135 p114 = some r114 := by kernel_rfl
theorem s114 : Spec Go.Proofs.Tryz.prog 135 p114 r114 := fact tk1 g114
def p115 : List PA := [.c (s [97, 32, 119, 105, 110, 100, 111, 119, 32, 115, 108, 105, 100, 101, 32, 49, 48, 32, 101, 118, 101, 114, 121, 32, 52])]
def r115 : List RA := [.a [.c (y 2), .c (s [97]), .c (i 0)]]
theorem g115 : vcall (VN tb1) rounds 6 135 p115 = some r115 := by kernel_rfl
theorem s115 : Spec Go.Proofs.Tryz.prog 135 p115 r115 := fact tk1 g115
def p116 : List PA := [.c (s [119, 105, 110, 100, 111, 119, 32, 115, 108, 105, 100, 101, 32, 49, 48, 32, 101, 118, 101, 114, 121, 32, 52])]
def r116 : List RA := [.a [.c (y 2), .c (s [119, 105, 110, 100, 111, 119]), .c (i 0)]]
theorem g116 : vcall (VN tb1) rounds 6 135 p116 = some r116 := by kernel_rfl
theorem s116 : Spec Go.Proofs.Tryz.prog 135 p116 r116 := fact tk1 g116
def p117 : List PA := [.c (s [115, 108, 105, 100, 101, 32, 49, 48, 32, 101, 118, 101, 114, 121, 32, 52])]
def r117 : List RA := [.a [.c (y 2), .c (s [115, 108, 105, 100, 101]), .c (i 0)]]
theorem g117 : vcall (VN tb1) rounds 6 135 p117 = some r117 := by kernel_rfl
theorem s117 : Spec Go.Proofs.Tryz.prog 135 p117 r117 := fact tk1 g117
def p118 : List PA := [.c (s [49, 48, 32, 101, 118, 101, 114, 121, 32, 52])]
def r118 : List RA := [.a [.c (y 1), .c (s [49, 48]), .c (i 0)]]
theorem g118 : vcall (VN tb1) rounds 6 135 p118 = some r118 := by kernel_rfl
theorem s118 : Spec Go.Proofs.Tryz.prog 135 p118 r118 := fact tk1 g118
def p119 : List PA := [.c (s [101, 118, 101, 114, 121, 32, 52])]
def r119 : List RA := [.a [.c (y 2), .c (s [101, 118, 101, 114, 121]), .c (i 0)]]
theorem g119 : vcall (VN tb1) rounds 6 135 p119 = some r119 := by kernel_rfl
theorem s119 : Spec Go.Proofs.Tryz.prog 135 p119 r119 := fact tk1 g119
def p120 : List PA := [.c (s [52])]
def r120 : List RA := [.a [.c (y 1), .c (s [52]), .c (i 0)]]
theorem g120 : vcall (VN tb1) rounds 6 135 p120 = some r120 := by kernel_rfl
theorem s120 : Spec Go.Proofs.Tryz.prog 135 p120 r120 := fact tk1 g120
def p126 : List PA := [.a [(y 2), m2, (l [[(i 0)]]), bf, e, (y 2), (i 10), (i 4), bf, (y 1)]]
def r126 : List RA := [.c (.c (i 3)), .c (.c (i 0))]
theorem g126 : vcall (VN tb1) rounds 6 35 p126 = some r126 := by kernel_rfl
theorem s126 : Spec Go.Proofs.Tryz.prog 35 p126 r126 := fact tk1 g126
def p128 : List PA := [.a [(y 2), m2, (l [[(i 0)]]), bf, e, (y 3), (i 9), (i 0), bf, (y 1)]]
def r128 : List RA := [.c (.c (i 1)), .c (.c (i 0))]
theorem g128 : vcall (VN tb1) rounds 6 35 p128 = some r128 := by kernel_rfl
theorem s128 : Spec Go.Proofs.Tryz.prog 35 p128 r128 := fact tk1 g128
def p130 : List PA := [.a [(y 0), e, e, bf, e, (y 0), (i 0), (i 0), bf, (y 0)]]
def r130 : List RA := [.c (.c (i 0)), .c (.c (i 8))]
theorem g130 : vcall (VN tb1) rounds 6 35 p130 = some r130 := by kernel_rfl
theorem s130 : Spec Go.Proofs.Tryz.prog 35 p130 r130 := fact tk1 g130
def p131 : List PA := [.a [(y 0), e, e, bf, e, (y 0), (i 0), (i 0), bf, (y 0), e, e, e, e]]
def r131 : List RA := [.c (.c (i 8))]
theorem g131 : vcall (VN tb1) rounds 6 58 p131 = some r131 := by kernel_rfl
theorem s131 : Spec Go.Proofs.Tryz.prog 58 p131 r131 := fact tk1 g131
def p137 : List PA := [.c (l [[(i 0)], [(i 1)]]), .a [(i 1), (i 2)]]
def r137 : List RA := [.c (.c bt)]
theorem g137 : vcall (VN tb1) rounds 6 187 p137 = some r137 := by kernel_rfl
theorem s137 : Spec Go.Proofs.Tryz.prog 187 p137 r137 := fact tk1 g137
def p138 : List PA := [.c (l [[(i 0)], [(i 1)]]), .a [(i 1), (i 3)]]
def r138 : List RA := [.c (.c bt)]
theorem g138 : vcall (VN tb1) rounds 6 187 p138 = some r138 := by kernel_rfl
theorem s138 : Spec Go.Proofs.Tryz.prog 187 p138 r138 := fact tk1 g138
def p145 : List PA := [.a [(y 1), (i 0), (i 0), e, e, e, m4, e, e]]
def r145 : List RA := [.c (.c (i 0))]
theorem g145 : vcall (VN tb1) rounds 6 153 p145 = some r145 := by kernel_rfl
theorem s145 : Spec Go.Proofs.Tryz.prog 153 p145 r145 := fact tk1 g145
def p149 : List PA := [.a [(y 2), (i 0), (i 0), e, (l [[(i (-9223372036854775808))]]), e, e, e, e]]
def r149 : List RA := [.c (.c (i 0))]
theorem g149 : vcall (VN tb1) rounds 6 153 p149 = some r149 := by kernel_rfl
theorem s149 : Spec Go.Proofs.Tryz.prog 153 p149 r149 := fact tk1 g149
def p152 : List PA := [.c (i 2), .c (i 1), .q [m6, m7]]
def r152 : List RA := [.c (.c (i 1))]
theorem g152 : vcall (VN tb1) rounds 6 155 p152 = some r152 := by kernel_rfl
theorem s152 : Spec Go.Proofs.Tryz.prog 155 p152 r152 := fact tk1 g152
def p154 : List PA := [.a [(y 3), (i 0), (i 0), e, e, e, e, e, e]]
def r154 : List RA := [.c (.c (i 0))]
theorem g154 : vcall (VN tb1) rounds 6 153 p154 = some r154 := by kernel_rfl
theorem s154 : Spec Go.Proofs.Tryz.prog 153 p154 r154 := fact tk1 g154
def p156 : List PA := [.c (i 4), .c (i 3), .q [m6, m7]]
def r156 : List RA := [.c (.c (i 1))]
theorem g156 : vcall (VN tb1) rounds 6 155 p156 = some r156 := by kernel_rfl
theorem s156 : Spec Go.Proofs.Tryz.prog 155 p156 r156 := fact tk1 g156
def p159 : List PA := [.a [(y 4), (i 0), (i 0), e, (l [[(i (-9223372036854775808))]]), e, e, e, e]]
def r159 : List RA := [.c (.c (i 0))]
theorem g159 : vcall (VN tb1) rounds 6 153 p159 = some r159 := by kernel_rfl
theorem s159 : Spec Go.Proofs.Tryz.prog 153 p159 r159 := fact tk1 g159
def p162 : List PA := [.a [(y 4), (i 1), (i 0), e, (l [[(i (-9223372036854775808))]]), e, e, e, e]]
def r162 : List RA := [.c (.c (i 0))]
theorem g162 : vcall (VN tb1) rounds 6 153 p162 = some r162 := by kernel_rfl
theorem s162 : Spec Go.Proofs.Tryz.prog 153 p162 r162 := fact tk1 g162
def p165 : List PA := [.a [(y 6), (i 0), (i 0), e, e, e, e, e, e]]
def r165 : List RA := [.c (.c (i 0))]
theorem g165 : vcall (VN tb1) rounds 6 153 p165 = some r165 := by kernel_rfl
theorem s165 : Spec Go.Proofs.Tryz.prog 153 p165 r165 := fact tk1 g165
def p166 : List PA := [.c (i 6), .c (i 5), .q [m6, m7]]
def r166 : List RA := [.c (.c (i 1))]
theorem g166 : vcall (VN tb1) rounds 6 117 p166 = some r166 := by kernel_rfl
theorem s166 : Spec Go.Proofs.Tryz.prog 117 p166 r166 := fact tk1 g166
def p169 : List PA := [.a [(y 7), (i 0), (i 0), e, e, e, e, e, e]]
def r169 : List RA := [.c (.c (i 0))]
theorem g169 : vcall (VN tb1) rounds 6 153 p169 = some r169 := by kernel_rfl
theorem s169 : Spec Go.Proofs.Tryz.prog 153 p169 r169 := fact tk1 g169
def p178 : List PA := [.a [(y 1), (i 0), (i 0), e, e, e, m11, e, e]]
def r178 : List RA := [.c (.c (i 0))]
theorem g178 : vcall (VN tb1) rounds 6 153 p178 = some r178 := by kernel_rfl
theorem s178 : Spec Go.Proofs.Tryz.prog 153 p178 r178 := fact tk1 g178
def p188 : List PA := [.a [(y 1), (i 0), (i 0), m10, e, e, m11, e, e]]
def r188 : List RA := [.c (.c (i 0))]
theorem g188 : vcall (VN tb1) rounds 6 153 p188 = some r188 := by kernel_rfl
theorem s188 : Spec Go.Proofs.Tryz.prog 153 p188 r188 := fact tk1 g188
def p204 : List PA := [.c (s [115, 101, 108, 101, 99, 116, 32, 99, 111, 117, 110, 116, 40, 42, 41, 32, 102, 114, 111, 109, 32, 97, 32, 119, 105, 110, 100, 111, 119, 32, 116, 117, 109, 98, 108, 101, 32, 53])]
def r204 : List RA := [.a [.c (y 2), .c (s [115, 101, 108, 101, 99, 116]), .c (i 0)]]
theorem g204 : vcall (VN tb1) rounds 6 135 p204 = some r204 := by kernel_rfl
theorem s204 : Spec Go.Proofs.Tryz.prog 135 p204 r204 := fact tk1 g204
def p205 : List PA := [.c (s [99, 111, 117, 110, 116, 40, 42, 41, 32, 102, 114, 111, 109, 32, 97, 32, 119, 105, 110, 100, 111, 119, 32, 116, 117, 109, 98, 108, 101, 32, 53])]
def r205 : List RA := [.a [.c (y 2), .c (s [99, 111, 117, 110, 116]), .c (i 0)]]
theorem g205 : vcall (VN tb1) rounds 6 135 p205 = some r205 := by kernel_rfl
theorem s205 : Spec Go.Proofs.Tryz.prog 135 p205 r205 := fact tk1 g205
def p207 : List PA := [.c (s [40, 42, 41, 32, 102, 114, 111, 109, 32, 97, 32, 119, 105, 110, 100, 111, 119, 32, 116, 117, 109, 98, 108, 101, 32, 53]), .c (i 0)]
def r207 : List RA := [.c (.c (i 1)), .c (.c (i 0))]
theorem g207 : vcall (VN tb1) rounds 6 171 p207 = some r207 := by kernel_rfl
theorem s207 : Spec Go.Proofs.Tryz.prog 171 p207 r207 := fact tk1 g207
def p210 : List PA := [.c (s [42, 41, 32, 102, 114, 111, 109, 32, 97, 32, 119, 105, 110, 100, 111, 119, 32, 116, 117, 109, 98, 108, 101, 32, 53]), .c (i 0)]
def r210 : List RA := [.c (.c (i 1)), .c (.c (i 0))]
theorem g210 : vcall (VN tb1) rounds 6 171 p210 = some r210 := by kernel_rfl
theorem s210 : Spec Go.Proofs.Tryz.prog 171 p210 r210 := fact tk1 g210
def p212 : List PA := [.c (s [42]), .c (i 0)]
def r212 : List RA := [.c (.c (i 1)), .c (.c (i 0))]
theorem g212 : vcall (VN tb1) rounds 6 171 p212 = some r212 := by kernel_rfl
theorem s212 : Spec Go.Proofs.Tryz.prog 171 p212 r212 := fact tk1 g212
def p213 : List PA := [.c (s [41, 32, 102, 114, 111, 109, 32, 97, 32, 119, 105, 110, 100, 111, 119, 32, 116, 117, 109, 98, 108, 101, 32, 53]), .c (i 0)]
def r213 : List RA := [.c (.c (i 1)), .c (.c (i 0))]
theorem g213 : vcall (VN tb1) rounds 6 171 p213 = some r213 := by kernel_rfl
theorem s213 : Spec Go.Proofs.Tryz.prog 171 p213 r213 := fact tk1 g213
def p215 : List PA := [.c (s [102, 114, 111, 109, 32, 97, 32, 119, 105, 110, 100, 111, 119, 32, 116, 117, 109, 98, 108, 101, 32, 53])]
def r215 : List RA := [.a [.c (y 2), .c (s [102, 114, 111, 109]), .c (i 0)]]
theorem g215 : vcall (VN tb1) rounds 6 135 p215 = some r215 := by kernel_rfl
theorem s215 : Spec Go.Proofs.Tryz.prog 135 p215 r215 := fact tk1 g215
def p216 : List PA := [.c (s [97, 32, 119, 105, 110, 100, 111, 119, 32, 116, 117, 109, 98, 108, 101, 32, 53])]
def r216 : List RA := [.a [.c (y 2), .c (s [97]), .c (i 0)]]
theorem g216 : vcall (VN tb1) rounds 6 135 p216 = some r216 := by kernel_rfl
theorem s216 : Spec Go.Proofs.Tryz.prog 135 p216 r216 := fact tk1 g216
def p217 : List PA := [.c (s [119, 105, 110, 100, 111, 119, 32, 116, 117, 109, 98, 108, 101, 32, 53])]
def r217 : List RA := [.a [.c (y 2), .c (s [119, 105, 110, 100, 111, 119]), .c (i 0)]]
theorem g217 : vcall (VN tb1) rounds 6 135 p217 = some r217 := by kernel_rfl
theorem s217 : Spec Go.Proofs.Tryz.prog 135 p217 r217 := fact tk1 g217
def p218 : List PA := [.c (s [116, 117, 109, 98, 108, 101, 32, 53])]
def r218 : List RA := [.a [.c (y 2), .c (s [116, 117, 109, 98, 108, 101]), .c (i 0)]]
theorem g218 : vcall (VN tb1) rounds 6 135 p218 = some r218 := by kernel_rfl
theorem s218 : Spec Go.Proofs.Tryz.prog 135 p218 r218 := fact tk1 g218
def p221 : List PA := [.c (s [53])]
def r221 : List RA := [.a [.c (y 1), .c (s [53]), .c (i 0)]]
theorem g221 : vcall (VN tb1) rounds 6 135 p221 = some r221 := by kernel_rfl
theorem s221 : Spec Go.Proofs.Tryz.prog 135 p221 r221 := fact tk1 g221
def p223 : List PA := [.c (s [53]), .c (s [48, 49, 50, 51, 52, 53, 54, 55, 56, 57])]
def r223 : List RA := [.c (.c (s []))]
theorem g223 : vcall (VN tb1) rounds 6 218 p223 = some r223 := by kernel_rfl
theorem s223 : Spec Go.Proofs.Tryz.prog 218 p223 r223 := fact tk1 g223
def p225 : List PA := [.c (s [53]), .c (i 10), .c (i 64)]
def r225 : List RA := [.c (.c (i 5)), .c (.e false)]
theorem g225 : vcall (VN tb1) rounds 6 257 p225 = some r225 := by kernel_rfl
theorem s225 : Spec Go.Proofs.Tryz.prog 257 p225 r225 := fact tk1 g225
def p236 : List PA := [.a [(y 1), e, (l [[(i 0)]]), bf, e, (y 1), (i 5), (i 0), bf, (y 1)]]
def r236 : List RA := [.a [.c m16, .c (y 1), .c e, .c (l [[(i 0)]]), .c bf, .c e, .c (y 1), .c (i 5), .c (i 0), .c bf, .c (y 1)], .c (.c (i 0))]
theorem g236 : vcall (VN tb1) rounds 6 43 p236 = some r236 := by kernel_rfl
theorem s236 : Spec Go.Proofs.Tryz.prog 43 p236 r236 := fact tk1 g236
def p238 : List PA := [.a [m16, (y 1), e, (l [[(i 0)]]), bf, e, (y 1), (i 5), (i 0), bf, (y 1)], .c (i 2), .c (i 1)]
def r238 : List RA := [.a [.c m17, .c m18], .c (.c (i 0))]
theorem g238 : vcall (VN tb1) rounds 6 44 p238 = some r238 := by kernel_rfl
theorem s238 : Spec Go.Proofs.Tryz.prog 44 p238 r238 := fact tk1 g238
def p245 : List PA := [.a [m17, m18]]
def r245 : List RA := [.c (.c bt)]
theorem g245 : vcall (VN tb1) rounds 6 151 p245 = some r245 := by kernel_rfl
theorem s245 : Spec Go.Proofs.Tryz.prog 151 p245 r245 := fact tk1 g245
def p247 : List PA := [.a [(y 1), (i 0), (i 0), e, e, e, e, e, e]]
def r247 : List RA := [.c (.c (i 0))]
theorem g247 : vcall (VN tb1) rounds 6 153 p247 = some r247 := by kernel_rfl
theorem s247 : Spec Go.Proofs.Tryz.prog 153 p247 r247 := fact tk1 g247
def tb2 : List (FuncId × List PA × List RA) := [(135, p6, r6), (135, p11, r11), (171, p13, r13), (171, p15, r15), (135, p18, r18), (171, p20, r20), (171, p22, r22), (135, p26, r26), (135, p29, r29), (135, p35, r35), (135, p37, r37), (135, p41, r41), (218, p45, r45), (257, p47, r47), (135, p50, r50), (135, p53, r53), (218, p55, r55), (257, p57, r57), (135, p60, r60), (135, p63, r63), (135, p65, r65), (135, p67, r67), (43, p95, r95), (44, p97, r97), (135, p107, r107), (135, p108, r108), (171, p109, r109), (135, p111, r111), (171, p112, r112), (135, p114, r114), (135, p115, r115), (135, p116, r116), (135, p117, r117), (135, p118, r118), (135, p119, r119), (135, p120, r120), (35, p126, r126), (35, p128, r128), (35, p130, r130), (58, p131, r131), (187, p137, r137), (187, p138, r138), (153, p145, r145), (153, p149, r149), (155, p152, r152), (153, p154, r154), (155, p156, r156), (153, p159, r159), (153, p162, r162), (153, p165, r165), (117, p166, r166), (153, p169, r169), (153, p178, r178), (153, p188, r188), (135, p204, r204), (135, p205, r205), (171, p207, r207), (171, p210, r210), (171, p212, r212), (171, p213, r213), (135, p215, r215), (135, p216, r216), (135, p217, r217), (135, p218, r218), (135, p221, r221), (218, p223, r223), (257, p225, r225), (43, p236, r236), (44, p238, r238), (151, p245, r245), (153, p247, r247)] ++ tb1
theorem tk2 : TOK Go.Proofs.Tryz.prog tb2 := TOK.app (l := [(135, p6, r6), (135, p11, r11), (171, p13, r13), (171, p15, r15), (135, p18, r18), (171, p20, r20), (171, p22, r22), (135, p26, r26), (135, p29, r29), (135, p35, r35), (135, p37, r37), (135, p41, r41), (218, p45, r45), (257, p47, r47), (135, p50, r50), (135, p53, r53), (218, p55, r55), (257, p57, r57), (135, p60, r60), (135, p63, r63), (135, p65, r65), (135, p67, r67), (43, p95, r95), (44, p97, r97), (135, p107, r107), (135, p108, r108), (171, p109, r109), (135, p111, r111), (171, p112, r112), (135, p114, r114), (135, p115, r115), (135, p116, r116), (135, p117, r117), (135, p118, r118), (135, p119, r119), (135, p120, r120), (35, p126, r126), (35, p128, r128), (35, p130, r130), (58, p131, r131), (187, p137, r137), (187, p138, r138), (153, p145, r145), (153, p149, r149), (155, p152, r152), (153, p154, r154), (155, p156, r156), (153, p159, r159), (153, p162, r162), (153, p165, r165), (117, p166, r166), (153, p169, r169), (153, p178, r178), (153, p188, r188), (135, p204, r204), (135, p205, r205), (171, p207, r207), (171, p210, r210), (171, p212, r212), (171, p213, r213), (135, p215, r215), (135, p216, r216), (135, p217, r217), (135, p218, r218), (135, p221, r221), (218, p223, r223), (257, p225, r225), (43, p236, r236), (44, p238, r238), (151, p245, r245), (153, p247, r247)]) ⟨s6, s11, s13, s15, s18, s20, s22, s26, s29, s35, s37, s41, s45, s47, s50, s53, s55, s57, s60, s63, s65, s67, s95, s97, s107, s108, s109, s111, s112, s114, s115, s116, s117, s118, s119, s120, s126, s128, s130, s131, s137, s138, s145, s149, s152, s154, s156, s159, s162, s165, s166, s169, s178, s188, s204, s205, s207, s210, s212, s213, s215, s216, s217, s218, s221, s223, s225, s236, s238, s245, s247, trivial⟩ tk1
def p14 : List PA := [.c (s [40, 118, 41, 32, 102, 114, 111, 109, 32, 97, 32, 119, 105, 110, 100, 111, 119, 32, 115, 108, 105, 100, 101, 32, 49, 48, 32, 101, 118, 101, 114, 121, 32, 52, 32, 98, 121, 32, 107, 101, 121, 32, 108, 97, 116, 101, 32, 115, 105, 100, 101])]
def r14 : List RA := [.a [.c (y 3), .c (s [40]), .c (i 0)]]
theorem g14 : vcall (VN tb2) rounds 6 135 p14 = some r14 := by kernel_rfl
theorem s14 : Spec Go.Proofs.Tryz.prog 135 p14 r14 := fact tk2 g14
def p21 : List PA := [.c (s [41, 32, 102, 114, 111, 109, 32, 97, 32, 119, 105, 110, 100, 111, 119, 32, 115, 108, 105, 100, 101, 32, 49, 48, 32, 101, 118, 101, 114, 121, 32, 52, 32, 98, 121, 32, 107, 101, 121, 32, 108, 97, 116, 101, 32, 115, 105, 100, 101])]
def r21 : List RA := [.a [.c (y 3), .c (s [41]), .c (i 0)]]
theorem g21 : vcall (VN tb2) rounds 6 135 p21 = some r21 := by kernel_rfl
theorem s21 : Spec Go.Proofs.Tryz.prog 135 p21 r21 := fact tk2 g21
def p48 : List PA := [.c (s [49, 48]), .c (i 10), .c (i 64)]
def r48 : List RA := [.c (.c (i 10)), .c (.e false)]
theorem g48 : vcall (VN tb2) rounds 6 219 p48 = some r48 := by kernel_rfl
theorem s48 : Spec Go.Proofs.Tryz.prog 219 p48 r48 := fact tk2 g48
def p58 : List PA := [.c (s [52]), .c (i 10), .c (i 64)]
def r58 : List RA := [.c (.c (i 4)), .c (.e false)]
theorem g58 : vcall (VN tb2) rounds 6 219 p58 = some r58 := by kernel_rfl
theorem s58 : Spec Go.Proofs.Tryz.prog 219 p58 r58 := fact tk2 g58
def p105 : List PA := [.a [(y 2), m2, (l [[(i 0)]]), bf, e, (y 2), (i 10), (i 4), bt, (y 2)], .c m5, .c (i 2), .c (i 1)]
def r105 : List RA := [.a [.c (y 2), .c m2, .c (l [[(i 0)]]), .c bf, .c e, .c (y 2), .c (i 10), .c (i 4), .c bt, .c (y 2), .c m6, .c m7, .c m8, .c m9], .c (.c (i 0))]
theorem g105 : vcall (VN tb2) rounds 6 9 p105 = some r105 := by kernel_rfl
theorem s105 : Spec Go.Proofs.Tryz.prog 9 p105 r105 := fact tk2 g105
def p110 : List PA := [.c (s [40, 118, 41, 32, 102, 114, 111, 109, 32, 97, 32, 119, 105, 110, 100, 111, 119, 32, 115, 108, 105, 100, 101, 32, 49, 48, 32, 101, 118, 101, 114, 121, 32, 52])]
def r110 : List RA := [.a [.c (y 3), .c (s [40]), .c (i 0)]]
theorem g110 : vcall (VN tb2) rounds 6 135 p110 = some r110 := by kernel_rfl
theorem s110 : Spec Go.Proofs.Tryz.prog 135 p110 r110 := fact tk2 g110
def p113 : List PA := [.c (s [41, 32, 102, 114, 111, 109, 32, 97, 32, 119, 105, 110, 100, 111, 119, 32, 115, 108, 105, 100, 101, 32, 49, 48, 32, 101, 118, 101, 114, 121, 32, 52])]
def r113 : List RA := [.a [.c (y 3), .c (s [41]), .c (i 0)]]
theorem g113 : vcall (VN tb2) rounds 6 135 p113 = some r113 := by kernel_rfl
theorem s113 : Spec Go.Proofs.Tryz.prog 135 p113 r113 := fact tk2 g113
def p132 : List PA := [.a [(y 0), e, e, bf, e, (y 0), (i 0), (i 0), bf, (y 0), e, e, e, e]]
def r132 : List RA := [.c (.c e), .c (.c e), .c (.c (i 8))]
theorem g132 : vcall (VN tb2) rounds 6 36 p132 = some r132 := by kernel_rfl
theorem s132 : Spec Go.Proofs.Tryz.prog 36 p132 r132 := fact tk2 g132
def p140 : List PA := [.a [m6, m7]]
def r140 : List RA := [.c (.c bt)]
theorem g140 : vcall (VN tb2) rounds 6 151 p140 = some r140 := by kernel_rfl
theorem s140 : Spec Go.Proofs.Tryz.prog 151 p140 r140 := fact tk2 g140
def p153 : List PA := [.a [m6, m7], .c (i 1)]
def r153 : List RA := [.c (.c (l [[(i 1)], [(i 2)]]))]
theorem g153 : vcall (VN tb2) rounds 6 109 p153 = some r153 := by kernel_rfl
theorem s153 : Spec Go.Proofs.Tryz.prog 109 p153 r153 := fact tk2 g153
def p157 : List PA := [.a [m6, m7], .c (i 2)]
def r157 : List RA := [.c (.c (l [[(i 3)], [(i 4)]]))]
theorem g157 : vcall (VN tb2) rounds 6 109 p157 = some r157 := by kernel_rfl
theorem s157 : Spec Go.Proofs.Tryz.prog 109 p157 r157 := fact tk2 g157
def p167 : List PA := [.a [m6, m7], .c (i 5)]
def r167 : List RA := [.c (.c (l [[(i 5)], [(i 6)]]))]
theorem g167 : vcall (VN tb2) rounds 6 72 p167 = some r167 := by kernel_rfl
theorem s167 : Spec Go.Proofs.Tryz.prog 72 p167 r167 := fact tk2 g167
def p177 : List PA := [.a [(y 1), (i 0), (i 0), e, e, e, m4, e, e], .c e, .c (l [[(i 1), e]])]
def r177 : List RA := [.c (.c bt), .c (.c (i 0))]
theorem g177 : vcall (VN tb2) rounds 6 108 p177 = some r177 := by kernel_rfl
theorem s177 : Spec Go.Proofs.Tryz.prog 108 p177 r177 := fact tk2 g177
def p179 : List PA := [.a [(y 1), (i 0), (i 0), e, e, e, m4, e, e], .c e]
def r179 : List RA := [.a [.c (y 1), .c (i 0), .c (i 0), .s 156 11 [], .s 2 1 [], .s 212 11 [], .s 34 5 [[bf, (i 0), (i 0), (i 3), (i 0)], [bt, (i 9223372036854775807), (i 0), (i 0), (i 0)]], .s 92 5 [], .s 32 3 []], .c (.c (i 0))]
theorem g179 : vcall (VN tb2) rounds 6 157 p179 = some r179 := by kernel_rfl
theorem s179 : Spec Go.Proofs.Tryz.prog 157 p179 r179 := fact tk2 g179
def p180 : List PA := [.a [(y 2), (i 0), (i 0), e, (l [[(i (-9223372036854775808))]]), e, e, e, e], .c e]
def r180 : List RA := [.a [.c (y 2), .c (i 0), .c (i 0), .s 156 11 [], .s 2 1 [[(i (-9223372036854775808))]], .s 212 11 [], .s 34 5 [], .s 92 5 [], .s 32 3 []], .c (.c (i 0))]
theorem g180 : vcall (VN tb2) rounds 6 157 p180 = some r180 := by kernel_rfl
theorem s180 : Spec Go.Proofs.Tryz.prog 157 p180 r180 := fact tk2 g180
def p181 : List PA := [.a [(y 3), (i 0), (i 0), e, e, e, e, e, e], .c e]
def r181 : List RA := [.a [.c (y 3), .c (i 0), .c (i 0), .s 156 11 [], .s 2 1 [], .s 212 11 [], .s 34 5 [], .s 92 5 [], .s 32 3 []], .c (.c (i 0))]
theorem g181 : vcall (VN tb2) rounds 6 157 p181 = some r181 := by kernel_rfl
theorem s181 : Spec Go.Proofs.Tryz.prog 157 p181 r181 := fact tk2 g181
def p182 : List PA := [.a [(y 4), (i 0), (i 0), e, (l [[(i (-9223372036854775808))]]), e, e, e, e], .c e]
def r182 : List RA := [.a [.c (y 4), .c (i 0), .c (i 0), .s 156 11 [], .s 2 1 [[(i (-9223372036854775808))]], .s 212 11 [], .s 34 5 [], .s 92 5 [], .s 32 3 []], .c (.c (i 0))]
theorem g182 : vcall (VN tb2) rounds 6 157 p182 = some r182 := by kernel_rfl
theorem s182 : Spec Go.Proofs.Tryz.prog 157 p182 r182 := fact tk2 g182
def p183 : List PA := [.a [(y 4), (i 1), (i 0), e, (l [[(i (-9223372036854775808))]]), e, e, e, e], .c e]
def r183 : List RA := [.a [.c (y 4), .c (i 1), .c (i 0), .s 156 11 [], .s 2 1 [[(i (-9223372036854775808))]], .s 212 11 [], .s 34 5 [], .s 92 5 [], .s 32 3 []], .c (.c (i 0))]
theorem g183 : vcall (VN tb2) rounds 6 157 p183 = some r183 := by kernel_rfl
theorem s183 : Spec Go.Proofs.Tryz.prog 157 p183 r183 := fact tk2 g183
def p184 : List PA := [.a [(y 6), (i 0), (i 0), e, e, e, e, e, e], .c e]
def r184 : List RA := [.a [.c (y 6), .c (i 0), .c (i 0), .s 156 11 [], .s 2 1 [], .s 212 11 [], .s 34 5 [], .s 92 5 [], .s 32 3 []], .c (.c (i 0))]
theorem g184 : vcall (VN tb2) rounds 6 157 p184 = some r184 := by kernel_rfl
theorem s184 : Spec Go.Proofs.Tryz.prog 157 p184 r184 := fact tk2 g184
def p185 : List PA := [.a [(y 7), (i 0), (i 0), e, e, e, e, e, e], .c e]
def r185 : List RA := [.a [.c (y 7), .c (i 0), .c (i 0), .s 156 11 [], .s 2 1 [], .s 212 11 [], .s 34 5 [], .s 92 5 [], .s 32 3 []], .c (.c (i 0))]
theorem g185 : vcall (VN tb2) rounds 6 157 p185 = some r185 := by kernel_rfl
theorem s185 : Spec Go.Proofs.Tryz.prog 157 p185 r185 := fact tk2 g185
def p192 : List PA := [.a [(y 1), (i 0), (i 0), m10, e, e, m11, e, e], .c e, .c (l [[(i 1), e]])]
def r192 : List RA := [.c (.c bt), .c (.c (i 0))]
theorem g192 : vcall (VN tb2) rounds 6 108 p192 = some r192 := by kernel_rfl
theorem s192 : Spec Go.Proofs.Tryz.prog 108 p192 r192 := fact tk2 g192
def p194 : List PA := [.a [(y 1), (i 0), (i 0), m10, e, e, m11, e, e], .c (l [[(i 1), e]])]
def r194 : List RA := [.a [.c (y 1), .c (i 0), .c (i 0), .c e, .s 2 1 [], .s 212 11 [], .s 34 5 [[bt, (i 9223372036854775807), (i 0), (i 0), (i 0)]], .s 92 5 [], .s 32 3 []], .c (.s 59 2 [[(i 1), m14]]), .c (.c (i 0))]
theorem g194 : vcall (VN tb2) rounds 6 110 p194 = some r194 := by kernel_rfl
theorem s194 : Spec Go.Proofs.Tryz.prog 110 p194 r194 := fact tk2 g194
def p195 : List PA := [.a [(y 1), (i 0), (i 0), m10, e, e, m11, e, e], .c e]
def r195 : List RA := [.a [.c (y 1), .c (i 0), .c (i 0), .s 156 11 [[(i 0), (y 1), (i 0), (i 3), (i 0), (i 0), (i 0), (i 0), (i 0), (i 0), (i 0)]], .s 2 1 [], .s 212 11 [], .s 34 5 [[bt, (i 9223372036854775807), (i 0), (i 0), (i 0)]], .s 92 5 [], .s 32 3 []], .c (.c (i 0))]
theorem g195 : vcall (VN tb2) rounds 6 157 p195 = some r195 := by kernel_rfl
theorem s195 : Spec Go.Proofs.Tryz.prog 157 p195 r195 := fact tk2 g195
def p208 : List PA := [.c (s [40, 42, 41, 32, 102, 114, 111, 109, 32, 97, 32, 119, 105, 110, 100, 111, 119, 32, 116, 117, 109, 98, 108, 101, 32, 53])]
def r208 : List RA := [.a [.c (y 3), .c (s [40]), .c (i 0)]]
theorem g208 : vcall (VN tb2) rounds 6 135 p208 = some r208 := by kernel_rfl
theorem s208 : Spec Go.Proofs.Tryz.prog 135 p208 r208 := fact tk2 g208
def p211 : List PA := [.c (s [42, 41, 32, 102, 114, 111, 109, 32, 97, 32, 119, 105, 110, 100, 111, 119, 32, 116, 117, 109, 98, 108, 101, 32, 53])]
def r211 : List RA := [.a [.c (y 3), .c (s [42]), .c (i 0)]]
theorem g211 : vcall (VN tb2) rounds 6 135 p211 = some r211 := by kernel_rfl
theorem s211 : Spec Go.Proofs.Tryz.prog 135 p211 r211 := fact tk2 g211
def p214 : List PA := [.c (s [41, 32, 102, 114, 111, 109, 32, 97, 32, 119, 105, 110, 100, 111, 119, 32, 116, 117, 109, 98, 108, 101, 32, 53])]
def r214 : List RA := [.a [.c (y 3), .c (s [41]), .c (i 0)]]
theorem g214 : vcall (VN tb2) rounds 6 135 p214 = some r214 := by kernel_rfl
theorem s214 : Spec Go.Proofs.Tryz.prog 135 p214 r214 := fact tk2 g214
def p226 : List PA := [.c (s [53]), .c (i 10), .c (i 64)]
def r226 : List RA := [.c (.c (i 5)), .c (.e false)]
theorem g226 : vcall (VN tb2) rounds 6 219 p226 = some r226 := by kernel_rfl
theorem s226 : Spec Go.Proofs.Tryz.prog 219 p226 r226 := fact tk2 g226
def m19 : PV := l [[(y 1), (i 0), (i 0), e, e, e, e, e, e], [(y 2), (i 0), (i 0), e, (l [[(i (-9223372036854775808))]]), e, e, e, e], [(y 4), (i 0), (i 0), e, (l [[(i (-9223372036854775808))]]), e, e, e, e], [(y 6), (i 0), (i 0), e, e, e, e, e, e]]
def m20 : PV := l [[(i 1), e], [(i 1), e], [(i 1), e]]
def p241 : List PA := [.a [(y 1), e, (l [[(i 0)]]), bf, e, (y 1), (i 5), (i 0), bf, (y 1)], .c (l [[e]]), .c (i 2), .c (i 1)]
def r241 : List RA := [.a [.c (y 1), .c e, .c (l [[(i 0)]]), .c bf, .c e, .c (y 1), .c (i 5), .c (i 0), .c bf, .c (y 1), .c m17, .c m18, .c m19, .c m20], .c (.c (i 0))]
theorem g241 : vcall (VN tb2) rounds 6 9 p241 = some r241 := by kernel_rfl
theorem s241 : Spec Go.Proofs.Tryz.prog 9 p241 r241 := fact tk2 g241
def p246 : List PA := [.a [m17, m18]]
def r246 : List RA := [.c (.c (i 0))]
theorem g246 : vcall (VN tb2) rounds 6 102 p246 = some r246 := by kernel_rfl
theorem s246 : Spec Go.Proofs.Tryz.prog 102 p246 r246 := fact tk2 g246
def tb3 : List (FuncId × List PA × List RA) := [(135, p14, r14), (135, p21, r21), (219, p48, r48), (219, p58, r58), (9, p105, r105), (135, p110, r110), (135, p113, r113), (36, p132, r132), (151, p140, r140), (109, p153, r153), (109, p157, r157), (72, p167, r167), (108, p177, r177), (157, p179, r179), (157, p180, r180), (157, p181, r181), (157, p182, r182), (157, p183, r183), (157, p184, r184), (157, p185, r185), (108, p192, r192), (110, p194, r194), (157, p195, r195), (135, p208, r208), (135, p211, r211), (135, p214, r214), (219, p226, r226), (9, p241, r241), (102, p246, r246)] ++ tb2
theorem tk3 : TOK Go.Proofs.Tryz.prog tb3 := TOK.app (l := [(135, p14, r14), (135, p21, r21), (219, p48, r48), (219, p58, r58), (9, p105, r105), (135, p110, r110), (135, p113, r113), (36, p132, r132), (151, p140, r140), (109, p153, r153), (109, p157, r157), (72, p167, r167), (108, p177, r177), (157, p179, r179), (157, p180, r180), (157, p181, r181), (157, p182, r182), (157, p183, r183), (157, p184, r184), (157, p185, r185), (108, p192, r192), (110, p194, r194), (157, p195, r195), (135, p208, r208), (135, p211, r211), (135, p214, r214), (219, p226, r226), (9, p241, r241), (102, p246, r246)]) ⟨s14, s21, s48, s58, s105, s110, s113, s132, s140, s153, s157, s167, s177, s179, s180, s181, s182, s183, s184, s185, s192, s194, s195, s208, s211, s214, s226, s241, s246, trivial⟩ tk2
def m21 : PV := l [[(y 2), (s [115, 101, 108, 101, 99, 116]), (i 0)], [(y 2), (s [115, 117, 109]), (i 7)], [(y 3), (s [40]), (i 10)], [(y 2), (s [118]), (i 11)], [(y 3), (s [41]), (i 12)], [(y 2), (s [102, 114, 111, 109]), (i 14)], [(y 2), (s [97]), (i 19)], [(y 2), (s [119, 105, 110, 100, 111, 119]), (i 21)], [(y 2), (s [115, 108, 105, 100, 101]), (i 28)], [(y 1), (s [49, 48]), (i 34)], [(y 2), (s [101, 118, 101, 114, 121]), (i 37)], [(y 1), (s [52]), (i 43)], [(y 2), (s [98, 121]), (i 45)], [(y 2), (s [107, 101, 121]), (i 48)], [(y 2), (s [108, 97, 116, 101]), (i 52)], [(y 2), (s [115, 105, 100, 101]), (i 57)]]
def p69 : List PA := [.c (s [115, 101, 108, 101, 99, 116, 32, 115, 117, 109, 40, 118, 41, 32, 102, 114, 111, 109, 32, 97, 32, 119, 105, 110, 100, 111, 119, 32, 115, 108, 105, 100, 101, 32, 49, 48, 32, 101, 118, 101, 114, 121, 32, 52, 32, 98, 121, 32, 107, 101, 121, 32, 108, 97, 116, 101, 32, 115, 105, 100, 101])]
def r69 : List RA := [.c (.c m21), .c (.c (i 61)), .c (.c (i 0))]
theorem g69 : vcall (VN tb3) rounds 6 86 p69 = some r69 := by kernel_rfl
theorem s69 : Spec Go.Proofs.Tryz.prog 86 p69 r69 := fact tk3 g69
end Tn.Bo
