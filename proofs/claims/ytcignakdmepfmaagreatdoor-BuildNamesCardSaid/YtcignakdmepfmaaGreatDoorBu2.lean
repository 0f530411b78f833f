import Derived.Test.YtcignakdmepfmaaGreatDoorBu1
/- Closed facts of one run, each by the kernel. -/
set_option linter.unusedVariables false
namespace Tn.Bu
open Go Go.Abs Tn
def p45 : List PA := [.c (y 53)]
def r45 : List RA := [.c (.c (y 2))]
theorem g45 : vcall (VN tb0) rounds 6 134 p45 = some r45 := by kernel_rfl
theorem s45 : Spec Go.Proofs.Tryz.prog 134 p45 r45 := fact tk0 g45
def p47 : List PA := [.c (s [48, 49, 50, 51, 52, 53, 54, 55, 56, 57])]
def r47 : List RA := [.a [.c bf, .c bf, .c bf, .c bf, .c bf, .c bf, .c bf, .c bf, .c bf, .c bf, .c bf, .c bf, .c bf, .c bf, .c bf, .c bf, .c bf, .c bf, .c bf, .c bf, .c bf, .c bf, .c bf, .c bf, .c bf, .c bf, .c bf, .c bf, .c bf, .c bf, .c bf, .c bf, .c bf, .c bf, .c bf, .c bf, .c bf, .c bf, .c bf, .c bf, .c bf, .c bf, .c bf, .c bf, .c bf, .c bf, .c bf, .c bf, .c bt, .c bt, .c bt, .c bt, .c bt, .c bt, .c bt, .c bt, .c bt, .c bt, .c bf, .c bf, .c bf, .c bf, .c bf, .c bf, .c bf, .c bf, .c bf, .c bf, .c bf, .c bf, .c bf, .c bf, .c bf, .c bf, .c bf, .c bf, .c bf, .c bf, .c bf, .c bf, .c bf, .c bf, .c bf, .c bf, .c bf, .c bf, .c bf, .c bf, .c bf, .c bf, .c bf, .c bf, .c bf, .c bf, .c bf, .c bf, .c bf, .c bf, .c bf, .c bf, .c bf, .c bf, .c bf, .c bf, .c bf, .c bf, .c bf, .c bf, .c bf, .c bf, .c bf, .c bf, .c bf, .c bf, .c bf, .c bf, .c bf, .c bf, .c bf, .c bf, .c bf, .c bf, .c bf, .c bf, .c bf, .c bf, .c bf, .c bf, .c bf, .c bf, .c bf, .c bf, .c bf, .c bf, .c bf, .c bf, .c bf, .c bf, .c bf, .c bf, .c bf, .c bf, .c bf, .c bf, .c bf, .c bf, .c bf, .c bf, .c bf, .c bf, .c bf, .c bf, .c bf, .c bf, .c bf, .c bf, .c bf, .c bf, .c bf, .c bf, .c bf, .c bf, .c bf, .c bf, .c bf, .c bf, .c bf, .c bf, .c bf, .c bf, .c bf, .c bf, .c bf, .c bf, .c bf, .c bf, .c bf, .c bf, .c bf, .c bf, .c bf, .c bf, .c bf, .c bf, .c bf, .c bf, .c bf, .c bf, .c bf, .c bf, .c bf, .c bf, .c bf, .c bf, .c bf, .c bf, .c bf, .c bf, .c bf, .c bf, .c bf, .c bf, .c bf, .c bf, .c bf, .c bf, .c bf, .c bf, .c bf, .c bf, .c bf, .c bf, .c bf, .c bf, .c bf, .c bf, .c bf, .c bf, .c bf, .c bf, .c bf, .c bf, .c bf, .c bf, .c bf, .c bf, .c bf, .c bf, .c bf, .c bf, .c bf, .c bf, .c bf, .c bf, .c bf, .c bf, .c bf, .c bf, .c bf, .c bf, .c bf, .c bf, .c bf, .c bf, .c bf, .c bf, .c bf, .c bf, .c bf, .c bf, .c bf, .c bf, .c bf, .c bf, .c bf, .c bf], .c (.c bt)]
theorem g47 : vcall (VN tb0) rounds 6 252 p47 = some r47 := by kernel_rfl
theorem s47 : Spec Go.Proofs.Tryz.prog 252 p47 r47 := fact tk0 g47
def p48 : List PA := [.c (s [53]), .q [bf, bf, bf, bf, bf, bf, bf, bf, bf, bf, bf, bf, bf, bf, bf, bf, bf, bf, bf, bf, bf, bf, bf, bf, bf, bf, bf, bf, bf, bf, bf, bf, bf, bf, bf, bf, bf, bf, bf, bf, bf, bf, bf, bf, bf, bf, bf, bf, bt, bt, bt, bt, bt, bt, bt, bt, bt, bt, bf, bf, bf, bf, bf, bf, bf, bf, bf, bf, bf, bf, bf, bf, bf, bf, bf, bf, bf, bf, bf, bf, bf, bf, bf, bf, bf, bf, bf, bf, bf, bf, bf, bf, bf, bf, bf, bf, bf, bf, bf, bf, bf, bf, bf, bf, bf, bf, bf, bf, bf, bf, bf, bf, bf, bf, bf, bf, bf, bf, bf, bf, bf, bf, bf, bf, bf, bf, bf, bf, bf, bf, bf, bf, bf, bf, bf, bf, bf, bf, bf, bf, bf, bf, bf, bf, bf, bf, bf, bf, bf, bf, bf, bf, bf, bf, bf, bf, bf, bf, bf, bf, bf, bf, bf, bf, bf, bf, bf, bf, bf, bf, bf, bf, bf, bf, bf, bf, bf, bf, bf, bf, bf, bf, bf, bf, bf, bf, bf, bf, bf, bf, bf, bf, bf, bf, bf, bf, bf, bf, bf, bf, bf, bf, bf, bf, bf, bf, bf, bf, bf, bf, bf, bf, bf, bf, bf, bf, bf, bf, bf, bf, bf, bf, bf, bf, bf, bf, bf, bf, bf, bf, bf, bf, bf, bf, bf, bf, bf, bf, bf, bf, bf, bf, bf, bf, bf, bf, bf, bf, bf, bf, bf, bf, bf, bf, bf, bf]]
def r48 : List RA := [.c (.c (s []))]
theorem g48 : vcall (VN tb0) rounds 6 254 p48 = some r48 := by kernel_rfl
theorem s48 : Spec Go.Proofs.Tryz.prog 254 p48 r48 := fact tk0 g48
def p49 : List PA := [.c (s []), .q [bf, bf, bf, bf, bf, bf, bf, bf, bf, bf, bf, bf, bf, bf, bf, bf, bf, bf, bf, bf, bf, bf, bf, bf, bf, bf, bf, bf, bf, bf, bf, bf, bf, bf, bf, bf, bf, bf, bf, bf, bf, bf, bf, bf, bf, bf, bf, bf, bt, bt, bt, bt, bt, bt, bt, bt, bt, bt, bf, bf, bf, bf, bf, bf, bf, bf, bf, bf, bf, bf, bf, bf, bf, bf, bf, bf, bf, bf, bf, bf, bf, bf, bf, bf, bf, bf, bf, bf, bf, bf, bf, bf, bf, bf, bf, bf, bf, bf, bf, bf, bf, bf, bf, bf, bf, bf, bf, bf, bf, bf, bf, bf, bf, bf, bf, bf, bf, bf, bf, bf, bf, bf, bf, bf, bf, bf, bf, bf, bf, bf, bf, bf, bf, bf, bf, bf, bf, bf, bf, bf, bf, bf, bf, bf, bf, bf, bf, bf, bf, bf, bf, bf, bf, bf, bf, bf, bf, bf, bf, bf, bf, bf, bf, bf, bf, bf, bf, bf, bf, bf, bf, bf, bf, bf, bf, bf, bf, bf, bf, bf, bf, bf, bf, bf, bf, bf, bf, bf, bf, bf, bf, bf, bf, bf, bf, bf, bf, bf, bf, bf, bf, bf, bf, bf, bf, bf, bf, bf, bf, bf, bf, bf, bf, bf, bf, bf, bf, bf, bf, bf, bf, bf, bf, bf, bf, bf, bf, bf, bf, bf, bf, bf, bf, bf, bf, bf, bf, bf, bf, bf, bf, bf, bf, bf, bf, bf, bf, bf, bf, bf, bf, bf, bf, bf, bf, bf]]
def r49 : List RA := [.c (.c (s []))]
theorem g49 : vcall (VN tb0) rounds 6 253 p49 = some r49 := by kernel_rfl
theorem s49 : Spec Go.Proofs.Tryz.prog 253 p49 r49 := fact tk0 g49
def p51 : List PA := [.c (s [53]), .c (i 10), .c (i 64)]
def r51 : List RA := [.c (.c (.int .u64 5)), .c (.e false)]
theorem g51 : vcall (VN tb0) rounds 6 290 p51 = some r51 := by kernel_rfl
theorem s51 : Spec Go.Proofs.Tryz.prog 290 p51 r51 := fact tk0 g51
def p54 : List PA := [.c (y 121)]
def r54 : List RA := [.c (.c (y 3))]
theorem g54 : vcall (VN tb0) rounds 6 134 p54 = some r54 := by kernel_rfl
theorem s54 : Spec Go.Proofs.Tryz.prog 134 p54 r54 := fact tk0 g54
def p56 : List PA := [.c (s [98, 121])]
def r56 : List RA := [.c (.c bt)]
theorem g56 : vcall (VN tb0) rounds 6 173 p56 = some r56 := by kernel_rfl
theorem s56 : Spec Go.Proofs.Tryz.prog 173 p56 r56 := fact tk0 g56
def p57 : List PA := [.c (y 107)]
def r57 : List RA := [.c (.c (y 3))]
theorem g57 : vcall (VN tb0) rounds 6 134 p57 = some r57 := by kernel_rfl
theorem s57 : Spec Go.Proofs.Tryz.prog 134 p57 r57 := fact tk0 g57
def p59 : List PA := [.c (s [107, 101, 121])]
def r59 : List RA := [.c (.c bt)]
theorem g59 : vcall (VN tb0) rounds 6 173 p59 = some r59 := by kernel_rfl
theorem s59 : Spec Go.Proofs.Tryz.prog 173 p59 r59 := fact tk0 g59
def p61 : List PA := [.c (s [108, 97, 116, 101])]
def r61 : List RA := [.c (.c bt)]
theorem g61 : vcall (VN tb0) rounds 6 173 p61 = some r61 := by kernel_rfl
theorem s61 : Spec Go.Proofs.Tryz.prog 173 p61 r61 := fact tk0 g61
def p63 : List PA := [.c (s [115, 105, 100, 101])]
def r63 : List RA := [.c (.c bt)]
theorem g63 : vcall (VN tb0) rounds 6 173 p63 = some r63 := by kernel_rfl
theorem s63 : Spec Go.Proofs.Tryz.prog 173 p63 r63 := fact tk0 g63
def p65 : List PA := [.c (l [[(s [115, 101, 108, 101, 99, 116])]]), .c (s [115, 101, 108, 101, 99, 116])]
def r65 : List RA := [.c (.c (i 0))]
theorem g65 : vcall (VN tb0) rounds 6 224 p65 = some r65 := by kernel_rfl
theorem s65 : Spec Go.Proofs.Tryz.prog 224 p65 r65 := fact tk0 g65
def m0 : PV := l [[(s [99, 111, 117, 110, 116])], [(s [115, 117, 109])], [(s [109, 105, 110])], [(s [109, 97, 120])]]
def p66 : List PA := [.c m0, .c (s [115, 117, 109])]
def r66 : List RA := [.c (.c (i 1))]
theorem g66 : vcall (VN tb0) rounds 6 224 p66 = some r66 := by kernel_rfl
theorem s66 : Spec Go.Proofs.Tryz.prog 224 p66 r66 := fact tk0 g66
def p67 : List PA := [.c (l [[(s [40])]]), .c (s [40])]
def r67 : List RA := [.c (.c (i 0))]
theorem g67 : vcall (VN tb0) rounds 6 224 p67 = some r67 := by kernel_rfl
theorem s67 : Spec Go.Proofs.Tryz.prog 224 p67 r67 := fact tk0 g67
def p68 : List PA := []
def r68 : List RA := [.c (.s 9 1 [[(s [42])], [(s [43])], [(s [45])], [(s [60, 60])], [(s [62, 62])], [(s [60])], [(s [60, 61])], [(s [62])], [(s [62, 61])], [(s [61])], [(s [33, 61])], [(s [97, 110, 100])], [(s [111, 114])]])]
theorem g68 : vcall (VN tb0) rounds 6 264 p68 = some r68 := by kernel_rfl
theorem s68 : Spec Go.Proofs.Tryz.prog 264 p68 r68 := fact tk0 g68
def p69 : List PA := [.c (l [[(s [42])], [(s [43])], [(s [45])], [(s [60, 60])], [(s [62, 62])], [(s [60])], [(s [60, 61])], [(s [62])], [(s [62, 61])], [(s [61])], [(s [33, 61])], [(s [97, 110, 100])], [(s [111, 114])]]), .c (s [41])]
def r69 : List RA := [.c (.c (i (-1)))]
theorem g69 : vcall (VN tb0) rounds 6 224 p69 = some r69 := by kernel_rfl
theorem s69 : Spec Go.Proofs.Tryz.prog 224 p69 r69 := fact tk0 g69
def p71 : List PA := [.c (l [[(s [41])]]), .c (s [41])]
def r71 : List RA := [.c (.c (i 0))]
theorem g71 : vcall (VN tb0) rounds 6 224 p71 = some r71 := by kernel_rfl
theorem s71 : Spec Go.Proofs.Tryz.prog 224 p71 r71 := fact tk0 g71
def p72 : List PA := [.c (l [[(s [102, 114, 111, 109])]]), .c (s [102, 114, 111, 109])]
def r72 : List RA := [.c (.c (i 0))]
theorem g72 : vcall (VN tb0) rounds 6 224 p72 = some r72 := by kernel_rfl
theorem s72 : Spec Go.Proofs.Tryz.prog 224 p72 r72 := fact tk0 g72
def p73 : List PA := [.c (l [[(s [97])], [(s [98])], [(s [99])], [(s [100])]]), .c (s [97])]
def r73 : List RA := [.c (.c (i 0))]
theorem g73 : vcall (VN tb0) rounds 6 224 p73 = some r73 := by kernel_rfl
theorem s73 : Spec Go.Proofs.Tryz.prog 224 p73 r73 := fact tk0 g73
def p74 : List PA := [.c (l [[(s [106, 111, 105, 110])]]), .c (s [106, 111, 105, 110])]
def r74 : List RA := [.c (.c (i 0))]
theorem g74 : vcall (VN tb0) rounds 6 224 p74 = some r74 := by kernel_rfl
theorem s74 : Spec Go.Proofs.Tryz.prog 224 p74 r74 := fact tk0 g74
def p75 : List PA := [.c (l [[(s [97])], [(s [98])], [(s [99])], [(s [100])]]), .c (s [98])]
def r75 : List RA := [.c (.c (i 1))]
theorem g75 : vcall (VN tb0) rounds 6 224 p75 = some r75 := by kernel_rfl
theorem s75 : Spec Go.Proofs.Tryz.prog 224 p75 r75 := fact tk0 g75
def p76 : List PA := [.c (l [[(s [119, 104, 101, 114, 101])]]), .c (s [119, 105, 110, 100, 111, 119])]
def r76 : List RA := [.c (.c (i (-1)))]
theorem g76 : vcall (VN tb0) rounds 6 224 p76 = some r76 := by kernel_rfl
theorem s76 : Spec Go.Proofs.Tryz.prog 224 p76 r76 := fact tk0 g76
def p77 : List PA := [.c (l [[(s [119, 105, 110, 100, 111, 119])]]), .c (s [119, 105, 110, 100, 111, 119])]
def r77 : List RA := [.c (.c (i 0))]
theorem g77 : vcall (VN tb0) rounds 6 224 p77 = some r77 := by kernel_rfl
theorem s77 : Spec Go.Proofs.Tryz.prog 224 p77 r77 := fact tk0 g77
def p78 : List PA := [.c (l [[(s [116, 117, 109, 98, 108, 101])], [(s [115, 108, 105, 100, 101])], [(s [115, 101, 115, 115, 105, 111, 110])]]), .c (s [116, 117, 109, 98, 108, 101])]
def r78 : List RA := [.c (.c (i 0))]
theorem g78 : vcall (VN tb0) rounds 6 224 p78 = some r78 := by kernel_rfl
theorem s78 : Spec Go.Proofs.Tryz.prog 224 p78 r78 := fact tk0 g78
def p80 : List PA := [.c (l [[(s [98, 121])]]), .c (s [98, 121])]
def r80 : List RA := [.c (.c (i 0))]
theorem g80 : vcall (VN tb0) rounds 6 224 p80 = some r80 := by kernel_rfl
theorem s80 : Spec Go.Proofs.Tryz.prog 224 p80 r80 := fact tk0 g80
def p81 : List PA := [.c (l [[(s [107, 101, 121])]]), .c (s [107, 101, 121])]
def r81 : List RA := [.c (.c (i 0))]
theorem g81 : vcall (VN tb0) rounds 6 224 p81 = some r81 := by kernel_rfl
theorem s81 : Spec Go.Proofs.Tryz.prog 224 p81 r81 := fact tk0 g81
def p82 : List PA := [.c (l [[(s [108, 97, 116, 101])]]), .c (s [108, 97, 116, 101])]
def r82 : List RA := [.c (.c (i 0))]
theorem g82 : vcall (VN tb0) rounds 6 224 p82 = some r82 := by kernel_rfl
theorem s82 : Spec Go.Proofs.Tryz.prog 224 p82 r82 := fact tk0 g82
def p83 : List PA := [.c (l [[(s [100, 114, 111, 112])], [(s [115, 105, 100, 101])]]), .c (s [115, 105, 100, 101])]
def r83 : List RA := [.c (.c (i 1))]
theorem g83 : vcall (VN tb0) rounds 6 224 p83 = some r83 := by kernel_rfl
theorem s83 : Spec Go.Proofs.Tryz.prog 224 p83 r83 := fact tk0 g83
def m1 : PV := l [[(y 4), (i 0), (i 0), (i 0), (i 11)]]
def p85 : List PA := [.a [(y 2), m1, (l [[(i 0)], [(i 1)]]), bt, e, (y 1), (i 5), (i 0), bt, (y 2)]]
def r85 : List RA := [.c (.c (i 0)), .c (.c (i 0))]
theorem g85 : vcall (VN tb0) rounds 6 41 p85 = some r85 := by kernel_rfl
theorem s85 : Spec Go.Proofs.Tryz.prog 41 p85 r85 := fact tk0 g85
def p87 : List PA := [.a [(y 2), m1, (l [[(i 0)], [(i 1)]]), bt, e, (y 1), (i 5), (i 0), bt, (y 2)]]
def r87 : List RA := [.c (.s 5 1 [[(y 1)], [(y 2)], [(y 4)], [(y 5)], [(y 6)], [(y 8)], [(y 9)], [(y 10)]])]
theorem g87 : vcall (VN tb0) rounds 6 93 p87 = some r87 := by kernel_rfl
theorem s87 : Spec Go.Proofs.Tryz.prog 93 p87 r87 := fact tk0 g87
def m2 : PV := l [[(y 1)], [(y 2)], [(y 4)], [(y 5)], [(y 6)], [(y 8)], [(y 9)], [(y 10)]]
def p89 : List PA := [.c m2, .c m2]
def r89 : List RA := [.c (.c bt)]
theorem g89 : vcall (VN tb0) rounds 6 147 p89 = some r89 := by kernel_rfl
theorem s89 : Spec Go.Proofs.Tryz.prog 147 p89 r89 := fact tk0 g89
def m3 : PV := l [[bf, (i 0), (i 1), (i 2), (i 3)], [bt, (i 9223372036854775807), (i 0), (i 0), (i 0)]]
def m4 : PV := l [[m3], [e]]
def p91 : List PA := [.c (i 0), .q [m4]]
def r91 : List RA := [.a [.c (y 1), .c (i 0), .c (i 0), .c e, .c e, .c e, .s 34 5 [[bf, (i 0), (i 1), (i 2), (i 3)], [bt, (i 9223372036854775807), (i 0), (i 0), (i 0)]], .c e, .c e], .c (.c (i 0))]
theorem g91 : vcall (VN tb0) rounds 6 47 p91 = some r91 := by kernel_rfl
theorem s91 : Spec Go.Proofs.Tryz.prog 47 p91 r91 := fact tk0 g91
def p92 : List PA := [.c (i 1), .q [m4]]
def r92 : List RA := [.a [.c (y 1), .c (i 1), .c (i 0), .c e, .c e, .c e, .s 34 5 [], .c e, .c e], .c (.c (i 0))]
theorem g92 : vcall (VN tb0) rounds 6 47 p92 = some r92 := by kernel_rfl
theorem s92 : Spec Go.Proofs.Tryz.prog 47 p92 r92 := fact tk0 g92
def p93 : List PA := [.c (i 0)]
def r93 : List RA := [.a [.c (y 2), .c (i 0), .c (i 0), .c e, .s 2 1 [[(i (-9223372036854775808))]], .c e, .c e, .c e, .c e], .c (.c (i 0))]
theorem g93 : vcall (VN tb0) rounds 6 49 p93 = some r93 := by kernel_rfl
theorem s93 : Spec Go.Proofs.Tryz.prog 49 p93 r93 := fact tk0 g93
def p94 : List PA := [.c (i 1)]
def r94 : List RA := [.a [.c (y 2), .c (i 1), .c (i 0), .c e, .s 2 1 [[(i (-9223372036854775808))]], .c e, .c e, .c e, .c e], .c (.c (i 0))]
theorem g94 : vcall (VN tb0) rounds 6 49 p94 = some r94 := by kernel_rfl
theorem s94 : Spec Go.Proofs.Tryz.prog 49 p94 r94 := fact tk0 g94
def p95 : List PA := [.c (i 0)]
def r95 : List RA := [.a [.c (y 3), .c (i 0), .c (i 0), .c e, .c e, .c e, .c e, .c e, .c e], .c (.c (i 0))]
theorem g95 : vcall (VN tb0) rounds 6 50 p95 = some r95 := by kernel_rfl
theorem s95 : Spec Go.Proofs.Tryz.prog 50 p95 r95 := fact tk0 g95
def p96 : List PA := [.c (i 1)]
def r96 : List RA := [.a [.c (y 3), .c (i 1), .c (i 0), .c e, .c e, .c e, .c e, .c e, .c e], .c (.c (i 0))]
theorem g96 : vcall (VN tb0) rounds 6 50 p96 = some r96 := by kernel_rfl
theorem s96 : Spec Go.Proofs.Tryz.prog 50 p96 r96 := fact tk0 g96
def p97 : List PA := [.c (i 0)]
def r97 : List RA := [.a [.c (y 5), .c (i 0), .c (i 0), .c e, .s 2 1 [[(i (-9223372036854775808))], [(i (-9223372036854775808))]], .c e, .c e, .c e, .c e], .c (.c (i 0))]
theorem g97 : vcall (VN tb0) rounds 6 53 p97 = some r97 := by kernel_rfl
theorem s97 : Spec Go.Proofs.Tryz.prog 53 p97 r97 := fact tk0 g97
def p98 : List PA := [.c (i 1)]
def r98 : List RA := [.a [.c (y 5), .c (i 1), .c (i 0), .c e, .s 2 1 [[(i (-9223372036854775808))], [(i (-9223372036854775808))]], .c e, .c e, .c e, .c e], .c (.c (i 0))]
theorem g98 : vcall (VN tb0) rounds 6 53 p98 = some r98 := by kernel_rfl
theorem s98 : Spec Go.Proofs.Tryz.prog 53 p98 r98 := fact tk0 g98
def p99 : List PA := [.c (i 0)]
def r99 : List RA := [.a [.c (y 6), .c (i 0), .c (i 0), .c e, .c e, .c e, .c e, .c e, .c e], .c (.c (i 0))]
theorem g99 : vcall (VN tb0) rounds 6 54 p99 = some r99 := by kernel_rfl
theorem s99 : Spec Go.Proofs.Tryz.prog 54 p99 r99 := fact tk0 g99
def p100 : List PA := [.c (i 0)]
def r100 : List RA := [.a [.c (y 7), .c (i 0), .c (i 0), .c e, .c e, .c e, .c e, .c e, .c e], .c (.c (i 0))]
theorem g100 : vcall (VN tb0) rounds 6 56 p100 = some r100 := by kernel_rfl
theorem s100 : Spec Go.Proofs.Tryz.prog 56 p100 r100 := fact tk0 g100
def p102 : List PA := [.c e, .a [(i 0), (i 0)]]
def r102 : List RA := [.c (.c bt)]
theorem g102 : vcall (VN tb0) rounds 6 187 p102 = some r102 := by kernel_rfl
theorem s102 : Spec Go.Proofs.Tryz.prog 187 p102 r102 := fact tk0 g102
def p103 : List PA := [.c (l [[(i 0)]]), .a [(i 1), (i 1)]]
def r103 : List RA := [.c (.c bt)]
theorem g103 : vcall (VN tb0) rounds 6 187 p103 = some r103 := by kernel_rfl
theorem s103 : Spec Go.Proofs.Tryz.prog 187 p103 r103 := fact tk0 g103
def p104 : List PA := [.c (i 1), .c (i 0)]
def r104 : List RA := [.c (.c bf)]
theorem g104 : vcall (VN tb0) rounds 6 308 p104 = some r104 := by kernel_rfl
theorem s104 : Spec Go.Proofs.Tryz.prog 308 p104 r104 := fact tk0 g104
def p111 : List PA := [.a [(i 3), e]]
def r111 : List RA := [.c (.c (i 0))]
theorem g111 : vcall (VN tb0) rounds 6 103 p111 = some r111 := by kernel_rfl
theorem s111 : Spec Go.Proofs.Tryz.prog 103 p111 r111 := fact tk0 g111
def p112 : List PA := [.c bf, .c (i 4000)]
def r112 : List RA := [.c (.c (i 0))]
theorem g112 : vcall (VN tb0) rounds 6 189 p112 = some r112 := by kernel_rfl
theorem s112 : Spec Go.Proofs.Tryz.prog 189 p112 r112 := fact tk0 g112
def p113 : List PA := [.c bt, .c (i 60)]
def r113 : List RA := [.c (.c (i 60))]
theorem g113 : vcall (VN tb0) rounds 6 189 p113 = some r113 := by kernel_rfl
theorem s113 : Spec Go.Proofs.Tryz.prog 189 p113 r113 := fact tk0 g113
def m5 : PV := l [[(y 1), (i 0)], [(y 1), (i 1)], [(y 2), (i 0)], [(y 2), (i 1)], [(y 3), (i 0)], [(y 3), (i 1)], [(y 5), (i 0)], [(y 5), (i 1)], [(y 6), (i 0)], [(y 7), (i 0)]]
def m6 : PV := l [[(i 0), (i 0), (i 2), (i 0), (i 3)], [(i 1), (i 0), (i 3), (i 0), (i 3)], [(i 2), (i 0), (i 4), (i 0), (i 3)], [(i 2), (i 1), (i 9), (i 0), (i 3)], [(i 3), (i 0), (i 5), (i 0), (i 3)], [(i 3), (i 1), (i 9), (i 1), (i 3)], [(i 4), (i 0), (i 6), (i 0), (i 3)], [(i 4), (i 1), (i 7), (i 0), (i 3)], [(i 5), (i 0), (i 6), (i 1), (i 3)], [(i 5), (i 1), (i 7), (i 1), (i 3)], [(i 6), (i 0), (i 8), (i 0), (i 3)], [(i 7), (i 0), (i 8), (i 1), (i 3)]]
def p115 : List PA := [.a [m5, m6], .c (i 0)]
def r115 : List RA := [.c (.c e)]
theorem g115 : vcall (VN tb0) rounds 6 72 p115 = some r115 := by kernel_rfl
theorem s115 : Spec Go.Proofs.Tryz.prog 72 p115 r115 := fact tk0 g115
def p116 : List PA := [.a [m5, m6], .c (i 0)]
def r116 : List RA := [.c (.c (l [[(i 0)]]))]
theorem g116 : vcall (VN tb0) rounds 6 109 p116 = some r116 := by kernel_rfl
theorem s116 : Spec Go.Proofs.Tryz.prog 109 p116 r116 := fact tk0 g116
def p118 : List PA := [.a [m5, m6], .c (i 1)]
def r118 : List RA := [.c (.c e)]
theorem g118 : vcall (VN tb0) rounds 6 72 p118 = some r118 := by kernel_rfl
theorem s118 : Spec Go.Proofs.Tryz.prog 72 p118 r118 := fact tk0 g118
def p119 : List PA := [.a [m5, m6], .c (i 1)]
def r119 : List RA := [.c (.c (l [[(i 1)]]))]
theorem g119 : vcall (VN tb0) rounds 6 109 p119 = some r119 := by kernel_rfl
theorem s119 : Spec Go.Proofs.Tryz.prog 109 p119 r119 := fact tk0 g119
def p120 : List PA := [.c bf, .c (i 60)]
def r120 : List RA := [.c (.c (i 0))]
theorem g120 : vcall (VN tb0) rounds 6 189 p120 = some r120 := by kernel_rfl
theorem s120 : Spec Go.Proofs.Tryz.prog 189 p120 r120 := fact tk0 g120
def p122 : List PA := [.a [m5, m6], .c (i 2)]
def r122 : List RA := [.c (.c (l [[(i 0)]]))]
theorem g122 : vcall (VN tb0) rounds 6 72 p122 = some r122 := by kernel_rfl
theorem s122 : Spec Go.Proofs.Tryz.prog 72 p122 r122 := fact tk0 g122
def p123 : List PA := [.c (i 1), .c (i 0)]
def r123 : List RA := [.c (.c (i 1))]
theorem g123 : vcall (VN tb0) rounds 6 118 p123 = some r123 := by kernel_rfl
theorem s123 : Spec Go.Proofs.Tryz.prog 118 p123 r123 := fact tk0 g123
end Tn.Bu
