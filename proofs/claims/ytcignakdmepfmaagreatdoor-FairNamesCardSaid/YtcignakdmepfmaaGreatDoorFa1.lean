import Derived.Test.YtcignakdmepfmaaGreatDoorFa0
/- Closed facts of one run, each by the kernel. -/
set_option linter.unusedVariables false
namespace Tn.Fa
open Go Go.Abs Tn
def p41 : List PA := [.c (y 53)]
def r41 : List RA := [.c (.c (y 2))]
theorem g41 : vcall (VN tb0) rounds 6 134 p41 = some r41 := by kernel_rfl
theorem s41 : Spec Go.Proofs.Tryz.prog 134 p41 r41 := fact tk0 g41
def p43 : List PA := [.c (s [48, 49, 50, 51, 52, 53, 54, 55, 56, 57])]
def r43 : List RA := [.a [.c bf, .c bf, .c bf, .c bf, .c bf, .c bf, .c bf, .c bf, .c bf, .c bf, .c bf, .c bf, .c bf, .c bf, .c bf, .c bf, .c bf, .c bf, .c bf, .c bf, .c bf, .c bf, .c bf, .c bf, .c bf, .c bf, .c bf, .c bf, .c bf, .c bf, .c bf, .c bf, .c bf, .c bf, .c bf, .c bf, .c bf, .c bf, .c bf, .c bf, .c bf, .c bf, .c bf, .c bf, .c bf, .c bf, .c bf, .c bf, .c bt, .c bt, .c bt, .c bt, .c bt, .c bt, .c bt, .c bt, .c bt, .c bt, .c bf, .c bf, .c bf, .c bf, .c bf, .c bf, .c bf, .c bf, .c bf, .c bf, .c bf, .c bf, .c bf, .c bf, .c bf, .c bf, .c bf, .c bf, .c bf, .c bf, .c bf, .c bf, .c bf, .c bf, .c bf, .c bf, .c bf, .c bf, .c bf, .c bf, .c bf, .c bf, .c bf, .c bf, .c bf, .c bf, .c bf, .c bf, .c bf, .c bf, .c bf, .c bf, .c bf, .c bf, .c bf, .c bf, .c bf, .c bf, .c bf, .c bf, .c bf, .c bf, .c bf, .c bf, .c bf, .c bf, .c bf, .c bf, .c bf, .c bf, .c bf, .c bf, .c bf, .c bf, .c bf, .c bf, .c bf, .c bf, .c bf, .c bf, .c bf, .c bf, .c bf, .c bf, .c bf, .c bf, .c bf, .c bf, .c bf, .c bf, .c bf, .c bf, .c bf, .c bf, .c bf, .c bf, .c bf, .c bf, .c bf, .c bf, .c bf, .c bf, .c bf, .c bf, .c bf, .c bf, .c bf, .c bf, .c bf, .c bf, .c bf, .c bf, .c bf, .c bf, .c bf, .c bf, .c bf, .c bf, .c bf, .c bf, .c bf, .c bf, .c bf, .c bf, .c bf, .c bf, .c bf, .c bf, .c bf, .c bf, .c bf, .c bf, .c bf, .c bf, .c bf, .c bf, .c bf, .c bf, .c bf, .c bf, .c bf, .c bf, .c bf, .c bf, .c bf, .c bf, .c bf, .c bf, .c bf, .c bf, .c bf, .c bf, .c bf, .c bf, .c bf, .c bf, .c bf, .c bf, .c bf, .c bf, .c bf, .c bf, .c bf, .c bf, .c bf, .c bf, .c bf, .c bf, .c bf, .c bf, .c bf, .c bf, .c bf, .c bf, .c bf, .c bf, .c bf, .c bf, .c bf, .c bf, .c bf, .c bf, .c bf, .c bf, .c bf, .c bf, .c bf, .c bf, .c bf, .c bf, .c bf, .c bf, .c bf, .c bf, .c bf, .c bf, .c bf, .c bf, .c bf, .c bf, .c bf, .c bf, .c bf, .c bf, .c bf, .c bf, .c bf, .c bf], .c (.c bt)]
theorem g43 : vcall (VN tb0) rounds 6 252 p43 = some r43 := by kernel_rfl
theorem s43 : Spec Go.Proofs.Tryz.prog 252 p43 r43 := fact tk0 g43
def p44 : List PA := [.c (s [53]), .q [bf, bf, bf, bf, bf, bf, bf, bf, bf, bf, bf, bf, bf, bf, bf, bf, bf, bf, bf, bf, bf, bf, bf, bf, bf, bf, bf, bf, bf, bf, bf, bf, bf, bf, bf, bf, bf, bf, bf, bf, bf, bf, bf, bf, bf, bf, bf, bf, bt, bt, bt, bt, bt, bt, bt, bt, bt, bt, bf, bf, bf, bf, bf, bf, bf, bf, bf, bf, bf, bf, bf, bf, bf, bf, bf, bf, bf, bf, bf, bf, bf, bf, bf, bf, bf, bf, bf, bf, bf, bf, bf, bf, bf, bf, bf, bf, bf, bf, bf, bf, bf, bf, bf, bf, bf, bf, bf, bf, bf, bf, bf, bf, bf, bf, bf, bf, bf, bf, bf, bf, bf, bf, bf, bf, bf, bf, bf, bf, bf, bf, bf, bf, bf, bf, bf, bf, bf, bf, bf, bf, bf, bf, bf, bf, bf, bf, bf, bf, bf, bf, bf, bf, bf, bf, bf, bf, bf, bf, bf, bf, bf, bf, bf, bf, bf, bf, bf, bf, bf, bf, bf, bf, bf, bf, bf, bf, bf, bf, bf, bf, bf, bf, bf, bf, bf, bf, bf, bf, bf, bf, bf, bf, bf, bf, bf, bf, bf, bf, bf, bf, bf, bf, bf, bf, bf, bf, bf, bf, bf, bf, bf, bf, bf, bf, bf, bf, bf, bf, bf, bf, bf, bf, bf, bf, bf, bf, bf, bf, bf, bf, bf, bf, bf, bf, bf, bf, bf, bf, bf, bf, bf, bf, bf, bf, bf, bf, bf, bf, bf, bf, bf, bf, bf, bf, bf, bf]]
def r44 : List RA := [.c (.c (s []))]
theorem g44 : vcall (VN tb0) rounds 6 254 p44 = some r44 := by kernel_rfl
theorem s44 : Spec Go.Proofs.Tryz.prog 254 p44 r44 := fact tk0 g44
def p45 : List PA := [.c (s []), .q [bf, bf, bf, bf, bf, bf, bf, bf, bf, bf, bf, bf, bf, bf, bf, bf, bf, bf, bf, bf, bf, bf, bf, bf, bf, bf, bf, bf, bf, bf, bf, bf, bf, bf, bf, bf, bf, bf, bf, bf, bf, bf, bf, bf, bf, bf, bf, bf, bt, bt, bt, bt, bt, bt, bt, bt, bt, bt, bf, bf, bf, bf, bf, bf, bf, bf, bf, bf, bf, bf, bf, bf, bf, bf, bf, bf, bf, bf, bf, bf, bf, bf, bf, bf, bf, bf, bf, bf, bf, bf, bf, bf, bf, bf, bf, bf, bf, bf, bf, bf, bf, bf, bf, bf, bf, bf, bf, bf, bf, bf, bf, bf, bf, bf, bf, bf, bf, bf, bf, bf, bf, bf, bf, bf, bf, bf, bf, bf, bf, bf, bf, bf, bf, bf, bf, bf, bf, bf, bf, bf, bf, bf, bf, bf, bf, bf, bf, bf, bf, bf, bf, bf, bf, bf, bf, bf, bf, bf, bf, bf, bf, bf, bf, bf, bf, bf, bf, bf, bf, bf, bf, bf, bf, bf, bf, bf, bf, bf, bf, bf, bf, bf, bf, bf, bf, bf, bf, bf, bf, bf, bf, bf, bf, bf, bf, bf, bf, bf, bf, bf, bf, bf, bf, bf, bf, bf, bf, bf, bf, bf, bf, bf, bf, bf, bf, bf, bf, bf, bf, bf, bf, bf, bf, bf, bf, bf, bf, bf, bf, bf, bf, bf, bf, bf, bf, bf, bf, bf, bf, bf, bf, bf, bf, bf, bf, bf, bf, bf, bf, bf, bf, bf, bf, bf, bf, bf]]
def r45 : List RA := [.c (.c (s []))]
theorem g45 : vcall (VN tb0) rounds 6 253 p45 = some r45 := by kernel_rfl
theorem s45 : Spec Go.Proofs.Tryz.prog 253 p45 r45 := fact tk0 g45
def p47 : List PA := [.c (s [53]), .c (i 10), .c (i 64)]
def r47 : List RA := [.c (.c (.int .u64 5)), .c (.e false)]
theorem g47 : vcall (VN tb0) rounds 6 290 p47 = some r47 := by kernel_rfl
theorem s47 : Spec Go.Proofs.Tryz.prog 290 p47 r47 := fact tk0 g47
def p51 : List PA := [.c (l [[(s [115, 101, 108, 101, 99, 116])]]), .c (s [115, 101, 108, 101, 99, 116])]
def r51 : List RA := [.c (.c (i 0))]
theorem g51 : vcall (VN tb0) rounds 6 224 p51 = some r51 := by kernel_rfl
theorem s51 : Spec Go.Proofs.Tryz.prog 224 p51 r51 := fact tk0 g51
def p52 : List PA := [.c (l [[(s [99, 111, 117, 110, 116])], [(s [115, 117, 109])], [(s [109, 105, 110])], [(s [109, 97, 120])]]), .c (s [99, 111, 117, 110, 116])]
def r52 : List RA := [.c (.c (i 0))]
theorem g52 : vcall (VN tb0) rounds 6 224 p52 = some r52 := by kernel_rfl
theorem s52 : Spec Go.Proofs.Tryz.prog 224 p52 r52 := fact tk0 g52
def p53 : List PA := [.c (l [[(s [40])]]), .c (s [40])]
def r53 : List RA := [.c (.c (i 0))]
theorem g53 : vcall (VN tb0) rounds 6 224 p53 = some r53 := by kernel_rfl
theorem s53 : Spec Go.Proofs.Tryz.prog 224 p53 r53 := fact tk0 g53
def p54 : List PA := [.c (l [[(s [42])]]), .c (s [42])]
def r54 : List RA := [.c (.c (i 0))]
theorem g54 : vcall (VN tb0) rounds 6 224 p54 = some r54 := by kernel_rfl
theorem s54 : Spec Go.Proofs.Tryz.prog 224 p54 r54 := fact tk0 g54
def p55 : List PA := [.c (l [[(s [41])]]), .c (s [41])]
def r55 : List RA := [.c (.c (i 0))]
theorem g55 : vcall (VN tb0) rounds 6 224 p55 = some r55 := by kernel_rfl
theorem s55 : Spec Go.Proofs.Tryz.prog 224 p55 r55 := fact tk0 g55
def p56 : List PA := [.c (l [[(s [102, 114, 111, 109])]]), .c (s [102, 114, 111, 109])]
def r56 : List RA := [.c (.c (i 0))]
theorem g56 : vcall (VN tb0) rounds 6 224 p56 = some r56 := by kernel_rfl
theorem s56 : Spec Go.Proofs.Tryz.prog 224 p56 r56 := fact tk0 g56
def p57 : List PA := [.c (l [[(s [97])], [(s [98])], [(s [99])], [(s [100])]]), .c (s [97])]
def r57 : List RA := [.c (.c (i 0))]
theorem g57 : vcall (VN tb0) rounds 6 224 p57 = some r57 := by kernel_rfl
theorem s57 : Spec Go.Proofs.Tryz.prog 224 p57 r57 := fact tk0 g57
def p58 : List PA := [.c (l [[(s [106, 111, 105, 110])]]), .c (s [119, 105, 110, 100, 111, 119])]
def r58 : List RA := [.c (.c (i (-1)))]
theorem g58 : vcall (VN tb0) rounds 6 224 p58 = some r58 := by kernel_rfl
theorem s58 : Spec Go.Proofs.Tryz.prog 224 p58 r58 := fact tk0 g58
def p59 : List PA := [.c (l [[(s [117, 110, 105, 111, 110])]]), .c (s [119, 105, 110, 100, 111, 119])]
def r59 : List RA := [.c (.c (i (-1)))]
theorem g59 : vcall (VN tb0) rounds 6 224 p59 = some r59 := by kernel_rfl
theorem s59 : Spec Go.Proofs.Tryz.prog 224 p59 r59 := fact tk0 g59
def p60 : List PA := [.c (l [[(s [119, 104, 101, 114, 101])]]), .c (s [119, 105, 110, 100, 111, 119])]
def r60 : List RA := [.c (.c (i (-1)))]
theorem g60 : vcall (VN tb0) rounds 6 224 p60 = some r60 := by kernel_rfl
theorem s60 : Spec Go.Proofs.Tryz.prog 224 p60 r60 := fact tk0 g60
def p61 : List PA := [.c (l [[(s [119, 105, 110, 100, 111, 119])]]), .c (s [119, 105, 110, 100, 111, 119])]
def r61 : List RA := [.c (.c (i 0))]
theorem g61 : vcall (VN tb0) rounds 6 224 p61 = some r61 := by kernel_rfl
theorem s61 : Spec Go.Proofs.Tryz.prog 224 p61 r61 := fact tk0 g61
def p62 : List PA := [.c (l [[(s [116, 117, 109, 98, 108, 101])], [(s [115, 108, 105, 100, 101])], [(s [115, 101, 115, 115, 105, 111, 110])]]), .c (s [116, 117, 109, 98, 108, 101])]
def r62 : List RA := [.c (.c (i 0))]
theorem g62 : vcall (VN tb0) rounds 6 224 p62 = some r62 := by kernel_rfl
theorem s62 : Spec Go.Proofs.Tryz.prog 224 p62 r62 := fact tk0 g62
def p65 : List PA := [.a [(y 1), e, (l [[(i 0)]]), bf, e, (y 1), (i 5), (i 0), bf, (y 1)]]
def r65 : List RA := [.c (.c (i 0)), .c (.c (i 0))]
theorem g65 : vcall (VN tb0) rounds 6 41 p65 = some r65 := by kernel_rfl
theorem s65 : Spec Go.Proofs.Tryz.prog 41 p65 r65 := fact tk0 g65
def p67 : List PA := [.a [(y 1), e, (l [[(i 0)]]), bf, e, (y 1), (i 5), (i 0), bf, (y 1)]]
def r67 : List RA := [.c (.s 5 1 [[(y 1)], [(y 2)], [(y 4)], [(y 6)], [(y 7)], [(y 9)]])]
theorem g67 : vcall (VN tb0) rounds 6 93 p67 = some r67 := by kernel_rfl
theorem s67 : Spec Go.Proofs.Tryz.prog 93 p67 r67 := fact tk0 g67
def m0 : PV := l [[(y 1)], [(y 2)], [(y 4)], [(y 6)], [(y 7)], [(y 9)]]
def p69 : List PA := [.c m0, .c m0]
def r69 : List RA := [.c (.c bt)]
theorem g69 : vcall (VN tb0) rounds 6 147 p69 = some r69 := by kernel_rfl
theorem s69 : Spec Go.Proofs.Tryz.prog 147 p69 r69 := fact tk0 g69
def m1 : PV := l [[bf, (i 0), (i 0), (i 1), (i 0)]]
def m2 : PV := l [[m1]]
def p71 : List PA := [.c (i 0), .q [m2]]
def r71 : List RA := [.a [.c (y 1), .c (i 0), .c (i 0), .c e, .c e, .c e, .s 34 5 [[bf, (i 0), (i 0), (i 1), (i 0)]], .c e, .c e], .c (.c (i 0))]
theorem g71 : vcall (VN tb0) rounds 6 47 p71 = some r71 := by kernel_rfl
theorem s71 : Spec Go.Proofs.Tryz.prog 47 p71 r71 := fact tk0 g71
def p72 : List PA := [.c (i 0)]
def r72 : List RA := [.a [.c (y 2), .c (i 0), .c (i 0), .c e, .s 2 1 [[(i (-9223372036854775808))]], .c e, .c e, .c e, .c e], .c (.c (i 0))]
theorem g72 : vcall (VN tb0) rounds 6 49 p72 = some r72 := by kernel_rfl
theorem s72 : Spec Go.Proofs.Tryz.prog 49 p72 r72 := fact tk0 g72
def p73 : List PA := [.c (i 0), .q [(y 1), e, (l [[(i 0)]]), bf, e, (y 1), (i 5), (i 0), bf, (y 1)]]
def r73 : List RA := [.a [.c (y 4), .c (i 0), .c (i 0), .c e, .s 2 1 [[(i (-9223372036854775808))]], .c e, .c e, .c e, .c e], .c (.c (i 0))]
theorem g73 : vcall (VN tb0) rounds 6 51 p73 = some r73 := by kernel_rfl
theorem s73 : Spec Go.Proofs.Tryz.prog 51 p73 r73 := fact tk0 g73
def p74 : List PA := [.c (i 0)]
def r74 : List RA := [.a [.c (y 6), .c (i 0), .c (i 0), .c e, .c e, .c e, .c e, .c e, .c e], .c (.c (i 0))]
theorem g74 : vcall (VN tb0) rounds 6 54 p74 = some r74 := by kernel_rfl
theorem s74 : Spec Go.Proofs.Tryz.prog 54 p74 r74 := fact tk0 g74
def p77 : List PA := [.c e, .a [(i 0), (i 0)]]
def r77 : List RA := [.c (.c bt)]
theorem g77 : vcall (VN tb0) rounds 6 187 p77 = some r77 := by kernel_rfl
theorem s77 : Spec Go.Proofs.Tryz.prog 187 p77 r77 := fact tk0 g77
def p78 : List PA := [.c (l [[(i 0)]]), .a [(i 1), (i 1)]]
def r78 : List RA := [.c (.c bt)]
theorem g78 : vcall (VN tb0) rounds 6 187 p78 = some r78 := by kernel_rfl
theorem s78 : Spec Go.Proofs.Tryz.prog 187 p78 r78 := fact tk0 g78
def p79 : List PA := [.c (l [[(i 0)]]), .a [(i 1), (i 2)]]
def r79 : List RA := [.c (.c bt)]
theorem g79 : vcall (VN tb0) rounds 6 187 p79 = some r79 := by kernel_rfl
theorem s79 : Spec Go.Proofs.Tryz.prog 187 p79 r79 := fact tk0 g79
def p80 : List PA := [.c (l [[(i 0)]]), .a [(i 1), (i 4)]]
def r80 : List RA := [.c (.c bt)]
theorem g80 : vcall (VN tb0) rounds 6 187 p80 = some r80 := by kernel_rfl
theorem s80 : Spec Go.Proofs.Tryz.prog 187 p80 r80 := fact tk0 g80
def p81 : List PA := [.c (l [[(i 0)]]), .a [(i 1), (i 3)]]
def r81 : List RA := [.c (.c bt)]
theorem g81 : vcall (VN tb0) rounds 6 187 p81 = some r81 := by kernel_rfl
theorem s81 : Spec Go.Proofs.Tryz.prog 187 p81 r81 := fact tk0 g81
def p84 : List PA := [.a [(i 1), e]]
def r84 : List RA := [.c (.c (i 0))]
theorem g84 : vcall (VN tb0) rounds 6 103 p84 = some r84 := by kernel_rfl
theorem s84 : Spec Go.Proofs.Tryz.prog 103 p84 r84 := fact tk0 g84
def p85 : List PA := [.c bf, .c (i 4000)]
def r85 : List RA := [.c (.c (i 0))]
theorem g85 : vcall (VN tb0) rounds 6 189 p85 = some r85 := by kernel_rfl
theorem s85 : Spec Go.Proofs.Tryz.prog 189 p85 r85 := fact tk0 g85
def p86 : List PA := [.c bt, .c (i 60)]
def r86 : List RA := [.c (.c (i 60))]
theorem g86 : vcall (VN tb0) rounds 6 189 p86 = some r86 := by kernel_rfl
theorem s86 : Spec Go.Proofs.Tryz.prog 189 p86 r86 := fact tk0 g86
def m3 : PV := l [[(y 1), (i 0)], [(y 2), (i 0)], [(y 4), (i 0)], [(y 6), (i 0)]]
def m4 : PV := l [[(i 0), (i 0), (i 1), (i 0), (i 1)], [(i 1), (i 0), (i 2), (i 0), (i 1)], [(i 2), (i 0), (i 3), (i 0), (i 1)]]
def p88 : List PA := [.a [m3, m4], .c (i 0)]
def r88 : List RA := [.c (.c e)]
theorem g88 : vcall (VN tb0) rounds 6 72 p88 = some r88 := by kernel_rfl
theorem s88 : Spec Go.Proofs.Tryz.prog 72 p88 r88 := fact tk0 g88
def p89 : List PA := [.a [m3, m4], .c (i 0)]
def r89 : List RA := [.c (.c (l [[(i 0)]]))]
theorem g89 : vcall (VN tb0) rounds 6 109 p89 = some r89 := by kernel_rfl
theorem s89 : Spec Go.Proofs.Tryz.prog 109 p89 r89 := fact tk0 g89
def p90 : List PA := [.c bf, .c (i 60)]
def r90 : List RA := [.c (.c (i 0))]
theorem g90 : vcall (VN tb0) rounds 6 189 p90 = some r90 := by kernel_rfl
theorem s90 : Spec Go.Proofs.Tryz.prog 189 p90 r90 := fact tk0 g90
def p92 : List PA := [.a [m3, m4], .c (i 1)]
def r92 : List RA := [.c (.c (l [[(i 0)]]))]
theorem g92 : vcall (VN tb0) rounds 6 72 p92 = some r92 := by kernel_rfl
theorem s92 : Spec Go.Proofs.Tryz.prog 72 p92 r92 := fact tk0 g92
def p93 : List PA := [.a [m3, m4], .c (i 1)]
def r93 : List RA := [.c (.c (l [[(i 1)]]))]
theorem g93 : vcall (VN tb0) rounds 6 109 p93 = some r93 := by kernel_rfl
theorem s93 : Spec Go.Proofs.Tryz.prog 109 p93 r93 := fact tk0 g93
def p94 : List PA := [.c bt, .c (i 4000)]
def r94 : List RA := [.c (.c (i 4000))]
theorem g94 : vcall (VN tb0) rounds 6 189 p94 = some r94 := by kernel_rfl
theorem s94 : Spec Go.Proofs.Tryz.prog 189 p94 r94 := fact tk0 g94
def p96 : List PA := [.a [m3, m4], .c (i 2)]
def r96 : List RA := [.c (.c (l [[(i 1)]]))]
theorem g96 : vcall (VN tb0) rounds 6 72 p96 = some r96 := by kernel_rfl
theorem s96 : Spec Go.Proofs.Tryz.prog 72 p96 r96 := fact tk0 g96
def p97 : List PA := [.a [m3, m4], .c (i 2)]
def r97 : List RA := [.c (.c (l [[(i 2)]]))]
theorem g97 : vcall (VN tb0) rounds 6 109 p97 = some r97 := by kernel_rfl
theorem s97 : Spec Go.Proofs.Tryz.prog 109 p97 r97 := fact tk0 g97
def p99 : List PA := [.a [m3, m4], .c (i 3)]
def r99 : List RA := [.c (.c (l [[(i 2)]]))]
theorem g99 : vcall (VN tb0) rounds 6 72 p99 = some r99 := by kernel_rfl
theorem s99 : Spec Go.Proofs.Tryz.prog 72 p99 r99 := fact tk0 g99
def p100 : List PA := [.a [m3, m4], .c (i 3)]
def r100 : List RA := [.c (.c e)]
theorem g100 : vcall (VN tb0) rounds 6 109 p100 = some r100 := by kernel_rfl
theorem s100 : Spec Go.Proofs.Tryz.prog 109 p100 r100 := fact tk0 g100
def p130 : List PA := [.a [(y 0), e, e, bf, e, (y 0), (i 0), (i 0), bf, (y 0)]]
def r130 : List RA := [.c (.c (i 0)), .c (.c (i 8))]
theorem g130 : vcall (VN tb0) rounds 6 41 p130 = some r130 := by kernel_rfl
theorem s130 : Spec Go.Proofs.Tryz.prog 41 p130 r130 := fact tk0 g130
def m5 : PV := l [[(y 1), (i 0), (i 0), e, e, e, m1, e, e], [(y 2), (i 0), (i 0), e, (l [[(i (-9223372036854775808))]]), e, e, e, e], [(y 4), (i 0), (i 0), e, (l [[(i (-9223372036854775808))]]), e, e, e, e], [(y 6), (i 0), (i 0), e, e, e, e, e, e]]
def m6 : PV := l [[(i 1), e], [(i 1), e], [(i 1), e]]
def p139 : List PA := [.a [(y 1), e, (l [[(i 0)]]), bf, e, (y 1), (i 5), (i 0), bf, (y 1), m3, m4, m5, m6]]
def r139 : List RA := [.a [.c (y 1), .c e, .c (l [[(i 0)]]), .c bf, .c e, .c (y 1), .c (i 5), .c (i 0), .c bf, .c (y 1), .c m3, .c m4, .s 56 9 [[(y 1), (i 0), (i 0), e, e, e, m1, e, e], [(y 2), (i 0), (i 0), e, (l [[(i (-9223372036854775808))]]), e, e, e, e], [(y 4), (i 0), (i 0), e, (l [[(i (-9223372036854775808))]]), e, e, e, e], [(y 6), (i 0), (i 0), e, e, e, e, e, e]], .s 59 2 [[(i 1), e], [(i 1), e], [(i 1), e]]]]
theorem g139 : vcall (VN tb0) rounds 6 78 p139 = some r139 := by kernel_rfl
theorem s139 : Spec Go.Proofs.Tryz.prog 78 p139 r139 := fact tk0 g139
def p141 : List PA := [.a [(y 1), e, (l [[(i 0)]]), bf, e, (y 1), (i 5), (i 0), bf, (y 1), m3, m4, m5, m6], .c e]
def r141 : List RA := [.c (.c e)]
theorem g141 : vcall (VN tb0) rounds 6 71 p141 = some r141 := by kernel_rfl
theorem s141 : Spec Go.Proofs.Tryz.prog 71 p141 r141 := fact tk0 g141
def p142 : List PA := [.a [(y 1), e, (l [[(i 0)]]), bf, e, (y 1), (i 5), (i 0), bf, (y 1), m3, m4, m5, m6], .c (l [[(i 0)]])]
def r142 : List RA := [.c (.c (l [[(i 1), e]]))]
theorem g142 : vcall (VN tb0) rounds 6 71 p142 = some r142 := by kernel_rfl
theorem s142 : Spec Go.Proofs.Tryz.prog 71 p142 r142 := fact tk0 g142
def m7 : PV := l [[(i 0), (y 1), (i 0), (i 1), (i 0), (i 0), (i 0), (i 0), (i 0), (i 0), (i 0)]]
def m8 : PV := l [[(y 1), (i 0), (i 0), m7, e, e, e, e, e], [(y 2), (i 0), (i 0), e, (l [[(i (-9223372036854775808))]]), e, e, e, e], [(y 4), (i 0), (i 0), e, (l [[(i (-9223372036854775808))]]), e, e, e, e], [(y 6), (i 0), (i 0), e, e, e, e, e, e]]
def p153 : List PA := [.a [(y 1), e, (l [[(i 0)]]), bf, e, (y 1), (i 5), (i 0), bf, (y 1), m3, m4, m8, m6], .c (l [[(i 0)]])]
def r153 : List RA := [.c (.c (l [[(i 1), e]]))]
theorem g153 : vcall (VN tb0) rounds 6 71 p153 = some r153 := by kernel_rfl
theorem s153 : Spec Go.Proofs.Tryz.prog 71 p153 r153 := fact tk0 g153
def p154 : List PA := [.a [(y 1), e, (l [[(i 0)]]), bf, e, (y 1), (i 5), (i 0), bf, (y 1), m3, m4, m8, m6], .c (l [[(i 1)]])]
def r154 : List RA := [.c (.c (l [[(i 1), e]]))]
theorem g154 : vcall (VN tb0) rounds 6 71 p154 = some r154 := by kernel_rfl
theorem s154 : Spec Go.Proofs.Tryz.prog 71 p154 r154 := fact tk0 g154
def p158 : List PA := [.a [(y 1), e, (l [[(i 0)]]), bf, e, (y 1), (i 5), (i 0), bf, (y 1), m3, m4, m8, m6], .c (l [[(i 2)]])]
def r158 : List RA := [.c (.c (l [[(i 1), e]]))]
theorem g158 : vcall (VN tb0) rounds 6 71 p158 = some r158 := by kernel_rfl
theorem s158 : Spec Go.Proofs.Tryz.prog 71 p158 r158 := fact tk0 g158
def p162 : List PA := [.a [(y 1), e, (l [[(i 0)]]), bf, e, (y 1), (i 5), (i 0), bf, (y 1), m3, m4, m8, m6], .c e]
def r162 : List RA := [.c (.c e)]
theorem g162 : vcall (VN tb0) rounds 6 71 p162 = some r162 := by kernel_rfl
theorem s162 : Spec Go.Proofs.Tryz.prog 71 p162 r162 := fact tk0 g162
def p167 : List PA := [.a [(i 1), e], .a [(y 1), (i 0), (i 1), (i 0), (i 0), (i 0), (i 0), (i 0), (i 0), (i 0)]]
def r167 : List RA := [.a [.c (i 1), .s 154 10 [[(y 1), (i 0), (i 1), (i 0), (i 0), (i 0), (i 0), (i 0), (i 0), (i 0)]]], .c (.c (i 0))]
theorem g167 : vcall (VN tb0) rounds 6 156 p167 = some r167 := by kernel_rfl
theorem s167 : Spec Go.Proofs.Tryz.prog 156 p167 r167 := fact tk0 g167
def m9 : PV := l [[(y 1), (i 0), (i 1), (i 0), (i 0), (i 0), (i 0), (i 0), (i 0), (i 0)]]
def p172 : List PA := [.a [(i 1), m9]]
def r172 : List RA := [.c (.c (i 0))]
theorem g172 : vcall (VN tb0) rounds 6 103 p172 = some r172 := by kernel_rfl
theorem s172 : Spec Go.Proofs.Tryz.prog 103 p172 r172 := fact tk0 g172
def m10 : PV := l [[(y 1), (i 0), (i 0), e, e, e, e, e, e], [(y 2), (i 0), (i 0), e, (l [[(i (-9223372036854775808))]]), e, e, e, e], [(y 4), (i 0), (i 0), e, (l [[(i (-9223372036854775808))]]), e, e, e, e], [(y 6), (i 0), (i 0), e, e, e, e, e, e]]
def m11 : PV := l [[(i 1), m9], [(i 1), e], [(i 1), e]]
def m12 : PV := l [[(i 1), m9]]
def p174 : List PA := [.a [(y 1), e, (l [[(i 0)]]), bf, e, (y 1), (i 5), (i 0), bf, (y 1), m3, m4, m10, m11], .c (l [[(i 0)]])]
def r174 : List RA := [.c (.c m12)]
theorem g174 : vcall (VN tb0) rounds 6 71 p174 = some r174 := by kernel_rfl
theorem s174 : Spec Go.Proofs.Tryz.prog 71 p174 r174 := fact tk0 g174
def p175 : List PA := [.a [(y 1), e, (l [[(i 0)]]), bf, e, (y 1), (i 5), (i 0), bf, (y 1), m3, m4, m10, m11], .c (l [[(i 1)]])]
def r175 : List RA := [.c (.c (l [[(i 1), e]]))]
theorem g175 : vcall (VN tb0) rounds 6 71 p175 = some r175 := by kernel_rfl
theorem s175 : Spec Go.Proofs.Tryz.prog 71 p175 r175 := fact tk0 g175
def m13 : PV := l [[(y 1), (i 0), (i 0), e, e, e, e, e, e], [(y 2), (i 0), (i 0), m7, (l [[(i (-9223372036854775808))]]), e, e, e, e], [(y 4), (i 0), (i 0), e, (l [[(i (-9223372036854775808))]]), e, e, e, e], [(y 6), (i 0), (i 0), e, e, e, e, e, e]]
def p183 : List PA := [.a [(y 1), e, (l [[(i 0)]]), bf, e, (y 1), (i 5), (i 0), bf, (y 1), m3, m4, m13, m6], .c (l [[(i 1)]])]
def r183 : List RA := [.c (.c (l [[(i 1), e]]))]
theorem g183 : vcall (VN tb0) rounds 6 71 p183 = some r183 := by kernel_rfl
theorem s183 : Spec Go.Proofs.Tryz.prog 71 p183 r183 := fact tk0 g183
def p184 : List PA := [.a [(y 1), e, (l [[(i 0)]]), bf, e, (y 1), (i 5), (i 0), bf, (y 1), m3, m4, m13, m6], .c (l [[(i 2)]])]
def r184 : List RA := [.c (.c (l [[(i 1), e]]))]
theorem g184 : vcall (VN tb0) rounds 6 71 p184 = some r184 := by kernel_rfl
theorem s184 : Spec Go.Proofs.Tryz.prog 71 p184 r184 := fact tk0 g184
def p187 : List PA := [.a [(y 1), e, (l [[(i 0)]]), bf, e, (y 1), (i 5), (i 0), bf, (y 1), m3, m4, m13, m6], .c e]
def r187 : List RA := [.c (.c e)]
theorem g187 : vcall (VN tb0) rounds 6 71 p187 = some r187 := by kernel_rfl
theorem s187 : Spec Go.Proofs.Tryz.prog 71 p187 r187 := fact tk0 g187
def p190 : List PA := [.a [(y 1), e, (l [[(i 0)]]), bf, e, (y 1), (i 5), (i 0), bf, (y 1), m3, m4, m13, m6], .c (l [[(i 0)]])]
def r190 : List RA := [.c (.c (l [[(i 1), e]]))]
theorem g190 : vcall (VN tb0) rounds 6 71 p190 = some r190 := by kernel_rfl
theorem s190 : Spec Go.Proofs.Tryz.prog 71 p190 r190 := fact tk0 g190
def m14 : PV := l [[(i 1), e], [(i 1), m9], [(i 1), e]]
def p200 : List PA := [.a [(y 1), e, (l [[(i 0)]]), bf, e, (y 1), (i 5), (i 0), bf, (y 1), m3, m4, m10, m14], .c (l [[(i 1)]])]
def r200 : List RA := [.c (.c m12)]
theorem g200 : vcall (VN tb0) rounds 6 71 p200 = some r200 := by kernel_rfl
theorem s200 : Spec Go.Proofs.Tryz.prog 71 p200 r200 := fact tk0 g200
def p201 : List PA := [.a [(y 1), e, (l [[(i 0)]]), bf, e, (y 1), (i 5), (i 0), bf, (y 1), m3, m4, m10, m14], .c (l [[(i 2)]])]
def r201 : List RA := [.c (.c (l [[(i 1), e]]))]
theorem g201 : vcall (VN tb0) rounds 6 71 p201 = some r201 := by kernel_rfl
theorem s201 : Spec Go.Proofs.Tryz.prog 71 p201 r201 := fact tk0 g201
def p204 : List PA := [.a [(i 0), (i 0), (i 5), (i 1), (i 0), (i 0), (i 0), (i 0), (i 0), (i 0), (i 0)]]
def r204 : List RA := [.c (.c bt)]
theorem g204 : vcall (VN tb0) rounds 6 231 p204 = some r204 := by kernel_rfl
theorem s204 : Spec Go.Proofs.Tryz.prog 231 p204 r204 := fact tk0 g204
def m15 : PV := l [[(i 0), (i 0), (i 5), (i 1), (i 0), (i 0), (i 0), (i 0), (i 0), (i 0), (i 0)]]
def m16 : PV := l [[(y 1), (i 0), (i 0), e, e, e, e, e, e], [(y 2), (i 0), (i 0), e, (l [[(i (-9223372036854775808))]]), e, e, e, e], [(y 4), (i 0), (i 0), e, (l [[(i (-9223372036854775808))]]), m15, e, e, e], [(y 6), (i 0), (i 0), e, e, e, e, e, e]]
def p209 : List PA := [.a [(y 1), e, (l [[(i 0)]]), bf, e, (y 1), (i 5), (i 0), bf, (y 1), m3, m4, m16, m6], .c (l [[(i 2)]])]
def r209 : List RA := [.c (.c (l [[(i 1), e]]))]
theorem g209 : vcall (VN tb0) rounds 6 71 p209 = some r209 := by kernel_rfl
theorem s209 : Spec Go.Proofs.Tryz.prog 71 p209 r209 := fact tk0 g209
def p210 : List PA := [.a [(y 1), e, (l [[(i 0)]]), bf, e, (y 1), (i 5), (i 0), bf, (y 1), m3, m4, m16, m6], .c e]
def r210 : List RA := [.c (.c e)]
theorem g210 : vcall (VN tb0) rounds 6 71 p210 = some r210 := by kernel_rfl
theorem s210 : Spec Go.Proofs.Tryz.prog 71 p210 r210 := fact tk0 g210
def p213 : List PA := [.a [(y 1), e, (l [[(i 0)]]), bf, e, (y 1), (i 5), (i 0), bf, (y 1), m3, m4, m16, m6], .c (l [[(i 0)]])]
def r213 : List RA := [.c (.c (l [[(i 1), e]]))]
theorem g213 : vcall (VN tb0) rounds 6 71 p213 = some r213 := by kernel_rfl
theorem s213 : Spec Go.Proofs.Tryz.prog 71 p213 r213 := fact tk0 g213
def p216 : List PA := [.a [(y 1), e, (l [[(i 0)]]), bf, e, (y 1), (i 5), (i 0), bf, (y 1), m3, m4, m16, m6], .c (l [[(i 1)]])]
def r216 : List RA := [.c (.c (l [[(i 1), e]]))]
theorem g216 : vcall (VN tb0) rounds 6 71 p216 = some r216 := by kernel_rfl
theorem s216 : Spec Go.Proofs.Tryz.prog 71 p216 r216 := fact tk0 g216
def p222 : List PA := [.a [(y 1), e, (l [[(i 0)]]), bf, e, (y 1), (i 5), (i 0), bf, (y 1), m3, m4, m16, m6]]
def r222 : List RA := [.a [.c (y 1), .c e, .c (l [[(i 0)]]), .c bf, .c e, .c (y 1), .c (i 5), .c (i 0), .c bf, .c (y 1), .c m3, .c m4, .s 56 9 [[(y 1), (i 0), (i 0), e, e, e, e, e, e], [(y 2), (i 0), (i 0), e, (l [[(i (-9223372036854775808))]]), e, e, e, e], [(y 4), (i 0), (i 0), e, (l [[(i (-9223372036854775808))]]), m15, e, e, e], [(y 6), (i 0), (i 0), e, e, e, e, e, e]], .s 59 2 [[(i 1), e], [(i 1), e], [(i 1), e]]]]
theorem g222 : vcall (VN tb0) rounds 6 78 p222 = some r222 := by kernel_rfl
theorem s222 : Spec Go.Proofs.Tryz.prog 78 p222 r222 := fact tk0 g222
def p231 : List PA := [.a [(i 1), e], .a [(i 1), e]]
def r231 : List RA := [.c (.c bt)]
theorem g231 : vcall (VN tb0) rounds 6 131 p231 = some r231 := by kernel_rfl
theorem s231 : Spec Go.Proofs.Tryz.prog 131 p231 r231 := fact tk0 g231
def p232 : List PA := [.a [(y 1), (i 0), (i 0), e, e, e, m1, e, e], .a [(y 1), (i 0), (i 0), e, e, e, m1, e, e]]
def r232 : List RA := [.c (.c bt)]
theorem g232 : vcall (VN tb0) rounds 6 82 p232 = some r232 := by kernel_rfl
theorem s232 : Spec Go.Proofs.Tryz.prog 82 p232 r232 := fact tk0 g232
def p233 : List PA := [.a [(y 2), (i 0), (i 0), e, (l [[(i (-9223372036854775808))]]), e, e, e, e], .a [(y 2), (i 0), (i 0), e, (l [[(i (-9223372036854775808))]]), e, e, e, e]]
def r233 : List RA := [.c (.c bt)]
theorem g233 : vcall (VN tb0) rounds 6 82 p233 = some r233 := by kernel_rfl
theorem s233 : Spec Go.Proofs.Tryz.prog 82 p233 r233 := fact tk0 g233
def p234 : List PA := [.a [(y 4), (i 0), (i 0), e, (l [[(i (-9223372036854775808))]]), e, e, e, e], .a [(y 4), (i 0), (i 0), e, (l [[(i (-9223372036854775808))]]), e, e, e, e]]
def r234 : List RA := [.c (.c bt)]
theorem g234 : vcall (VN tb0) rounds 6 82 p234 = some r234 := by kernel_rfl
theorem s234 : Spec Go.Proofs.Tryz.prog 82 p234 r234 := fact tk0 g234
def p235 : List PA := [.a [(y 6), (i 0), (i 0), e, e, e, e, e, e], .a [(y 6), (i 0), (i 0), e, e, e, e, e, e]]
def r235 : List RA := [.c (.c bt)]
theorem g235 : vcall (VN tb0) rounds 6 82 p235 = some r235 := by kernel_rfl
theorem s235 : Spec Go.Proofs.Tryz.prog 82 p235 r235 := fact tk0 g235
def p243 : List PA := [.a [(y 1), e, (l [[(i 0)]]), bf, e, (y 1), (i 5), (i 0), bf, (y 1), m3, m4, m5, m6], .c (l [[(i 2)]])]
def r243 : List RA := [.c (.c (l [[(i 1), e]]))]
theorem g243 : vcall (VN tb0) rounds 6 71 p243 = some r243 := by kernel_rfl
theorem s243 : Spec Go.Proofs.Tryz.prog 71 p243 r243 := fact tk0 g243
def p246 : List PA := [.a [(y 1), e, (l [[(i 0)]]), bf, e, (y 1), (i 5), (i 0), bf, (y 1), m3, m4, m5, m6], .c (l [[(i 1)]])]
def r246 : List RA := [.c (.c (l [[(i 1), e]]))]
theorem g246 : vcall (VN tb0) rounds 6 71 p246 = some r246 := by kernel_rfl
theorem s246 : Spec Go.Proofs.Tryz.prog 71 p246 r246 := fact tk0 g246
def p251 : List PA := [.a [(y 1), e, (l [[(i 0)]]), bf, e, (y 1), (i 5), (i 0), bf, (y 1), m3, m4, m8, m6]]
def r251 : List RA := [.a [.c (y 1), .c e, .c (l [[(i 0)]]), .c bf, .c e, .c (y 1), .c (i 5), .c (i 0), .c bf, .c (y 1), .c m3, .c m4, .s 56 9 [[(y 1), (i 0), (i 0), m7, e, e, e, e, e], [(y 2), (i 0), (i 0), e, (l [[(i (-9223372036854775808))]]), e, e, e, e], [(y 4), (i 0), (i 0), e, (l [[(i (-9223372036854775808))]]), e, e, e, e], [(y 6), (i 0), (i 0), e, e, e, e, e, e]], .s 59 2 [[(i 1), e], [(i 1), e], [(i 1), e]]]]
theorem g251 : vcall (VN tb0) rounds 6 78 p251 = some r251 := by kernel_rfl
theorem s251 : Spec Go.Proofs.Tryz.prog 78 p251 r251 := fact tk0 g251
def p255 : List PA := [.a [(y 1), e, (l [[(i 0)]]), bf, e, (y 1), (i 5), (i 0), bf, (y 1), m3, m4, m10, m11]]
def r255 : List RA := [.a [.c (y 1), .c e, .c (l [[(i 0)]]), .c bf, .c e, .c (y 1), .c (i 5), .c (i 0), .c bf, .c (y 1), .c m3, .c m4, .s 56 9 [[(y 1), (i 0), (i 0), e, e, e, e, e, e], [(y 2), (i 0), (i 0), e, (l [[(i (-9223372036854775808))]]), e, e, e, e], [(y 4), (i 0), (i 0), e, (l [[(i (-9223372036854775808))]]), e, e, e, e], [(y 6), (i 0), (i 0), e, e, e, e, e, e]], .s 59 2 [[(i 1), m9], [(i 1), e], [(i 1), e]]]]
theorem g255 : vcall (VN tb0) rounds 6 78 p255 = some r255 := by kernel_rfl
theorem s255 : Spec Go.Proofs.Tryz.prog 78 p255 r255 := fact tk0 g255
def p259 : List PA := [.a [(y 1), e, (l [[(i 0)]]), bf, e, (y 1), (i 5), (i 0), bf, (y 1), m3, m4, m10, m11], .c (l [[(i 2)]])]
def r259 : List RA := [.c (.c (l [[(i 1), e]]))]
theorem g259 : vcall (VN tb0) rounds 6 71 p259 = some r259 := by kernel_rfl
theorem s259 : Spec Go.Proofs.Tryz.prog 71 p259 r259 := fact tk0 g259
def p260 : List PA := [.a [(y 1), e, (l [[(i 0)]]), bf, e, (y 1), (i 5), (i 0), bf, (y 1), m3, m4, m10, m11], .c e]
def r260 : List RA := [.c (.c e)]
theorem g260 : vcall (VN tb0) rounds 6 71 p260 = some r260 := by kernel_rfl
theorem s260 : Spec Go.Proofs.Tryz.prog 71 p260 r260 := fact tk0 g260
def p265 : List PA := [.a [(y 1), e, (l [[(i 0)]]), bf, e, (y 1), (i 5), (i 0), bf, (y 1), m3, m4, m13, m6]]
def r265 : List RA := [.a [.c (y 1), .c e, .c (l [[(i 0)]]), .c bf, .c e, .c (y 1), .c (i 5), .c (i 0), .c bf, .c (y 1), .c m3, .c m4, .s 56 9 [[(y 1), (i 0), (i 0), e, e, e, e, e, e], [(y 2), (i 0), (i 0), m7, (l [[(i (-9223372036854775808))]]), e, e, e, e], [(y 4), (i 0), (i 0), e, (l [[(i (-9223372036854775808))]]), e, e, e, e], [(y 6), (i 0), (i 0), e, e, e, e, e, e]], .s 59 2 [[(i 1), e], [(i 1), e], [(i 1), e]]]]
theorem g265 : vcall (VN tb0) rounds 6 78 p265 = some r265 := by kernel_rfl
theorem s265 : Spec Go.Proofs.Tryz.prog 78 p265 r265 := fact tk0 g265
def p269 : List PA := [.a [(y 1), e, (l [[(i 0)]]), bf, e, (y 1), (i 5), (i 0), bf, (y 1), m3, m4, m10, m14], .c e]
def r269 : List RA := [.c (.c e)]
theorem g269 : vcall (VN tb0) rounds 6 71 p269 = some r269 := by kernel_rfl
theorem s269 : Spec Go.Proofs.Tryz.prog 71 p269 r269 := fact tk0 g269
def p270 : List PA := [.a [(y 1), e, (l [[(i 0)]]), bf, e, (y 1), (i 5), (i 0), bf, (y 1), m3, m4, m10, m14], .c (l [[(i 0)]])]
def r270 : List RA := [.c (.c (l [[(i 1), e]]))]
theorem g270 : vcall (VN tb0) rounds 6 71 p270 = some r270 := by kernel_rfl
theorem s270 : Spec Go.Proofs.Tryz.prog 71 p270 r270 := fact tk0 g270
def p273 : List PA := [.a [(y 1), e, (l [[(i 0)]]), bf, e, (y 1), (i 5), (i 0), bf, (y 1), m3, m4, m10, m14]]
def r273 : List RA := [.a [.c (y 1), .c e, .c (l [[(i 0)]]), .c bf, .c e, .c (y 1), .c (i 5), .c (i 0), .c bf, .c (y 1), .c m3, .c m4, .s 56 9 [[(y 1), (i 0), (i 0), e, e, e, e, e, e], [(y 2), (i 0), (i 0), e, (l [[(i (-9223372036854775808))]]), e, e, e, e], [(y 4), (i 0), (i 0), e, (l [[(i (-9223372036854775808))]]), e, e, e, e], [(y 6), (i 0), (i 0), e, e, e, e, e, e]], .s 59 2 [[(i 1), e], [(i 1), m9], [(i 1), e]]]]
theorem g273 : vcall (VN tb0) rounds 6 78 p273 = some r273 := by kernel_rfl
theorem s273 : Spec Go.Proofs.Tryz.prog 78 p273 r273 := fact tk0 g273
def tb1 : List (FuncId × List PA × List RA) := [(134, p0, r0), (134, p1, r1), (134, p2, r2), (134, p3, r3), (134, p4, r4), (134, p5, r5), (173, p7, r7), (134, p8, r8), (134, p9, r9), (134, p10, r10), (134, p11, r11), (173, p13, r13), (134, p17, r17), (134, p21, r21), (134, p25, r25), (134, p26, r26), (134, p27, r27), (173, p29, r29), (134, p30, r30), (173, p32, r32), (134, p33, r33), (134, p34, r34), (134, p35, r35), (173, p37, r37), (134, p38, r38), (173, p40, r40), (134, p41, r41), (252, p43, r43), (254, p44, r44), (253, p45, r45), (290, p47, r47), (224, p51, r51), (224, p52, r52), (224, p53, r53), (224, p54, r54), (224, p55, r55), (224, p56, r56), (224, p57, r57), (224, p58, r58), (224, p59, r59), (224, p60, r60), (224, p61, r61), (224, p62, r62), (41, p65, r65), (93, p67, r67), (147, p69, r69), (47, p71, r71), (49, p72, r72), (51, p73, r73), (54, p74, r74), (187, p77, r77), (187, p78, r78), (187, p79, r79), (187, p80, r80), (187, p81, r81), (103, p84, r84), (189, p85, r85), (189, p86, r86), (72, p88, r88), (109, p89, r89), (189, p90, r90), (72, p92, r92), (109, p93, r93), (189, p94, r94), (72, p96, r96), (109, p97, r97), (72, p99, r99), (109, p100, r100), (41, p130, r130), (78, p139, r139), (71, p141, r141), (71, p142, r142), (71, p153, r153), (71, p154, r154), (71, p158, r158), (71, p162, r162), (156, p167, r167), (103, p172, r172), (71, p174, r174), (71, p175, r175), (71, p183, r183), (71, p184, r184), (71, p187, r187), (71, p190, r190), (71, p200, r200), (71, p201, r201), (231, p204, r204), (71, p209, r209), (71, p210, r210), (71, p213, r213), (71, p216, r216), (78, p222, r222), (131, p231, r231), (82, p232, r232), (82, p233, r233), (82, p234, r234), (82, p235, r235), (71, p243, r243), (71, p246, r246), (78, p251, r251), (78, p255, r255), (71, p259, r259), (71, p260, r260), (78, p265, r265), (71, p269, r269), (71, p270, r270), (78, p273, r273)] ++ tb0
theorem tk1 : TOK Go.Proofs.Tryz.prog tb1 := TOK.app (l := [(134, p0, r0), (134, p1, r1), (134, p2, r2), (134, p3, r3), (134, p4, r4), (134, p5, r5), (173, p7, r7), (134, p8, r8), (134, p9, r9), (134, p10, r10), (134, p11, r11), (173, p13, r13), (134, p17, r17), (134, p21, r21), (134, p25, r25), (134, p26, r26), (134, p27, r27), (173, p29, r29), (134, p30, r30), (173, p32, r32), (134, p33, r33), (134, p34, r34), (134, p35, r35), (173, p37, r37), (134, p38, r38), (173, p40, r40), (134, p41, r41), (252, p43, r43), (254, p44, r44), (253, p45, r45), (290, p47, r47), (224, p51, r51), (224, p52, r52), (224, p53, r53), (224, p54, r54), (224, p55, r55), (224, p56, r56), (224, p57, r57), (224, p58, r58), (224, p59, r59), (224, p60, r60), (224, p61, r61), (224, p62, r62), (41, p65, r65), (93, p67, r67), (147, p69, r69), (47, p71, r71), (49, p72, r72), (51, p73, r73), (54, p74, r74), (187, p77, r77), (187, p78, r78), (187, p79, r79), (187, p80, r80), (187, p81, r81), (103, p84, r84), (189, p85, r85), (189, p86, r86), (72, p88, r88), (109, p89, r89), (189, p90, r90), (72, p92, r92), (109, p93, r93), (189, p94, r94), (72, p96, r96), (109, p97, r97), (72, p99, r99), (109, p100, r100), (41, p130, r130), (78, p139, r139), (71, p141, r141), (71, p142, r142), (71, p153, r153), (71, p154, r154), (71, p158, r158), (71, p162, r162), (156, p167, r167), (103, p172, r172), (71, p174, r174), (71, p175, r175), (71, p183, r183), (71, p184, r184), (71, p187, r187), (71, p190, r190), (71, p200, r200), (71, p201, r201), (231, p204, r204), (71, p209, r209), (71, p210, r210), (71, p213, r213), (71, p216, r216), (78, p222, r222), (131, p231, r231), (82, p232, r232), (82, p233, r233), (82, p234, r234), (82, p235, r235), (71, p243, r243), (71, p246, r246), (78, p251, r251), (78, p255, r255), (71, p259, r259), (71, p260, r260), (78, p265, r265), (71, p269, r269), (71, p270, r270), (78, p273, r273)]) ⟨s0, s1, s2, s3, s4, s5, s7, s8, s9, s10, s11, s13, s17, s21, s25, s26, s27, s29, s30, s32, s33, s34, s35, s37, s38, s40, s41, s43, s44, s45, s47, s51, s52, s53, s54, s55, s56, s57, s58, s59, s60, s61, s62, s65, s67, s69, s71, s72, s73, s74, s77, s78, s79, s80, s81, s84, s85, s86, s88, s89, s90, s92, s93, s94, s96, s97, s99, s100, s130, s139, s141, s142, s153, s154, s158, s162, s167, s172, s174, s175, s183, s184, s187, s190, s200, s201, s204, s209, s210, s213, s216, s222, s231, s232, s233, s234, s235, s243, s246, s251, s255, s259, s260, s265, s269, s270, s273, trivial⟩ tk0
def p6 : List PA := [.c (s [115, 101, 108, 101, 99, 116, 32, 99, 111, 117, 110, 116, 40, 42, 41, 32, 102, 114, 111, 109, 32, 97, 32, 119, 105, 110, 100, 111, 119, 32, 116, 117, 109, 98, 108, 101, 32, 53])]
def r6 : List RA := [.a [.c (y 2), .c (s [115, 101, 108, 101, 99, 116]), .c (i 0)]]
theorem g6 : vcall (VN tb1) rounds 6 135 p6 = some r6 := by kernel_rfl
theorem s6 : Spec Go.Proofs.Tryz.prog 135 p6 r6 := fact tk1 g6
def p12 : List PA := [.c (s [99, 111, 117, 110, 116, 40, 42, 41, 32, 102, 114, 111, 109, 32, 97, 32, 119, 105, 110, 100, 111, 119, 32, 116, 117, 109, 98, 108, 101, 32, 53])]
def r12 : List RA := [.a [.c (y 2), .c (s [99, 111, 117, 110, 116]), .c (i 0)]]
theorem g12 : vcall (VN tb1) rounds 6 135 p12 = some r12 := by kernel_rfl
theorem s12 : Spec Go.Proofs.Tryz.prog 135 p12 r12 := fact tk1 g12
def p14 : List PA := [.c (s [40, 42, 41, 32, 102, 114, 111, 109, 32, 97, 32, 119, 105, 110, 100, 111, 119, 32, 116, 117, 109, 98, 108, 101, 32, 53]), .c (i 0)]
def r14 : List RA := [.c (.c (i 1)), .c (.c (i 0))]
theorem g14 : vcall (VN tb1) rounds 6 171 p14 = some r14 := by kernel_rfl
theorem s14 : Spec Go.Proofs.Tryz.prog 171 p14 r14 := fact tk1 g14
def p16 : List PA := [.c (s [40]), .c (i 0)]
def r16 : List RA := [.c (.c (i 1)), .c (.c (i 0))]
theorem g16 : vcall (VN tb1) rounds 6 171 p16 = some r16 := by kernel_rfl
theorem s16 : Spec Go.Proofs.Tryz.prog 171 p16 r16 := fact tk1 g16
def p18 : List PA := [.c (s [42, 41, 32, 102, 114, 111, 109, 32, 97, 32, 119, 105, 110, 100, 111, 119, 32, 116, 117, 109, 98, 108, 101, 32, 53]), .c (i 0)]
def r18 : List RA := [.c (.c (i 1)), .c (.c (i 0))]
theorem g18 : vcall (VN tb1) rounds 6 171 p18 = some r18 := by kernel_rfl
theorem s18 : Spec Go.Proofs.Tryz.prog 171 p18 r18 := fact tk1 g18
def p20 : List PA := [.c (s [42]), .c (i 0)]
def r20 : List RA := [.c (.c (i 1)), .c (.c (i 0))]
theorem g20 : vcall (VN tb1) rounds 6 171 p20 = some r20 := by kernel_rfl
theorem s20 : Spec Go.Proofs.Tryz.prog 171 p20 r20 := fact tk1 g20
def p22 : List PA := [.c (s [41, 32, 102, 114, 111, 109, 32, 97, 32, 119, 105, 110, 100, 111, 119, 32, 116, 117, 109, 98, 108, 101, 32, 53]), .c (i 0)]
def r22 : List RA := [.c (.c (i 1)), .c (.c (i 0))]
theorem g22 : vcall (VN tb1) rounds 6 171 p22 = some r22 := by kernel_rfl
theorem s22 : Spec Go.Proofs.Tryz.prog 171 p22 r22 := fact tk1 g22
def p24 : List PA := [.c (s [41]), .c (i 0)]
def r24 : List RA := [.c (.c (i 1)), .c (.c (i 0))]
theorem g24 : vcall (VN tb1) rounds 6 171 p24 = some r24 := by kernel_rfl
theorem s24 : Spec Go.Proofs.Tryz.prog 171 p24 r24 := fact tk1 g24
def p28 : List PA := [.c (s [102, 114, 111, 109, 32, 97, 32, 119, 105, 110, 100, 111, 119, 32, 116, 117, 109, 98, 108, 101, 32, 53])]
def r28 : List RA := [.a [.c (y 2), .c (s [102, 114, 111, 109]), .c (i 0)]]
theorem g28 : vcall (VN tb1) rounds 6 135 p28 = some r28 := by kernel_rfl
theorem s28 : Spec Go.Proofs.Tryz.prog 135 p28 r28 := fact tk1 g28
def p31 : List PA := [.c (s [97, 32, 119, 105, 110, 100, 111, 119, 32, 116, 117, 109, 98, 108, 101, 32, 53])]
def r31 : List RA := [.a [.c (y 2), .c (s [97]), .c (i 0)]]
theorem g31 : vcall (VN tb1) rounds 6 135 p31 = some r31 := by kernel_rfl
theorem s31 : Spec Go.Proofs.Tryz.prog 135 p31 r31 := fact tk1 g31
def p36 : List PA := [.c (s [119, 105, 110, 100, 111, 119, 32, 116, 117, 109, 98, 108, 101, 32, 53])]
def r36 : List RA := [.a [.c (y 2), .c (s [119, 105, 110, 100, 111, 119]), .c (i 0)]]
theorem g36 : vcall (VN tb1) rounds 6 135 p36 = some r36 := by kernel_rfl
theorem s36 : Spec Go.Proofs.Tryz.prog 135 p36 r36 := fact tk1 g36
def p39 : List PA := [.c (s [116, 117, 109, 98, 108, 101, 32, 53])]
def r39 : List RA := [.a [.c (y 2), .c (s [116, 117, 109, 98, 108, 101]), .c (i 0)]]
theorem g39 : vcall (VN tb1) rounds 6 135 p39 = some r39 := by kernel_rfl
theorem s39 : Spec Go.Proofs.Tryz.prog 135 p39 r39 := fact tk1 g39
def p42 : List PA := [.c (s [53])]
def r42 : List RA := [.a [.c (y 1), .c (s [53]), .c (i 0)]]
theorem g42 : vcall (VN tb1) rounds 6 135 p42 = some r42 := by kernel_rfl
theorem s42 : Spec Go.Proofs.Tryz.prog 135 p42 r42 := fact tk1 g42
def p46 : List PA := [.c (s [53]), .c (s [48, 49, 50, 51, 52, 53, 54, 55, 56, 57])]
def r46 : List RA := [.c (.c (s []))]
theorem g46 : vcall (VN tb1) rounds 6 218 p46 = some r46 := by kernel_rfl
theorem s46 : Spec Go.Proofs.Tryz.prog 218 p46 r46 := fact tk1 g46
def p48 : List PA := [.c (s [53]), .c (i 10), .c (i 64)]
def r48 : List RA := [.c (.c (i 5)), .c (.e false)]
theorem g48 : vcall (VN tb1) rounds 6 257 p48 = some r48 := by kernel_rfl
theorem s48 : Spec Go.Proofs.Tryz.prog 257 p48 r48 := fact tk1 g48
def p68 : List PA := [.a [(y 1), e, (l [[(i 0)]]), bf, e, (y 1), (i 5), (i 0), bf, (y 1)]]
def r68 : List RA := [.a [.c m0, .c (y 1), .c e, .c (l [[(i 0)]]), .c bf, .c e, .c (y 1), .c (i 5), .c (i 0), .c bf, .c (y 1)], .c (.c (i 0))]
theorem g68 : vcall (VN tb1) rounds 6 43 p68 = some r68 := by kernel_rfl
theorem s68 : Spec Go.Proofs.Tryz.prog 43 p68 r68 := fact tk1 g68
def p70 : List PA := [.a [m0, (y 1), e, (l [[(i 0)]]), bf, e, (y 1), (i 5), (i 0), bf, (y 1)], .c (i 1), .c (i 1)]
def r70 : List RA := [.a [.c m3, .c m4], .c (.c (i 0))]
theorem g70 : vcall (VN tb1) rounds 6 44 p70 = some r70 := by kernel_rfl
theorem s70 : Spec Go.Proofs.Tryz.prog 44 p70 r70 := fact tk1 g70
def p82 : List PA := [.a [m3, m4]]
def r82 : List RA := [.c (.c bt)]
theorem g82 : vcall (VN tb1) rounds 6 151 p82 = some r82 := by kernel_rfl
theorem s82 : Spec Go.Proofs.Tryz.prog 151 p82 r82 := fact tk1 g82
def p87 : List PA := [.a [(y 1), (i 0), (i 0), e, e, e, m1, e, e]]
def r87 : List RA := [.c (.c (i 0))]
theorem g87 : vcall (VN tb1) rounds 6 153 p87 = some r87 := by kernel_rfl
theorem s87 : Spec Go.Proofs.Tryz.prog 153 p87 r87 := fact tk1 g87
end Tn.Fa
