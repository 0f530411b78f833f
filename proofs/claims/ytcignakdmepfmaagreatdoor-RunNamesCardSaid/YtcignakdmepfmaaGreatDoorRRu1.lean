import Derived.Test.YtcignakdmepfmaaGreatDoorRRu0
/- Closed facts of one run, each by the kernel. -/
set_option linter.unusedVariables false
namespace Tn.Ru
open Go Go.Abs Tn
def p43 : List PA := [.c (s [48, 49, 50, 51, 52, 53, 54, 55, 56, 57])]
def r43 : List RA := [.a [.c bf, .c bf, .c bf, .c bf, .c bf, .c bf, .c bf, .c bf, .c bf, .c bf, .c bf, .c bf, .c bf, .c bf, .c bf, .c bf, .c bf, .c bf, .c bf, .c bf, .c bf, .c bf, .c bf, .c bf, .c bf, .c bf, .c bf, .c bf, .c bf, .c bf, .c bf, .c bf, .c bf, .c bf, .c bf, .c bf, .c bf, .c bf, .c bf, .c bf, .c bf, .c bf, .c bf, .c bf, .c bf, .c bf, .c bf, .c bf, .c bt, .c bt, .c bt, .c bt, .c bt, .c bt, .c bt, .c bt, .c bt, .c bt, .c bf, .c bf, .c bf, .c bf, .c bf, .c bf, .c bf, .c bf, .c bf, .c bf, .c bf, .c bf, .c bf, .c bf, .c bf, .c bf, .c bf, .c bf, .c bf, .c bf, .c bf, .c bf, .c bf, .c bf, .c bf, .c bf, .c bf, .c bf, .c bf, .c bf, .c bf, .c bf, .c bf, .c bf, .c bf, .c bf, .c bf, .c bf, .c bf, .c bf, .c bf, .c bf, .c bf, .c bf, .c bf, .c bf, .c bf, .c bf, .c bf, .c bf, .c bf, .c bf, .c bf, .c bf, .c bf, .c bf, .c bf, .c bf, .c bf, .c bf, .c bf, .c bf, .c bf, .c bf, .c bf, .c bf, .c bf, .c bf, .c bf, .c bf, .c bf, .c bf, .c bf, .c bf, .c bf, .c bf, .c bf, .c bf, .c bf, .c bf, .c bf, .c bf, .c bf, .c bf, .c bf, .c bf, .c bf, .c bf, .c bf, .c bf, .c bf, .c bf, .c bf, .c bf, .c bf, .c bf, .c bf, .c bf, .c bf, .c bf, .c bf, .c bf, .c bf, .c bf, .c bf, .c bf, .c bf, .c bf, .c bf, .c bf, .c bf, .c bf, .c bf, .c bf, .c bf, .c bf, .c bf, .c bf, .c bf, .c bf, .c bf, .c bf, .c bf, .c bf, .c bf, .c bf, .c bf, .c bf, .c bf, .c bf, .c bf, .c bf, .c bf, .c bf, .c bf, .c bf, .c bf, .c bf, .c bf, .c bf, .c bf, .c bf, .c bf, .c bf, .c bf, .c bf, .c bf, .c bf, .c bf, .c bf, .c bf, .c bf, .c bf, .c bf, .c bf, .c bf, .c bf, .c bf, .c bf, .c bf, .c bf, .c bf, .c bf, .c bf, .c bf, .c bf, .c bf, .c bf, .c bf, .c bf, .c bf, .c bf, .c bf, .c bf, .c bf, .c bf, .c bf, .c bf, .c bf, .c bf, .c bf, .c bf, .c bf, .c bf, .c bf, .c bf, .c bf, .c bf, .c bf, .c bf, .c bf, .c bf, .c bf, .c bf, .c bf, .c bf, .c bf, .c bf], .c (.c bt)]
theorem g43 : vcall (VN tb0) rounds 6 252 p43 = some r43 := by kernel_rfl
theorem s43 : Spec Go.Proofs.Tryz.prog 252 p43 r43 := fact tk0 g43
def p44 : List PA := [.c (s [53]), .q [bf, bf, bf, bf, bf, bf, bf, bf, bf, bf, bf, bf, bf, bf, bf, bf, bf, bf, bf, bf, bf, bf, bf, bf, bf, bf, bf, bf, bf, bf, bf, bf, bf, bf, bf, bf, bf, bf, bf, bf, bf, bf, bf, bf, bf, bf, bf, bf, bt, bt, bt, bt, bt, bt, bt, bt, bt, bt, bf, bf, bf, bf, bf, bf, bf, bf, bf, bf, bf, bf, bf, bf, bf, bf, bf, bf, bf, bf, bf, bf, bf, bf, bf, bf, bf, bf, bf, bf, bf, bf, bf, bf, bf, bf, bf, bf, bf, bf, bf, bf, bf, bf, bf, bf, bf, bf, bf, bf, bf, bf, bf, bf, bf, bf, bf, bf, bf, bf, bf, bf, bf, bf, bf, bf, bf, bf, bf, bf, bf, bf, bf, bf, bf, bf, bf, bf, bf, bf, bf, bf, bf, bf, bf, bf, bf, bf, bf, bf, bf, bf, bf, bf, bf, bf, bf, bf, bf, bf, bf, bf, bf, bf, bf, bf, bf, bf, bf, bf, bf, bf, bf, bf, bf, bf, bf, bf, bf, bf, bf, bf, bf, bf, bf, bf, bf, bf, bf, bf, bf, bf, bf, bf, bf, bf, bf, bf, bf, bf, bf, bf, bf, bf, bf, bf, bf, bf, bf, bf, bf, bf, bf, bf, bf, bf, bf, bf, bf, bf, bf, bf, bf, bf, bf, bf, bf, bf, bf, bf, bf, bf, bf, bf, bf, bf, bf, bf, bf, bf, bf, bf, bf, bf, bf, bf, bf, bf, bf, bf, bf, bf, bf, bf, bf, bf, bf, bf]]
def r44 : List RA := [.c (.c (s []))]
theorem g44 : vcall (VN tb0) rounds 6 254 p44 = some r44 := by kernel_rfl
theorem s44 : Spec Go.Proofs.Tryz.prog 254 p44 r44 := fact tk0 g44
def p45 : List PA := [.c (s []), .q [bf, bf, bf, bf, bf, bf, bf, bf, bf, bf, bf, bf, bf, bf, bf, bf, bf, bf, bf, bf, bf, bf, bf, bf, bf, bf, bf, bf, bf, bf, bf, bf, bf, bf, bf, bf, bf, bf, bf, bf, bf, bf, bf, bf, bf, bf, bf, bf, bt, bt, bt, bt, bt, bt, bt, bt, bt, bt, bf, bf, bf, bf, bf, bf, bf, bf, bf, bf, bf, bf, bf, bf, bf, bf, bf, bf, bf, bf, bf, bf, bf, bf, bf, bf, bf, bf, bf, bf, bf, bf, bf, bf, bf, bf, bf, bf, bf, bf, bf, bf, bf, bf, bf, bf, bf, bf, bf, bf, bf, bf, bf, bf, bf, bf, bf, bf, bf, bf, bf, bf, bf, bf, bf, bf, bf, bf, bf, bf, bf, bf, bf, bf, bf, bf, bf, bf, bf, bf, bf, bf, bf, bf, bf, bf, bf, bf, bf, bf, bf, bf, bf, bf, bf, bf, bf, bf, bf, bf, bf, bf, bf, bf, bf, bf, bf, bf, bf, bf, bf, bf, bf, bf, bf, bf, bf, bf, bf, bf, bf, bf, bf, bf, bf, bf, bf, bf, bf, bf, bf, bf, bf, bf, bf, bf, bf, bf, bf, bf, bf, bf, bf, bf, bf, bf, bf, bf, bf, bf, bf, bf, bf, bf, bf, bf, bf, bf, bf, bf, bf, bf, bf, bf, bf, bf, bf, bf, bf, bf, bf, bf, bf, bf, bf, bf, bf, bf, bf, bf, bf, bf, bf, bf, bf, bf, bf, bf, bf, bf, bf, bf, bf, bf, bf, bf, bf, bf]]
def r45 : List RA := [.c (.c (s []))]
theorem g45 : vcall (VN tb0) rounds 6 253 p45 = some r45 := by kernel_rfl
theorem s45 : Spec Go.Proofs.Tryz.prog 253 p45 r45 := fact tk0 g45
def p47 : List PA := [.c (s [53]), .c (i 10), .c (i 64)]
def r47 : List RA := [.c (.c (.int .u64 5)), .c (.e false)]
theorem g47 : vcall (VN tb0) rounds 6 290 p47 = some r47 := by kernel_rfl
theorem s47 : Spec Go.Proofs.Tryz.prog 290 p47 r47 := fact tk0 g47
def p51 : List PA := [.c (l [[(s [115, 101, 108, 101, 99, 116])]]), .c (s [115, 101, 108, 101, 99, 116])]
def r51 : List RA := [.c (.c (i 0))]
theorem g51 : vcall (VN tb0) rounds 6 224 p51 = some r51 := by kernel_rfl
theorem s51 : Spec Go.Proofs.Tryz.prog 224 p51 r51 := fact tk0 g51
def p52 : List PA := [.c (l [[(s [99, 111, 117, 110, 116])], [(s [115, 117, 109])], [(s [109, 105, 110])], [(s [109, 97, 120])]]), .c (s [99, 111, 117, 110, 116])]
def r52 : List RA := [.c (.c (i 0))]
theorem g52 : vcall (VN tb0) rounds 6 224 p52 = some r52 := by kernel_rfl
theorem s52 : Spec Go.Proofs.Tryz.prog 224 p52 r52 := fact tk0 g52
def p53 : List PA := [.c (l [[(s [40])]]), .c (s [40])]
def r53 : List RA := [.c (.c (i 0))]
theorem g53 : vcall (VN tb0) rounds 6 224 p53 = some r53 := by kernel_rfl
theorem s53 : Spec Go.Proofs.Tryz.prog 224 p53 r53 := fact tk0 g53
def p54 : List PA := [.c (l [[(s [42])]]), .c (s [42])]
def r54 : List RA := [.c (.c (i 0))]
theorem g54 : vcall (VN tb0) rounds 6 224 p54 = some r54 := by kernel_rfl
theorem s54 : Spec Go.Proofs.Tryz.prog 224 p54 r54 := fact tk0 g54
def p55 : List PA := [.c (l [[(s [41])]]), .c (s [41])]
def r55 : List RA := [.c (.c (i 0))]
theorem g55 : vcall (VN tb0) rounds 6 224 p55 = some r55 := by kernel_rfl
theorem s55 : Spec Go.Proofs.Tryz.prog 224 p55 r55 := fact tk0 g55
def p56 : List PA := [.c (l [[(s [102, 114, 111, 109])]]), .c (s [102, 114, 111, 109])]
def r56 : List RA := [.c (.c (i 0))]
theorem g56 : vcall (VN tb0) rounds 6 224 p56 = some r56 := by kernel_rfl
theorem s56 : Spec Go.Proofs.Tryz.prog 224 p56 r56 := fact tk0 g56
def p57 : List PA := [.c (l [[(s [97])], [(s [98])], [(s [99])], [(s [100])]]), .c (s [97])]
def r57 : List RA := [.c (.c (i 0))]
theorem g57 : vcall (VN tb0) rounds 6 224 p57 = some r57 := by kernel_rfl
theorem s57 : Spec Go.Proofs.Tryz.prog 224 p57 r57 := fact tk0 g57
def p58 : List PA := [.c (l [[(s [106, 111, 105, 110])]]), .c (s [119, 105, 110, 100, 111, 119])]
def r58 : List RA := [.c (.c (i (-1)))]
theorem g58 : vcall (VN tb0) rounds 6 224 p58 = some r58 := by kernel_rfl
theorem s58 : Spec Go.Proofs.Tryz.prog 224 p58 r58 := fact tk0 g58
def p59 : List PA := [.c (l [[(s [117, 110, 105, 111, 110])]]), .c (s [119, 105, 110, 100, 111, 119])]
def r59 : List RA := [.c (.c (i (-1)))]
theorem g59 : vcall (VN tb0) rounds 6 224 p59 = some r59 := by kernel_rfl
theorem s59 : Spec Go.Proofs.Tryz.prog 224 p59 r59 := fact tk0 g59
def p60 : List PA := [.c (l [[(s [119, 104, 101, 114, 101])]]), .c (s [119, 105, 110, 100, 111, 119])]
def r60 : List RA := [.c (.c (i (-1)))]
theorem g60 : vcall (VN tb0) rounds 6 224 p60 = some r60 := by kernel_rfl
theorem s60 : Spec Go.Proofs.Tryz.prog 224 p60 r60 := fact tk0 g60
def p61 : List PA := [.c (l [[(s [119, 105, 110, 100, 111, 119])]]), .c (s [119, 105, 110, 100, 111, 119])]
def r61 : List RA := [.c (.c (i 0))]
theorem g61 : vcall (VN tb0) rounds 6 224 p61 = some r61 := by kernel_rfl
theorem s61 : Spec Go.Proofs.Tryz.prog 224 p61 r61 := fact tk0 g61
def p62 : List PA := [.c (l [[(s [116, 117, 109, 98, 108, 101])], [(s [115, 108, 105, 100, 101])], [(s [115, 101, 115, 115, 105, 111, 110])]]), .c (s [116, 117, 109, 98, 108, 101])]
def r62 : List RA := [.c (.c (i 0))]
theorem g62 : vcall (VN tb0) rounds 6 224 p62 = some r62 := by kernel_rfl
theorem s62 : Spec Go.Proofs.Tryz.prog 224 p62 r62 := fact tk0 g62
def p65 : List PA := [.a [(y 1), e, (l [[(i 0)]]), bf, e, (y 1), (i 5), (i 0), bf, (y 1)]]
def r65 : List RA := [.c (.c (i 0)), .c (.c (i 0))]
theorem g65 : vcall (VN tb0) rounds 6 41 p65 = some r65 := by kernel_rfl
theorem s65 : Spec Go.Proofs.Tryz.prog 41 p65 r65 := fact tk0 g65
def p67 : List PA := [.a [(y 1), e, (l [[(i 0)]]), bf, e, (y 1), (i 5), (i 0), bf, (y 1)]]
def r67 : List RA := [.c (.s 5 1 [[(y 1)], [(y 2)], [(y 4)], [(y 6)], [(y 7)], [(y 9)]])]
theorem g67 : vcall (VN tb0) rounds 6 93 p67 = some r67 := by kernel_rfl
theorem s67 : Spec Go.Proofs.Tryz.prog 93 p67 r67 := fact tk0 g67
def m0 : PV := l [[(y 1)], [(y 2)], [(y 4)], [(y 6)], [(y 7)], [(y 9)]]
def p69 : List PA := [.c m0, .c m0]
def r69 : List RA := [.c (.c bt)]
theorem g69 : vcall (VN tb0) rounds 6 147 p69 = some r69 := by kernel_rfl
theorem s69 : Spec Go.Proofs.Tryz.prog 147 p69 r69 := fact tk0 g69
def m1 : PV := l [[bf, (i 0), (i 0), (i 3), (i 0)], [bt, (i 9223372036854775807), (i 0), (i 0), (i 0)]]
def m2 : PV := l [[m1]]
def p71 : List PA := [.c (i 0), .q [m2]]
def r71 : List RA := [.a [.c (y 1), .c (i 0), .c (i 0), .c e, .c e, .c e, .s 34 5 [[bf, (i 0), (i 0), (i 3), (i 0)], [bt, (i 9223372036854775807), (i 0), (i 0), (i 0)]], .c e, .c e], .c (.c (i 0))]
theorem g71 : vcall (VN tb0) rounds 6 47 p71 = some r71 := by kernel_rfl
theorem s71 : Spec Go.Proofs.Tryz.prog 47 p71 r71 := fact tk0 g71
def p72 : List PA := [.c (i 0)]
def r72 : List RA := [.a [.c (y 2), .c (i 0), .c (i 0), .c e, .s 2 1 [[(i (-9223372036854775808))]], .c e, .c e, .c e, .c e], .c (.c (i 0))]
theorem g72 : vcall (VN tb0) rounds 6 49 p72 = some r72 := by kernel_rfl
theorem s72 : Spec Go.Proofs.Tryz.prog 49 p72 r72 := fact tk0 g72
def p73 : List PA := [.c (i 0), .q [(y 1), e, (l [[(i 0)]]), bf, e, (y 1), (i 5), (i 0), bf, (y 1)]]
def r73 : List RA := [.a [.c (y 4), .c (i 0), .c (i 0), .c e, .s 2 1 [[(i (-9223372036854775808))]], .c e, .c e, .c e, .c e], .c (.c (i 0))]
theorem g73 : vcall (VN tb0) rounds 6 51 p73 = some r73 := by kernel_rfl
theorem s73 : Spec Go.Proofs.Tryz.prog 51 p73 r73 := fact tk0 g73
def p74 : List PA := [.c (i 0)]
def r74 : List RA := [.a [.c (y 6), .c (i 0), .c (i 0), .c e, .c e, .c e, .c e, .c e, .c e], .c (.c (i 0))]
theorem g74 : vcall (VN tb0) rounds 6 54 p74 = some r74 := by kernel_rfl
theorem s74 : Spec Go.Proofs.Tryz.prog 54 p74 r74 := fact tk0 g74
def p77 : List PA := [.c e, .a [(i 0), (i 0)]]
def r77 : List RA := [.c (.c bt)]
theorem g77 : vcall (VN tb0) rounds 6 187 p77 = some r77 := by kernel_rfl
theorem s77 : Spec Go.Proofs.Tryz.prog 187 p77 r77 := fact tk0 g77
def p78 : List PA := [.c (l [[(i 0)]]), .a [(i 1), (i 1)]]
def r78 : List RA := [.c (.c bt)]
theorem g78 : vcall (VN tb0) rounds 6 187 p78 = some r78 := by kernel_rfl
theorem s78 : Spec Go.Proofs.Tryz.prog 187 p78 r78 := fact tk0 g78
def p79 : List PA := [.c (l [[(i 0)]]), .a [(i 1), (i 2)]]
def r79 : List RA := [.c (.c bt)]
theorem g79 : vcall (VN tb0) rounds 6 187 p79 = some r79 := by kernel_rfl
theorem s79 : Spec Go.Proofs.Tryz.prog 187 p79 r79 := fact tk0 g79
def p80 : List PA := [.c (l [[(i 0)]]), .a [(i 1), (i 4)]]
def r80 : List RA := [.c (.c bt)]
theorem g80 : vcall (VN tb0) rounds 6 187 p80 = some r80 := by kernel_rfl
theorem s80 : Spec Go.Proofs.Tryz.prog 187 p80 r80 := fact tk0 g80
def p81 : List PA := [.c (l [[(i 0)]]), .a [(i 1), (i 3)]]
def r81 : List RA := [.c (.c bt)]
theorem g81 : vcall (VN tb0) rounds 6 187 p81 = some r81 := by kernel_rfl
theorem s81 : Spec Go.Proofs.Tryz.prog 187 p81 r81 := fact tk0 g81
def p84 : List PA := [.a [(i 1), e]]
def r84 : List RA := [.c (.c (i 0))]
theorem g84 : vcall (VN tb0) rounds 6 103 p84 = some r84 := by kernel_rfl
theorem s84 : Spec Go.Proofs.Tryz.prog 103 p84 r84 := fact tk0 g84
def p85 : List PA := [.c bf, .c (i 4000)]
def r85 : List RA := [.c (.c (i 0))]
theorem g85 : vcall (VN tb0) rounds 6 189 p85 = some r85 := by kernel_rfl
theorem s85 : Spec Go.Proofs.Tryz.prog 189 p85 r85 := fact tk0 g85
def p86 : List PA := [.c bt, .c (i 60)]
def r86 : List RA := [.c (.c (i 60))]
theorem g86 : vcall (VN tb0) rounds 6 189 p86 = some r86 := by kernel_rfl
theorem s86 : Spec Go.Proofs.Tryz.prog 189 p86 r86 := fact tk0 g86
def m3 : PV := l [[(y 1), (i 0)], [(y 2), (i 0)], [(y 4), (i 0)], [(y 6), (i 0)]]
def m4 : PV := l [[(i 0), (i 0), (i 1), (i 0), (i 1)], [(i 1), (i 0), (i 2), (i 0), (i 1)], [(i 2), (i 0), (i 3), (i 0), (i 1)]]
def p88 : List PA := [.a [m3, m4], .c (i 0)]
def r88 : List RA := [.c (.c e)]
theorem g88 : vcall (VN tb0) rounds 6 72 p88 = some r88 := by kernel_rfl
theorem s88 : Spec Go.Proofs.Tryz.prog 72 p88 r88 := fact tk0 g88
def p89 : List PA := [.a [m3, m4], .c (i 0)]
def r89 : List RA := [.c (.c (l [[(i 0)]]))]
theorem g89 : vcall (VN tb0) rounds 6 109 p89 = some r89 := by kernel_rfl
theorem s89 : Spec Go.Proofs.Tryz.prog 109 p89 r89 := fact tk0 g89
def p90 : List PA := [.c bf, .c (i 60)]
def r90 : List RA := [.c (.c (i 0))]
theorem g90 : vcall (VN tb0) rounds 6 189 p90 = some r90 := by kernel_rfl
theorem s90 : Spec Go.Proofs.Tryz.prog 189 p90 r90 := fact tk0 g90
def p92 : List PA := [.a [m3, m4], .c (i 1)]
def r92 : List RA := [.c (.c (l [[(i 0)]]))]
theorem g92 : vcall (VN tb0) rounds 6 72 p92 = some r92 := by kernel_rfl
theorem s92 : Spec Go.Proofs.Tryz.prog 72 p92 r92 := fact tk0 g92
def p93 : List PA := [.a [m3, m4], .c (i 1)]
def r93 : List RA := [.c (.c (l [[(i 1)]]))]
theorem g93 : vcall (VN tb0) rounds 6 109 p93 = some r93 := by kernel_rfl
theorem s93 : Spec Go.Proofs.Tryz.prog 109 p93 r93 := fact tk0 g93
def p94 : List PA := [.c bt, .c (i 4000)]
def r94 : List RA := [.c (.c (i 4000))]
theorem g94 : vcall (VN tb0) rounds 6 189 p94 = some r94 := by kernel_rfl
theorem s94 : Spec Go.Proofs.Tryz.prog 189 p94 r94 := fact tk0 g94
def p96 : List PA := [.a [m3, m4], .c (i 2)]
def r96 : List RA := [.c (.c (l [[(i 1)]]))]
theorem g96 : vcall (VN tb0) rounds 6 72 p96 = some r96 := by kernel_rfl
theorem s96 : Spec Go.Proofs.Tryz.prog 72 p96 r96 := fact tk0 g96
def p97 : List PA := [.a [m3, m4], .c (i 2)]
def r97 : List RA := [.c (.c (l [[(i 2)]]))]
theorem g97 : vcall (VN tb0) rounds 6 109 p97 = some r97 := by kernel_rfl
theorem s97 : Spec Go.Proofs.Tryz.prog 109 p97 r97 := fact tk0 g97
def p99 : List PA := [.a [m3, m4], .c (i 3)]
def r99 : List RA := [.c (.c (l [[(i 2)]]))]
theorem g99 : vcall (VN tb0) rounds 6 72 p99 = some r99 := by kernel_rfl
theorem s99 : Spec Go.Proofs.Tryz.prog 72 p99 r99 := fact tk0 g99
def p100 : List PA := [.a [m3, m4], .c (i 3)]
def r100 : List RA := [.c (.c e)]
theorem g100 : vcall (VN tb0) rounds 6 109 p100 = some r100 := by kernel_rfl
theorem s100 : Spec Go.Proofs.Tryz.prog 109 p100 r100 := fact tk0 g100
def p119 : List PA := [.a [(y 0), e, e, bf, e, (y 0), (i 0), (i 0), bf, (y 0)]]
def r119 : List RA := [.c (.c (i 0)), .c (.c (i 8))]
theorem g119 : vcall (VN tb0) rounds 6 41 p119 = some r119 := by kernel_rfl
theorem s119 : Spec Go.Proofs.Tryz.prog 41 p119 r119 := fact tk0 g119
def m5 : PV := l [[(i 0), (i (-1))], [(i 0), (i (-1))], [(i 1), (i (-1))], [(i 1), (i (-1))], [(i 0), (i (-1))], [(i 0), (i (-1))], [(i 2), (i (-1))], [(i 1), (i (-1))], [(i 1), (i (-1))], [(i 2), (i (-1))], [(i 2), (i (-1))], [(i 3), (i (-1))], [(i 3), (i (-1))]]
def p123 : List PA := [.c (l [[(i 0)], [(i 0)], [(i 1)], [(i 1)], [(i 0)], [(i 0)], [(i 2)], [(i 1)], [(i 1)], [(i 2)], [(i 2)], [(i 3)], [(i 3)]])]
def r123 : List RA := [.c (.c m5)]
theorem g123 : vcall (VN tb0) rounds 6 25 p123 = some r123 := by kernel_rfl
theorem s123 : Spec Go.Proofs.Tryz.prog 25 p123 r123 := fact tk0 g123
def m6 : PV := l [[(y 1), (i 0), (i 0), e, e, e, m1, e, e], [(y 2), (i 0), (i 0), e, (l [[(i (-9223372036854775808))]]), e, e, e, e], [(y 4), (i 0), (i 0), e, (l [[(i (-9223372036854775808))]]), e, e, e, e], [(y 6), (i 0), (i 0), e, e, e, e, e, e]]
def m7 : PV := l [[(i 1), e], [(i 1), e], [(i 1), e]]
def p124 : List PA := [.a [(y 1), e, (l [[(i 0)]]), bf, e, (y 1), (i 5), (i 0), bf, (y 1), m3, m4, m6, m7], .c e]
def r124 : List RA := [.c (.c e)]
theorem g124 : vcall (VN tb0) rounds 6 71 p124 = some r124 := by kernel_rfl
theorem s124 : Spec Go.Proofs.Tryz.prog 71 p124 r124 := fact tk0 g124
def p125 : List PA := [.a [(y 1), e, (l [[(i 0)]]), bf, e, (y 1), (i 5), (i 0), bf, (y 1), m3, m4, m6, m7], .c (l [[(i 0)]])]
def r125 : List RA := [.c (.c (l [[(i 1), e]]))]
theorem g125 : vcall (VN tb0) rounds 6 71 p125 = some r125 := by kernel_rfl
theorem s125 : Spec Go.Proofs.Tryz.prog 71 p125 r125 := fact tk0 g125
def m8 : PV := l [[(i 0), (y 1), (i 0), (i 3), (i 0), (i 0), (i 0), (i 0), (i 0), (i 0), (i 0)]]
def m9 : PV := l [[bt, (i 9223372036854775807), (i 0), (i 0), (i 0)]]
def m10 : PV := l [[(y 1), (i 0), (i 0), m8, e, e, m9, e, e], [(y 2), (i 0), (i 0), e, (l [[(i (-9223372036854775808))]]), e, e, e, e], [(y 4), (i 0), (i 0), e, (l [[(i (-9223372036854775808))]]), e, e, e, e], [(y 6), (i 0), (i 0), e, e, e, e, e, e]]
def p136 : List PA := [.a [(y 1), e, (l [[(i 0)]]), bf, e, (y 1), (i 5), (i 0), bf, (y 1), m3, m4, m10, m7], .c e]
def r136 : List RA := [.c (.c e)]
theorem g136 : vcall (VN tb0) rounds 6 71 p136 = some r136 := by kernel_rfl
theorem s136 : Spec Go.Proofs.Tryz.prog 71 p136 r136 := fact tk0 g136
def p137 : List PA := [.a [(y 1), e, (l [[(i 0)]]), bf, e, (y 1), (i 5), (i 0), bf, (y 1), m3, m4, m10, m7], .c (l [[(i 0)]])]
def r137 : List RA := [.c (.c (l [[(i 1), e]]))]
theorem g137 : vcall (VN tb0) rounds 6 71 p137 = some r137 := by kernel_rfl
theorem s137 : Spec Go.Proofs.Tryz.prog 71 p137 r137 := fact tk0 g137
def p139 : List PA := [.a [(i 1), e], .a [(y 1), (i 0), (i 3), (i 0), (i 0), (i 0), (i 0), (i 0), (i 0), (i 0)]]
def r139 : List RA := [.a [.c (i 1), .s 154 10 [[(y 1), (i 0), (i 3), (i 0), (i 0), (i 0), (i 0), (i 0), (i 0), (i 0)]]], .c (.c (i 0))]
theorem g139 : vcall (VN tb0) rounds 6 156 p139 = some r139 := by kernel_rfl
theorem s139 : Spec Go.Proofs.Tryz.prog 156 p139 r139 := fact tk0 g139
def m11 : PV := l [[(y 1), (i 0), (i 3), (i 0), (i 0), (i 0), (i 0), (i 0), (i 0), (i 0)]]
def p144 : List PA := [.a [(i 1), m11]]
def r144 : List RA := [.c (.c (i 0))]
theorem g144 : vcall (VN tb0) rounds 6 103 p144 = some r144 := by kernel_rfl
theorem s144 : Spec Go.Proofs.Tryz.prog 103 p144 r144 := fact tk0 g144
def m12 : PV := l [[(y 1), (i 0), (i 0), e, e, e, m9, e, e], [(y 2), (i 0), (i 0), e, (l [[(i (-9223372036854775808))]]), e, e, e, e], [(y 4), (i 0), (i 0), e, (l [[(i (-9223372036854775808))]]), e, e, e, e], [(y 6), (i 0), (i 0), e, e, e, e, e, e]]
def m13 : PV := l [[(i 1), m11], [(i 1), e], [(i 1), e]]
def m14 : PV := l [[(i 1), m11]]
def p146 : List PA := [.a [(y 1), e, (l [[(i 0)]]), bf, e, (y 1), (i 5), (i 0), bf, (y 1), m3, m4, m12, m13], .c (l [[(i 0)]])]
def r146 : List RA := [.c (.c m14)]
theorem g146 : vcall (VN tb0) rounds 6 71 p146 = some r146 := by kernel_rfl
theorem s146 : Spec Go.Proofs.Tryz.prog 71 p146 r146 := fact tk0 g146
def p147 : List PA := [.a [(y 1), e, (l [[(i 0)]]), bf, e, (y 1), (i 5), (i 0), bf, (y 1), m3, m4, m12, m13], .c (l [[(i 1)]])]
def r147 : List RA := [.c (.c (l [[(i 1), e]]))]
theorem g147 : vcall (VN tb0) rounds 6 71 p147 = some r147 := by kernel_rfl
theorem s147 : Spec Go.Proofs.Tryz.prog 71 p147 r147 := fact tk0 g147
def m15 : PV := l [[(y 1), (i 0), (i 0), e, e, e, m9, e, e], [(y 2), (i 0), (i 0), m8, (l [[(i (-9223372036854775808))]]), e, e, e, e], [(y 4), (i 0), (i 0), e, (l [[(i (-9223372036854775808))]]), e, e, e, e], [(y 6), (i 0), (i 0), e, e, e, e, e, e]]
def p155 : List PA := [.a [(y 1), e, (l [[(i 0)]]), bf, e, (y 1), (i 5), (i 0), bf, (y 1), m3, m4, m15, m7], .c (l [[(i 0)]])]
def r155 : List RA := [.c (.c (l [[(i 1), e]]))]
theorem g155 : vcall (VN tb0) rounds 6 71 p155 = some r155 := by kernel_rfl
theorem s155 : Spec Go.Proofs.Tryz.prog 71 p155 r155 := fact tk0 g155
def p156 : List PA := [.a [(y 1), e, (l [[(i 0)]]), bf, e, (y 1), (i 5), (i 0), bf, (y 1), m3, m4, m15, m7], .c (l [[(i 1)]])]
def r156 : List RA := [.c (.c (l [[(i 1), e]]))]
theorem g156 : vcall (VN tb0) rounds 6 71 p156 = some r156 := by kernel_rfl
theorem s156 : Spec Go.Proofs.Tryz.prog 71 p156 r156 := fact tk0 g156
def m16 : PV := l [[(i 1), e], [(i 1), m11], [(i 1), e]]
def p163 : List PA := [.a [(y 1), e, (l [[(i 0)]]), bf, e, (y 1), (i 5), (i 0), bf, (y 1), m3, m4, m12, m16], .c e]
def r163 : List RA := [.c (.c e)]
theorem g163 : vcall (VN tb0) rounds 6 71 p163 = some r163 := by kernel_rfl
theorem s163 : Spec Go.Proofs.Tryz.prog 71 p163 r163 := fact tk0 g163
def p164 : List PA := [.a [(y 1), e, (l [[(i 0)]]), bf, e, (y 1), (i 5), (i 0), bf, (y 1), m3, m4, m12, m16], .c (l [[(i 0)]])]
def r164 : List RA := [.c (.c (l [[(i 1), e]]))]
theorem g164 : vcall (VN tb0) rounds 6 71 p164 = some r164 := by kernel_rfl
theorem s164 : Spec Go.Proofs.Tryz.prog 71 p164 r164 := fact tk0 g164
def m17 : PV := l [[(i 0), (y 2), (i 0), (i 0), (i 0), (i 9223372036854775807), (i 0), (i 0), (i 0), (i 0), (i 0)]]
def m18 : PV := l [[(y 1), (i 0), (i 0), m17, e, e, e, e, e], [(y 2), (i 0), (i 0), e, (l [[(i (-9223372036854775808))]]), e, e, e, e], [(y 4), (i 0), (i 0), e, (l [[(i (-9223372036854775808))]]), e, e, e, e], [(y 6), (i 0), (i 0), e, e, e, e, e, e]]
def p171 : List PA := [.a [(y 1), e, (l [[(i 0)]]), bf, e, (y 1), (i 5), (i 0), bf, (y 1), m3, m4, m18, m16], .c e]
def r171 : List RA := [.c (.c e)]
theorem g171 : vcall (VN tb0) rounds 6 71 p171 = some r171 := by kernel_rfl
theorem s171 : Spec Go.Proofs.Tryz.prog 71 p171 r171 := fact tk0 g171
def p172 : List PA := [.a [(y 1), e, (l [[(i 0)]]), bf, e, (y 1), (i 5), (i 0), bf, (y 1), m3, m4, m18, m16], .c (l [[(i 0)]])]
def r172 : List RA := [.c (.c (l [[(i 1), e]]))]
theorem g172 : vcall (VN tb0) rounds 6 71 p172 = some r172 := by kernel_rfl
theorem s172 : Spec Go.Proofs.Tryz.prog 71 p172 r172 := fact tk0 g172
def p174 : List PA := [.a [(i 1), e], .a [(y 2), (i 0), (i 0), (i 0), (i 9223372036854775807), (i 0), (i 0), (i 0), (i 0), (i 0)]]
def r174 : List RA := [.a [.c (i 1), .s 154 10 [[(y 2), (i 0), (i 0), (i 0), (i 9223372036854775807), (i 0), (i 0), (i 0), (i 0), (i 0)]]], .c (.c (i 0))]
theorem g174 : vcall (VN tb0) rounds 6 156 p174 = some r174 := by kernel_rfl
theorem s174 : Spec Go.Proofs.Tryz.prog 156 p174 r174 := fact tk0 g174
def m19 : PV := l [[(y 2), (i 0), (i 0), (i 0), (i 9223372036854775807), (i 0), (i 0), (i 0), (i 0), (i 0)]]
def p179 : List PA := [.a [(i 1), m19]]
def r179 : List RA := [.c (.c (i 0))]
theorem g179 : vcall (VN tb0) rounds 6 103 p179 = some r179 := by kernel_rfl
theorem s179 : Spec Go.Proofs.Tryz.prog 103 p179 r179 := fact tk0 g179
def m20 : PV := l [[(y 1), (i 0), (i 0), e, e, e, e, e, e], [(y 2), (i 0), (i 0), e, (l [[(i (-9223372036854775808))]]), e, e, e, e], [(y 4), (i 0), (i 0), e, (l [[(i (-9223372036854775808))]]), e, e, e, e], [(y 6), (i 0), (i 0), e, e, e, e, e, e]]
def m21 : PV := l [[(i 1), m19], [(i 1), m11], [(i 1), e]]
def p181 : List PA := [.a [(y 1), e, (l [[(i 0)]]), bf, e, (y 1), (i 5), (i 0), bf, (y 1), m3, m4, m20, m21], .c (l [[(i 1)]])]
def r181 : List RA := [.c (.c m14)]
theorem g181 : vcall (VN tb0) rounds 6 71 p181 = some r181 := by kernel_rfl
theorem s181 : Spec Go.Proofs.Tryz.prog 71 p181 r181 := fact tk0 g181
def p182 : List PA := [.a [(y 1), e, (l [[(i 0)]]), bf, e, (y 1), (i 5), (i 0), bf, (y 1), m3, m4, m20, m21], .c (l [[(i 2)]])]
def r182 : List RA := [.c (.c (l [[(i 1), e]]))]
theorem g182 : vcall (VN tb0) rounds 6 71 p182 = some r182 := by kernel_rfl
theorem s182 : Spec Go.Proofs.Tryz.prog 71 p182 r182 := fact tk0 g182
def p185 : List PA := [.a [(i 0), (i 0), (i 5), (i 1), (i 0), (i 0), (i 0), (i 0), (i 0), (i 0), (i 0)]]
def r185 : List RA := [.c (.c bt)]
theorem g185 : vcall (VN tb0) rounds 6 231 p185 = some r185 := by kernel_rfl
theorem s185 : Spec Go.Proofs.Tryz.prog 231 p185 r185 := fact tk0 g185
def m22 : PV := l [[(i 0), (i 0), (i 5), (i 1), (i 0), (i 0), (i 0), (i 0), (i 0), (i 0), (i 0)]]
def m23 : PV := l [[(y 1), (i 0), (i 0), e, e, e, e, e, e], [(y 2), (i 0), (i 0), e, (l [[(i (-9223372036854775808))]]), e, e, e, e], [(y 4), (i 0), (i 0), e, (l [[(i (-9223372036854775808))]]), m22, e, e, e], [(y 6), (i 0), (i 0), e, e, e, e, e, e]]
def m24 : PV := l [[(i 1), m19], [(i 1), e], [(i 1), e]]
def m25 : PV := l [[(i 1), m19]]
def p191 : List PA := [.a [(y 1), e, (l [[(i 0)]]), bf, e, (y 1), (i 5), (i 0), bf, (y 1), m3, m4, m23, m24], .c (l [[(i 0)]])]
def r191 : List RA := [.c (.c m25)]
theorem g191 : vcall (VN tb0) rounds 6 71 p191 = some r191 := by kernel_rfl
theorem s191 : Spec Go.Proofs.Tryz.prog 71 p191 r191 := fact tk0 g191
def p192 : List PA := [.a [(y 1), e, (l [[(i 0)]]), bf, e, (y 1), (i 5), (i 0), bf, (y 1), m3, m4, m23, m24], .c (l [[(i 1)]])]
def r192 : List RA := [.c (.c (l [[(i 1), e]]))]
theorem g192 : vcall (VN tb0) rounds 6 71 p192 = some r192 := by kernel_rfl
theorem s192 : Spec Go.Proofs.Tryz.prog 71 p192 r192 := fact tk0 g192
def m26 : PV := l [[(y 1), (i 0), (i 0), e, e, e, e, e, e], [(y 2), (i 0), (i 0), m17, (l [[(i 9223372036854775807)]]), e, e, e, e], [(y 4), (i 0), (i 0), e, (l [[(i (-9223372036854775808))]]), m22, e, e, e], [(y 6), (i 0), (i 0), e, e, e, e, e, e]]
def p201 : List PA := [.a [(y 1), e, (l [[(i 0)]]), bf, e, (y 1), (i 5), (i 0), bf, (y 1), m3, m4, m26, m7], .c (l [[(i 0)]])]
def r201 : List RA := [.c (.c (l [[(i 1), e]]))]
theorem g201 : vcall (VN tb0) rounds 6 71 p201 = some r201 := by kernel_rfl
theorem s201 : Spec Go.Proofs.Tryz.prog 71 p201 r201 := fact tk0 g201
def p202 : List PA := [.a [(y 1), e, (l [[(i 0)]]), bf, e, (y 1), (i 5), (i 0), bf, (y 1), m3, m4, m26, m7], .c (l [[(i 1)]])]
def r202 : List RA := [.c (.c (l [[(i 1), e]]))]
theorem g202 : vcall (VN tb0) rounds 6 71 p202 = some r202 := by kernel_rfl
theorem s202 : Spec Go.Proofs.Tryz.prog 71 p202 r202 := fact tk0 g202
def m27 : PV := l [[(y 1), (i 0), (i 0), e, e, e, e, e, e], [(y 2), (i 0), (i 0), e, (l [[(i 9223372036854775807)]]), e, e, e, e], [(y 4), (i 0), (i 0), e, (l [[(i (-9223372036854775808))]]), m22, e, e, e], [(y 6), (i 0), (i 0), e, e, e, e, e, e]]
def m28 : PV := l [[(i 1), e], [(i 1), m19], [(i 1), e]]
def p209 : List PA := [.a [(y 1), e, (l [[(i 0)]]), bf, e, (y 1), (i 5), (i 0), bf, (y 1), m3, m4, m27, m28], .c (l [[(i 1)]])]
def r209 : List RA := [.c (.c m25)]
theorem g209 : vcall (VN tb0) rounds 6 71 p209 = some r209 := by kernel_rfl
theorem s209 : Spec Go.Proofs.Tryz.prog 71 p209 r209 := fact tk0 g209
def p210 : List PA := [.a [(y 1), e, (l [[(i 0)]]), bf, e, (y 1), (i 5), (i 0), bf, (y 1), m3, m4, m27, m28], .c (l [[(i 2)]])]
def r210 : List RA := [.c (.c (l [[(i 1), e]]))]
theorem g210 : vcall (VN tb0) rounds 6 71 p210 = some r210 := by kernel_rfl
theorem s210 : Spec Go.Proofs.Tryz.prog 71 p210 r210 := fact tk0 g210
def m29 : PV := l [[(i 0), (y 3), (i 0), (i 0), (i 0), (i 0), (i 0), (i 0), (i 5), (i 1), (i 0)]]
def m30 : PV := l [[(y 1), (i 0), (i 0), e, e, e, e, e, e], [(y 2), (i 0), (i 0), e, (l [[(i 9223372036854775807)]]), e, e, e, e], [(y 4), (i 0), (i 0), m29, (l [[(i 9223372036854775807)]]), e, e, e, e], [(y 6), (i 0), (i 0), e, e, e, e, e, e]]
def p219 : List PA := [.a [(y 1), e, (l [[(i 0)]]), bf, e, (y 1), (i 5), (i 0), bf, (y 1), m3, m4, m30, m7], .c (l [[(i 1)]])]
def r219 : List RA := [.c (.c (l [[(i 1), e]]))]
theorem g219 : vcall (VN tb0) rounds 6 71 p219 = some r219 := by kernel_rfl
theorem s219 : Spec Go.Proofs.Tryz.prog 71 p219 r219 := fact tk0 g219
def p220 : List PA := [.a [(y 1), e, (l [[(i 0)]]), bf, e, (y 1), (i 5), (i 0), bf, (y 1), m3, m4, m30, m7], .c (l [[(i 2)]])]
def r220 : List RA := [.c (.c (l [[(i 1), e]]))]
theorem g220 : vcall (VN tb0) rounds 6 71 p220 = some r220 := by kernel_rfl
theorem s220 : Spec Go.Proofs.Tryz.prog 71 p220 r220 := fact tk0 g220
def p222 : List PA := [.a [(i 1), e], .a [(y 3), (i 0), (i 0), (i 0), (i 0), (i 0), (i 0), (i 5), (i 1), (i 0)]]
def r222 : List RA := [.a [.c (i 1), .s 154 10 [[(y 3), (i 0), (i 0), (i 0), (i 0), (i 0), (i 0), (i 5), (i 1), (i 0)]]], .c (.c (i 0))]
theorem g222 : vcall (VN tb0) rounds 6 156 p222 = some r222 := by kernel_rfl
theorem s222 : Spec Go.Proofs.Tryz.prog 156 p222 r222 := fact tk0 g222
def m31 : PV := l [[(y 3), (i 0), (i 0), (i 0), (i 0), (i 0), (i 0), (i 5), (i 1), (i 0)]]
def p227 : List PA := [.a [(i 1), m31]]
def r227 : List RA := [.c (.c (i 0))]
theorem g227 : vcall (VN tb0) rounds 6 103 p227 = some r227 := by kernel_rfl
theorem s227 : Spec Go.Proofs.Tryz.prog 103 p227 r227 := fact tk0 g227
def m32 : PV := l [[(y 1), (i 0), (i 0), e, e, e, e, e, e], [(y 2), (i 0), (i 0), e, (l [[(i 9223372036854775807)]]), e, e, e, e], [(y 4), (i 0), (i 0), e, (l [[(i 9223372036854775807)]]), e, e, e, e], [(y 6), (i 0), (i 0), e, e, e, e, e, e]]
def m33 : PV := l [[(i 1), e], [(i 1), e], [(i 1), m31]]
def m34 : PV := l [[(i 1), m31]]
def p229 : List PA := [.a [(y 1), e, (l [[(i 0)]]), bf, e, (y 1), (i 5), (i 0), bf, (y 1), m3, m4, m32, m33], .c (l [[(i 2)]])]
def r229 : List RA := [.c (.c m34)]
theorem g229 : vcall (VN tb0) rounds 6 71 p229 = some r229 := by kernel_rfl
theorem s229 : Spec Go.Proofs.Tryz.prog 71 p229 r229 := fact tk0 g229
def p230 : List PA := [.a [(y 1), e, (l [[(i 0)]]), bf, e, (y 1), (i 5), (i 0), bf, (y 1), m3, m4, m32, m33], .c e]
def r230 : List RA := [.c (.c e)]
theorem g230 : vcall (VN tb0) rounds 6 71 p230 = some r230 := by kernel_rfl
theorem s230 : Spec Go.Proofs.Tryz.prog 71 p230 r230 := fact tk0 g230
def m35 : PV := l [[(i 0), (i 0), (i 5), (i 1), (i 0)]]
def m36 : PV := l [[(y 1), (i 0), (i 0), e, e, e, e, e, e], [(y 2), (i 0), (i 0), e, (l [[(i 9223372036854775807)]]), e, e, e, e], [(y 4), (i 0), (i 0), e, (l [[(i 9223372036854775807)]]), e, e, e, e], [(y 6), (i 0), (i 0), e, e, e, e, m35, e]]
def p238 : List PA := [.a [(y 1), e, (l [[(i 0)]]), bf, e, (y 1), (i 5), (i 0), bf, (y 1), m3, m4, m36, m7], .c (l [[(i 2)]])]
def r238 : List RA := [.c (.c (l [[(i 1), e]]))]
theorem g238 : vcall (VN tb0) rounds 6 71 p238 = some r238 := by kernel_rfl
theorem s238 : Spec Go.Proofs.Tryz.prog 71 p238 r238 := fact tk0 g238
def p239 : List PA := [.a [(y 1), e, (l [[(i 0)]]), bf, e, (y 1), (i 5), (i 0), bf, (y 1), m3, m4, m36, m7], .c e]
def r239 : List RA := [.c (.c e)]
theorem g239 : vcall (VN tb0) rounds 6 71 p239 = some r239 := by kernel_rfl
theorem s239 : Spec Go.Proofs.Tryz.prog 71 p239 r239 := fact tk0 g239
def p243 : List PA := [.a [(y 1), e, (l [[(i 0)]]), bf, e, (y 1), (i 5), (i 0), bf, (y 1), m3, m4, m36, m7]]
def r243 : List RA := [.a [.c (y 1), .c e, .c (l [[(i 0)]]), .c bf, .c e, .c (y 1), .c (i 5), .c (i 0), .c bf, .c (y 1), .c m3, .c m4, .s 56 9 [[(y 1), (i 0), (i 0), e, e, e, e, e, e], [(y 2), (i 0), (i 0), e, (l [[(i 9223372036854775807)]]), e, e, e, e], [(y 4), (i 0), (i 0), e, (l [[(i 9223372036854775807)]]), e, e, e, e], [(y 6), (i 0), (i 0), e, e, e, e, m35, e]], .s 59 2 [[(i 1), e], [(i 1), e], [(i 1), e]]]]
theorem g243 : vcall (VN tb0) rounds 6 78 p243 = some r243 := by kernel_rfl
theorem s243 : Spec Go.Proofs.Tryz.prog 78 p243 r243 := fact tk0 g243
def p245 : List PA := [.a [(y 1), e, (l [[(i 0)]]), bf, e, (y 1), (i 5), (i 0), bf, (y 1), m3, m4, m6, m7], .c (l [[(i 1)]])]
def r245 : List RA := [.c (.c (l [[(i 1), e]]))]
theorem g245 : vcall (VN tb0) rounds 6 71 p245 = some r245 := by kernel_rfl
theorem s245 : Spec Go.Proofs.Tryz.prog 71 p245 r245 := fact tk0 g245
def p250 : List PA := [.a [(y 1), e, (l [[(i 0)]]), bf, e, (y 1), (i 5), (i 0), bf, (y 1), m3, m4, m6, m7]]
def r250 : List RA := [.a [.c (y 1), .c e, .c (l [[(i 0)]]), .c bf, .c e, .c (y 1), .c (i 5), .c (i 0), .c bf, .c (y 1), .c m3, .c m4, .s 56 9 [[(y 1), (i 0), (i 0), e, e, e, m1, e, e], [(y 2), (i 0), (i 0), e, (l [[(i (-9223372036854775808))]]), e, e, e, e], [(y 4), (i 0), (i 0), e, (l [[(i (-9223372036854775808))]]), e, e, e, e], [(y 6), (i 0), (i 0), e, e, e, e, e, e]], .s 59 2 [[(i 1), e], [(i 1), e], [(i 1), e]]]]
theorem g250 : vcall (VN tb0) rounds 6 78 p250 = some r250 := by kernel_rfl
theorem s250 : Spec Go.Proofs.Tryz.prog 78 p250 r250 := fact tk0 g250
def p252 : List PA := [.c (l [[(i 0)], [(i 0)]])]
def r252 : List RA := [.c (.c (l [[(i 0), (i (-1))], [(i 0), (i (-1))]]))]
theorem g252 : vcall (VN tb0) rounds 6 25 p252 = some r252 := by kernel_rfl
theorem s252 : Spec Go.Proofs.Tryz.prog 25 p252 r252 := fact tk0 g252
def p253 : List PA := [.a [(y 1), e, (l [[(i 0)]]), bf, e, (y 1), (i 5), (i 0), bf, (y 1), m3, m4, m12, m13]]
def r253 : List RA := [.a [.c (y 1), .c e, .c (l [[(i 0)]]), .c bf, .c e, .c (y 1), .c (i 5), .c (i 0), .c bf, .c (y 1), .c m3, .c m4, .s 56 9 [[(y 1), (i 0), (i 0), e, e, e, m9, e, e], [(y 2), (i 0), (i 0), e, (l [[(i (-9223372036854775808))]]), e, e, e, e], [(y 4), (i 0), (i 0), e, (l [[(i (-9223372036854775808))]]), e, e, e, e], [(y 6), (i 0), (i 0), e, e, e, e, e, e]], .s 59 2 [[(i 1), m11], [(i 1), e], [(i 1), e]]]]
theorem g253 : vcall (VN tb0) rounds 6 78 p253 = some r253 := by kernel_rfl
theorem s253 : Spec Go.Proofs.Tryz.prog 78 p253 r253 := fact tk0 g253
def p258 : List PA := [.a [(y 1), e, (l [[(i 0)]]), bf, e, (y 1), (i 5), (i 0), bf, (y 1), m3, m4, m15, m7]]
def r258 : List RA := [.a [.c (y 1), .c e, .c (l [[(i 0)]]), .c bf, .c e, .c (y 1), .c (i 5), .c (i 0), .c bf, .c (y 1), .c m3, .c m4, .s 56 9 [[(y 1), (i 0), (i 0), e, e, e, m9, e, e], [(y 2), (i 0), (i 0), m8, (l [[(i (-9223372036854775808))]]), e, e, e, e], [(y 4), (i 0), (i 0), e, (l [[(i (-9223372036854775808))]]), e, e, e, e], [(y 6), (i 0), (i 0), e, e, e, e, e, e]], .s 59 2 [[(i 1), e], [(i 1), e], [(i 1), e]]]]
theorem g258 : vcall (VN tb0) rounds 6 78 p258 = some r258 := by kernel_rfl
theorem s258 : Spec Go.Proofs.Tryz.prog 78 p258 r258 := fact tk0 g258
def m37 : PV := l [[(i 0), (i 0)], [(i 0), (i 0)], [(i 0), (i 0)], [(i 0), (i 0)], [(i 0), (i 0)], [(i 0), (i 0)], [(i 0), (i 0)], [(i 0), (i 0)], [(i 0), (i 0)], [(i 0), (i 0)], [(i 0), (i 0)], [(i 0), (i 0)], [(i 0), (i 0)], [(i 0), (i 0)], [(i 0), (i 0)], [(i 0), (i 0)], [(i 0), (i 0)], [(i 0), (i 0)], [(i 0), (i 0)], [(i 0), (i 0)], [(i 0), (i 0)], [(i 0), (i 0)], [(i 0), (i 0)], [(i 0), (i 0)], [(i 0), (i 0)], [(i 0), (i 0)], [(i 0), (i 0)], [(i 0), (i 0)], [(i 0), (i 0)], [(i 0), (i 0)], [(i 0), (i 0)], [(i 0), (i 0)], [(i 0), (i 0)], [(i 0), (i 0)], [(i 0), (i 0)], [(i 0), (i 0)], [(i 0), (i 0)], [(i 0), (i 0)], [(i 0), (i 0)], [(i 0), (i 0)], [(i 0), (i 0)], [(i 0), (i 0)], [(i 0), (i 0)], [(i 0), (i 0)], [(i 0), (i 0)], [(i 0), (i 0)], [(i 0), (i 0)], [(i 0), (i 0)], [(i 0), (i 0)], [(i 0), (i 0)], [(i 0), (i 0)], [(i 0), (i 0)], [(i 0), (i 0)], [(i 0), (i 0)], [(i 0), (i 0)], [(i 0), (i 0)], [(i 0), (i 0)], [(i 0), (i 0)], [(i 0), (i 0)], [(i 0), (i 0)], [(i 0), (i 0)], [(i 0), (i 0)], [(i 0), (i 0)], [(i 0), (i 0)], [(i 0), (i 0)], [(i 0), (i 0)], [(i 0), (i 0)], [(i 0), (i 0)], [(i 0), (i 0)], [(i 0), (i 0)], [(i 0), (i 0)], [(i 0), (i 0)], [(i 0), (i 0)], [(i 0), (i 0)], [(i 0), (i 0)], [(i 0), (i 0)], [(i 0), (i 0)], [(i 0), (i 0)], [(i 0), (i 0)], [(i 0), (i 0)], [(i 0), (i 0)], [(i 0), (i 0)], [(i 0), (i 0)], [(i 0), (i 0)], [(i 0), (i 0)], [(i 0), (i 0)], [(i 0), (i 0)], [(i 0), (i 0)], [(i 0), (i 0)], [(i 0), (i 0)], [(i 0), (i 0)], [(i 0), (i 0)], [(i 0), (i 0)], [(i 0), (i 0)], [(i 0), (i 0)], [(i 0), (i 0)], [(i 0), (i 0)], [(i 0), (i 0)], [(i 0), (i 0)], [(i 0), (i 0)], [(i 0), (i 0)], [(i 0), (i 0)], [(i 0), (i 0)], [(i 0), (i 0)], [(i 0), (i 0)], [(i 0), (i 0)], [(i 0), (i 0)], [(i 0), (i 0)], [(i 0), (i 0)], [(i 0), (i 0)], [(i 0), (i 0)], [(i 0), (i 0)], [(i 0), (i 0)], [(i 0), (i 0)], [(i 0), (i 0)], [(i 0), (i 0)], [(i 0), (i 0)], [(i 0), (i 0)], [(i 0), (i 0)], [(i 0), (i 0)], [(i 0), (i 0)], [(i 0), (i 0)], [(i 0), (i 0)], [(i 0), (i 0)], [(i 0), (i 0)], [(i 0), (i 0)], [(i 0), (i 0)], [(i 0), (i 0)], [(i 0), (i 0)], [(i 0), (i 0)], [(i 0), (i 0)], [(i 0), (i 0)], [(i 0), (i 0)], [(i 0), (i 0)], [(i 0), (i 0)], [(i 0), (i 0)], [(i 0), (i 0)], [(i 0), (i 0)], [(i 0), (i 0)], [(i 0), (i 0)], [(i 0), (i 0)], [(i 0), (i 0)], [(i 0), (i 0)], [(i 0), (i 0)], [(i 0), (i 0)], [(i 0), (i 0)], [(i 0), (i 0)], [(i 0), (i 0)], [(i 0), (i 0)], [(i 0), (i 0)], [(i 0), (i 0)], [(i 0), (i 0)], [(i 0), (i 0)], [(i 0), (i 0)], [(i 0), (i 0)], [(i 0), (i 0)], [(i 0), (i 0)], [(i 0), (i 0)], [(i 0), (i 0)], [(i 0), (i 0)], [(i 0), (i 0)], [(i 0), (i 0)], [(i 0), (i 0)], [(i 0), (i 0)], [(i 0), (i 0)], [(i 0), (i 0)], [(i 0), (i 0)], [(i 0), (i 0)], [(i 0), (i 0)], [(i 0), (i 0)], [(i 0), (i 0)], [(i 0), (i 0)], [(i 0), (i 0)], [(i 0), (i 0)], [(i 0), (i 0)], [(i 0), (i 0)], [(i 0), (i 0)], [(i 0), (i 0)], [(i 0), (i 0)], [(i 0), (i 0)], [(i 0), (i 0)], [(i 0), (i 0)], [(i 0), (i 0)], [(i 0), (i 0)], [(i 0), (i 0)], [(i 0), (i 0)], [(i 0), (i 0)], [(i 0), (i 0)], [(i 0), (i 0)], [(i 0), (i 0)], [(i 0), (i 0)], [(i 0), (i 0)], [(i 0), (i 0)], [(i 0), (i 0)], [(i 0), (i 0)], [(i 0), (i 0)], [(i 0), (i 0)], [(i 0), (i 0)], [(i 0), (i 0)], [(i 0), (i 0)], [(i 0), (i 0)], [(i 0), (i 0)], [(i 0), (i 0)], [(i 0), (i 0)], [(i 0), (i 0)], [(i 0), (i 0)], [(i 0), (i 0)], [(i 0), (i 0)], [(i 0), (i 0)], [(i 0), (i 0)], [(i 0), (i 0)], [(i 0), (i 0)], [(i 0), (i 0)], [(i 0), (i 0)], [(i 0), (i 0)], [(i 0), (i 0)], [(i 0), (i 0)], [(i 0), (i 0)], [(i 0), (i 0)], [(i 0), (i 0)], [(i 0), (i 0)], [(i 0), (i 0)], [(i 0), (i 0)], [(i 0), (i 0)], [(i 0), (i 0)], [(i 0), (i 0)], [(i 0), (i 0)], [(i 0), (i 0)], [(i 0), (i 0)], [(i 0), (i 0)], [(i 0), (i 0)], [(i 0), (i 0)], [(i 0), (i 0)], [(i 0), (i 0)], [(i 0), (i 0)], [(i 0), (i 0)], [(i 0), (i 0)], [(i 0), (i 0)], [(i 0), (i 0)], [(i 0), (i 0)], [(i 0), (i 0)], [(i 0), (i 0)], [(i 0), (i 0)], [(i 0), (i 0)], [(i 0), (i 0)], [(i 0), (i 0)], [(i 0), (i 0)], [(i 0), (i 0)], [(i 0), (i 0)], [(i 0), (i 0)], [(i 0), (i 0)], [(i 0), (i 0)], [(i 0), (i 0)], [(i 0), (i 0)], [(i 0), (i 0)], [(i 0), (i 0)], [(i 0), (i 0)], [(i 0), (i 0)], [(i 0), (i 0)], [(i 0), (i 0)], [(i 0), (i 0)], [(i 0), (i 0)], [(i 0), (i 0)], [(i 0), (i 0)], [(i 0), (i 0)], [(i 0), (i 0)], [(i 0), (i 0)], [(i 0), (i 0)], [(i 0), (i 0)], [(i 0), (i 0)], [(i 0), (i 0)], [(i 0), (i 0)], [(i 0), (i 0)], [(i 0), (i 0)], [(i 0), (i 0)], [(i 0), (i 0)], [(i 0), (i 0)], [(i 0), (i 0)], [(i 0), (i 0)], [(i 0), (i 0)], [(i 0), (i 0)], [(i 0), (i 0)], [(i 0), (i 0)], [(i 0), (i 0)], [(i 0), (i 0)], [(i 0), (i 0)], [(i 0), (i 0)], [(i 0), (i 0)], [(i 0), (i 0)], [(i 0), (i 0)], [(i 0), (i 0)], [(i 0), (i 0)], [(i 0), (i 0)], [(i 0), (i 0)], [(i 0), (i 0)], [(i 0), (i 0)], [(i 0), (i 0)], [(i 0), (i 0)], [(i 0), (i 0)], [(i 0), (i 0)], [(i 0), (i 0)], [(i 0), (i 0)], [(i 0), (i 0)], [(i 0), (i 0)], [(i 0), (i 0)], [(i 0), (i 0)], [(i 0), (i 0)], [(i 0), (i 0)], [(i 0), (i 0)], [(i 0), (i 0)], [(i 0), (i 0)], [(i 0), (i 0)], [(i 0), (i 0)], [(i 0), (i 0)], [(i 0), (i 0)], [(i 0), (i 0)], [(i 0), (i 0)], [(i 0), (i 0)], [(i 0), (i 0)], [(i 0), (i 0)], [(i 0), (i 0)], [(i 0), (i 0)], [(i 0), (i 0)], [(i 0), (i 0)], [(i 0), (i 0)], [(i 0), (i 0)], [(i 0), (i 0)], [(i 0), (i 0)], [(i 0), (i 0)], [(i 0), (i 0)], [(i 0), (i 0)], [(i 0), (i 0)], [(i 0), (i 0)], [(i 0), (i 0)], [(i 0), (i 0)], [(i 0), (i 0)], [(i 0), (i 0)], [(i 0), (i 0)], [(i 0), (i 0)], [(i 0), (i 0)], [(i 0), (i 0)], [(i 0), (i 0)], [(i 0), (i 0)], [(i 0), (i 0)], [(i 0), (i 0)], [(i 0), (i 0)], [(i 0), (i 0)], [(i 0), (i 0)], [(i 0), (i 0)], [(i 0), (i 0)], [(i 0), (i 0)], [(i 0), (i 0)], [(i 0), (i 0)], [(i 0), (i 0)], [(i 0), (i 0)], [(i 0), (i 0)], [(i 0), (i 0)], [(i 0), (i 0)], [(i 0), (i 0)], [(i 0), (i 0)], [(i 0), (i 0)], [(i 0), (i 0)], [(i 0), (i 0)], [(i 0), (i 0)], [(i 0), (i 0)], [(i 0), (i 0)], [(i 0), (i 0)], [(i 0), (i 0)], [(i 0), (i 0)], [(i 0), (i 0)], [(i 0), (i 0)], [(i 0), (i 0)], [(i 0), (i 0)], [(i 0), (i 0)], [(i 0), (i 0)], [(i 0), (i 0)], [(i 0), (i 0)], [(i 0), (i 0)], [(i 0), (i 0)], [(i 0), (i 0)], [(i 0), (i 0)], [(i 0), (i 0)], [(i 0), (i 0)], [(i 0), (i 0)], [(i 0), (i 0)], [(i 0), (i 0)], [(i 0), (i 0)], [(i 0), (i 0)], [(i 0), (i 0)], [(i 0), (i 0)], [(i 0), (i 0)], [(i 0), (i 0)], [(i 0), (i 0)], [(i 0), (i 0)], [(i 0), (i 0)], [(i 0), (i 0)], [(i 0), (i 0)], [(i 0), (i 0)], [(i 0), (i 0)], [(i 0), (i 0)], [(i 0), (i 0)], [(i 0), (i 0)], [(i 0), (i 0)], [(i 0), (i 0)], [(i 0), (i 0)], [(i 0), (i 0)], [(i 0), (i 0)], [(i 0), (i 0)], [(i 0), (i 0)], [(i 0), (i 0)], [(i 0), (i 0)], [(i 0), (i 0)], [(i 0), (i 0)], [(i 0), (i 0)], [(i 0), (i 0)], [(i 0), (i 0)], [(i 0), (i 0)], [(i 0), (i 0)], [(i 0), (i 0)], [(i 0), (i 0)], [(i 0), (i 0)], [(i 0), (i 0)], [(i 0), (i 0)], [(i 0), (i 0)], [(i 0), (i 0)], [(i 0), (i 0)], [(i 0), (i 0)], [(i 0), (i 0)], [(i 0), (i 0)], [(i 0), (i 0)], [(i 0), (i 0)], [(i 0), (i 0)], [(i 0), (i 0)], [(i 0), (i 0)], [(i 0), (i 0)], [(i 0), (i 0)], [(i 0), (i 0)], [(i 0), (i 0)], [(i 0), (i 0)], [(i 0), (i 0)], [(i 0), (i 0)], [(i 0), (i 0)], [(i 0), (i 0)], [(i 0), (i 0)], [(i 0), (i 0)], [(i 0), (i 0)], [(i 0), (i 0)], [(i 0), (i 0)], [(i 0), (i 0)], [(i 0), (i 0)], [(i 0), (i 0)], [(i 0), (i 0)], [(i 0), (i 0)], [(i 0), (i 0)], [(i 0), (i 0)], [(i 0), (i 0)], [(i 0), (i 0)], [(i 0), (i 0)], [(i 0), (i 0)], [(i 0), (i 0)], [(i 0), (i 0)], [(i 0), (i 0)], [(i 0), (i 0)], [(i 0), (i 0)], [(i 0), (i 0)], [(i 0), (i 0)], [(i 0), (i 0)], [(i 0), (i 0)], [(i 0), (i 0)], [(i 0), (i 0)], [(i 0), (i 0)], [(i 0), (i 0)], [(i 0), (i 0)], [(i 0), (i 0)], [(i 0), (i 0)], [(i 0), (i 0)], [(i 0), (i 0)], [(i 0), (i 0)], [(i 0), (i 0)], [(i 0), (i 0)], [(i 0), (i 0)], [(i 0), (i 0)], [(i 0), (i 0)], [(i 0), (i 0)], [(i 0), (i 0)], [(i 0), (i 0)], [(i 0), (i 0)], [(i 0), (i 0)], [(i 0), (i 0)], [(i 0), (i 0)], [(i 0), (i 0)], [(i 0), (i 0)], [(i 0), (i 0)], [(i 0), (i 0)], [(i 0), (i 0)], [(i 0), (i 0)], [(i 0), (i 0)], [(i 0), (i 0)], [(i 0), (i 0)], [(i 0), (i 0)], [(i 0), (i 0)], [(i 0), (i 0)], [(i 0), (i 0)], [(i 0), (i 0)], [(i 0), (i 0)], [(i 0), (i 0)], [(i 0), (i 0)], [(i 0), (i 0)], [(i 0), (i 0)], [(i 0), (i 0)], [(i 0), (i 0)], [(i 0), (i 0)], [(i 0), (i 0)], [(i 0), (i 0)], [(i 0), (i 0)], [(i 0), (i 0)], [(i 0), (i 0)], [(i 0), (i 0)], [(i 0), (i 0)], [(i 0), (i 0)], [(i 0), (i 0)], [(i 0), (i 0)], [(i 0), (i 0)], [(i 0), (i 0)], [(i 0), (i 0)], [(i 0), (i 0)], [(i 0), (i 0)], [(i 0), (i 0)], [(i 0), (i 0)], [(i 0), (i 0)], [(i 0), (i 0)], [(i 0), (i 0)], [(i 0), (i 0)], [(i 0), (i 0)], [(i 0), (i 0)], [(i 0), (i 0)], [(i 0), (i 0)], [(i 0), (i 0)], [(i 0), (i 0)], [(i 0), (i 0)], [(i 0), (i 0)], [(i 0), (i 0)], [(i 0), (i 0)], [(i 0), (i 0)], [(i 0), (i 0)], [(i 0), (i 0)], [(i 0), (i 0)], [(i 0), (i 0)], [(i 0), (i 0)], [(i 0), (i 0)], [(i 0), (i 0)], [(i 0), (i 0)], [(i 0), (i 0)], [(i 0), (i 0)], [(i 0), (i 0)], [(i 0), (i 0)], [(i 0), (i 0)], [(i 0), (i 0)], [(i 0), (i 0)], [(i 0), (i 0)], [(i 0), (i 0)], [(i 0), (i 0)], [(i 0), (i 0)], [(i 0), (i 0)], [(i 0), (i 0)], [(i 0), (i 0)], [(i 0), (i 0)], [(i 0), (i 0)], [(i 0), (i 0)], [(i 0), (i 0)], [(i 0), (i 0)], [(i 0), (i 0)], [(i 0), (i 0)], [(i 0), (i 0)], [(i 0), (i 0)], [(i 0), (i 0)], [(i 0), (i 0)], [(i 0), (i 0)], [(i 0), (i 0)], [(i 0), (i 0)], [(i 0), (i 0)], [(i 0), (i 0)], [(i 0), (i 0)], [(i 0), (i 0)], [(i 0), (i 0)], [(i 0), (i 0)], [(i 0), (i 0)], [(i 0), (i 0)], [(i 0), (i 0)], [(i 0), (i 0)], [(i 0), (i 0)], [(i 0), (i 0)], [(i 0), (i 0)], [(i 0), (i 0)], [(i 0), (i 0)], [(i 0), (i 0)], [(i 0), (i 0)], [(i 0), (i 0)], [(i 0), (i 0)], [(i 0), (i 0)], [(i 0), (i 0)], [(i 0), (i 0)], [(i 0), (i 0)], [(i 0), (i 0)], [(i 0), (i 0)], [(i 0), (i 0)], [(i 0), (i 0)], [(i 0), (i 0)], [(i 0), (i 0)], [(i 0), (i 0)], [(i 0), (i 0)], [(i 0), (i 0)], [(i 0), (i 0)], [(i 0), (i 0)], [(i 0), (i 0)], [(i 0), (i 0)], [(i 0), (i 0)], [(i 0), (i 0)], [(i 0), (i 0)], [(i 0), (i 0)], [(i 0), (i 0)], [(i 0), (i 0)], [(i 0), (i 0)], [(i 0), (i 0)], [(i 0), (i 0)], [(i 0), (i 0)], [(i 0), (i 0)], [(i 0), (i 0)], [(i 0), (i 0)], [(i 0), (i 0)], [(i 0), (i 0)], [(i 0), (i 0)], [(i 0), (i 0)], [(i 0), (i 0)], [(i 0), (i 0)], [(i 0), (i 0)], [(i 0), (i 0)], [(i 0), (i 0)], [(i 0), (i 0)], [(i 0), (i 0)], [(i 0), (i 0)], [(i 0), (i 0)], [(i 0), (i 0)], [(i 0), (i 0)], [(i 0), (i 0)], [(i 0), (i 0)], [(i 0), (i 0)], [(i 0), (i 0)], [(i 0), (i 0)], [(i 0), (i 0)], [(i 0), (i 0)], [(i 0), (i 0)], [(i 0), (i 0)], [(i 0), (i 0)], [(i 0), (i 0)], [(i 0), (i 0)], [(i 0), (i 0)], [(i 0), (i 0)], [(i 0), (i 0)], [(i 0), (i 0)], [(i 0), (i 0)], [(i 0), (i 0)], [(i 0), (i 0)], [(i 0), (i 0)], [(i 0), (i 0)], [(i 0), (i 0)], [(i 0), (i 0)], [(i 0), (i 0)], [(i 0), (i 0)], [(i 0), (i 0)], [(i 0), (i 0)], [(i 0), (i 0)], [(i 0), (i 0)], [(i 0), (i 0)], [(i 0), (i 0)], [(i 0), (i 0)], [(i 0), (i 0)], [(i 0), (i 0)], [(i 0), (i 0)], [(i 0), (i 0)], [(i 0), (i 0)], [(i 0), (i 0)], [(i 0), (i 0)], [(i 0), (i 0)], [(i 0), (i 0)], [(i 0), (i 0)], [(i 0), (i 0)], [(i 0), (i 0)], [(i 0), (i 0)], [(i 0), (i 0)], [(i 0), (i 0)], [(i 0), (i 0)], [(i 0), (i 0)], [(i 0), (i 0)], [(i 0), (i 0)], [(i 0), (i 0)], [(i 0), (i 0)], [(i 0), (i 0)], [(i 0), (i 0)], [(i 0), (i 0)], [(i 0), (i 0)], [(i 0), (i 0)], [(i 0), (i 0)], [(i 0), (i 0)], [(i 0), (i 0)], [(i 0), (i 0)], [(i 0), (i 0)], [(i 0), (i 0)], [(i 0), (i 0)], [(i 0), (i 0)], [(i 0), (i 0)], [(i 0), (i 0)], [(i 0), (i 0)], [(i 0), (i 0)], [(i 0), (i 0)], [(i 0), (i 0)], [(i 0), (i 0)], [(i 0), (i 0)], [(i 0), (i 0)], [(i 0), (i 0)], [(i 0), (i 0)], [(i 0), (i 0)], [(i 0), (i 0)], [(i 0), (i 0)], [(i 0), (i 0)], [(i 0), (i 0)], [(i 0), (i 0)], [(i 0), (i 0)], [(i 0), (i 0)], [(i 0), (i 0)], [(i 0), (i 0)], [(i 0), (i 0)], [(i 0), (i 0)], [(i 0), (i 0)], [(i 0), (i 0)], [(i 0), (i 0)], [(i 0), (i 0)], [(i 0), (i 0)], [(i 0), (i 0)], [(i 0), (i 0)], [(i 0), (i 0)], [(i 0), (i 0)], [(i 0), (i 0)], [(i 0), (i 0)], [(i 0), (i 0)], [(i 0), (i 0)], [(i 0), (i 0)], [(i 0), (i 0)], [(i 0), (i 0)], [(i 0), (i 0)], [(i 0), (i 0)], [(i 0), (i 0)], [(i 0), (i 0)], [(i 0), (i 0)], [(i 0), (i 0)], [(i 0), (i 0)], [(i 0), (i 0)], [(i 0), (i 0)], [(i 0), (i 0)], [(i 0), (i 0)], [(i 0), (i 0)], [(i 0), (i 0)], [(i 0), (i 0)], [(i 0), (i 0)], [(i 0), (i 0)], [(i 0), (i 0)], [(i 0), (i 0)], [(i 0), (i 0)], [(i 0), (i 0)], [(i 0), (i 0)], [(i 0), (i 0)], [(i 0), (i 0)], [(i 0), (i 0)], [(i 0), (i 0)], [(i 0), (i 0)], [(i 0), (i 0)], [(i 0), (i 0)], [(i 0), (i 0)], [(i 0), (i 0)], [(i 0), (i 0)], [(i 0), (i 0)], [(i 0), (i 0)], [(i 0), (i 0)], [(i 0), (i 0)], [(i 0), (i 0)], [(i 0), (i 0)], [(i 0), (i 0)], [(i 0), (i 0)], [(i 0), (i 0)], [(i 0), (i 0)], [(i 0), (i 0)], [(i 0), (i 0)], [(i 0), (i 0)], [(i 0), (i 0)], [(i 0), (i 0)], [(i 0), (i 0)], [(i 0), (i 0)], [(i 0), (i 0)], [(i 0), (i 0)], [(i 0), (i 0)], [(i 0), (i 0)], [(i 0), (i 0)], [(i 0), (i 0)], [(i 0), (i 0)], [(i 0), (i 0)], [(i 0), (i 0)], [(i 0), (i 0)], [(i 0), (i 0)], [(i 0), (i 0)], [(i 0), (i 0)], [(i 0), (i 0)], [(i 0), (i 0)], [(i 0), (i 0)], [(i 0), (i 0)], [(i 0), (i 0)], [(i 0), (i 0)], [(i 0), (i 0)], [(i 0), (i 0)], [(i 0), (i 0)], [(i 0), (i 0)], [(i 0), (i 0)], [(i 0), (i 0)], [(i 0), (i 0)], [(i 0), (i 0)], [(i 0), (i 0)], [(i 0), (i 0)], [(i 0), (i 0)], [(i 0), (i 0)], [(i 0), (i 0)], [(i 0), (i 0)], [(i 0), (i 0)], [(i 0), (i 0)], [(i 0), (i 0)], [(i 0), (i 0)], [(i 0), (i 0)], [(i 0), (i 0)], [(i 0), (i 0)], [(i 0), (i 0)], [(i 0), (i 0)], [(i 0), (i 0)], [(i 0), (i 0)], [(i 0), (i 0)], [(i 0), (i 0)], [(i 0), (i 0)], [(i 0), (i 0)], [(i 0), (i 0)], [(i 0), (i 0)], [(i 0), (i 0)], [(i 0), (i 0)], [(i 0), (i 0)], [(i 0), (i 0)], [(i 0), (i 0)], [(i 0), (i 0)], [(i 0), (i 0)], [(i 0), (i 0)], [(i 0), (i 0)], [(i 0), (i 0)], [(i 0), (i 0)], [(i 0), (i 0)], [(i 0), (i 0)], [(i 0), (i 0)], [(i 0), (i 0)], [(i 0), (i 0)], [(i 0), (i 0)], [(i 0), (i 0)], [(i 0), (i 0)], [(i 0), (i 0)], [(i 0), (i 0)], [(i 0), (i 0)], [(i 0), (i 0)], [(i 0), (i 0)], [(i 0), (i 0)], [(i 0), (i 0)], [(i 0), (i 0)], [(i 0), (i 0)], [(i 0), (i 0)], [(i 0), (i 0)], [(i 0), (i 0)], [(i 0), (i 0)], [(i 0), (i 0)], [(i 0), (i 0)], [(i 0), (i 0)], [(i 0), (i 0)], [(i 0), (i 0)], [(i 0), (i 0)], [(i 0), (i 0)], [(i 0), (i 0)], [(i 0), (i 0)], [(i 0), (i 0)], [(i 0), (i 0)], [(i 0), (i 0)], [(i 0), (i 0)], [(i 0), (i 0)], [(i 0), (i 0)], [(i 0), (i 0)], [(i 0), (i 0)], [(i 0), (i 0)], [(i 0), (i 0)], [(i 0), (i 0)], [(i 0), (i 0)], [(i 0), (i 0)], [(i 0), (i 0)], [(i 0), (i 0)], [(i 0), (i 0)], [(i 0), (i 0)], [(i 0), (i 0)], [(i 0), (i 0)], [(i 0), (i 0)], [(i 0), (i 0)], [(i 0), (i 0)], [(i 0), (i 0)], [(i 0), (i 0)], [(i 0), (i 0)], [(i 0), (i 0)], [(i 0), (i 0)], [(i 0), (i 0)], [(i 0), (i 0)], [(i 0), (i 0)], [(i 0), (i 0)], [(i 0), (i 0)], [(i 0), (i 0)], [(i 0), (i 0)], [(i 0), (i 0)], [(i 0), (i 0)], [(i 0), (i 0)], [(i 0), (i 0)], [(i 0), (i 0)], [(i 0), (i 0)], [(i 0), (i 0)], [(i 0), (i 0)], [(i 0), (i 0)], [(i 0), (i 0)], [(i 0), (i 0)], [(i 0), (i 0)], [(i 0), (i 0)], [(i 0), (i 0)], [(i 0), (i 0)], [(i 0), (i 0)], [(i 0), (i 0)], [(i 0), (i 0)], [(i 0), (i 0)], [(i 0), (i 0)], [(i 0), (i 0)], [(i 0), (i 0)], [(i 0), (i 0)], [(i 0), (i 0)], [(i 0), (i 0)], [(i 0), (i 0)], [(i 0), (i 0)], [(i 0), (i 0)], [(i 0), (i 0)], [(i 0), (i 0)], [(i 0), (i 0)], [(i 0), (i 0)], [(i 0), (i 0)], [(i 0), (i 0)], [(i 0), (i 0)], [(i 0), (i 0)], [(i 0), (i 0)], [(i 0), (i 0)], [(i 0), (i 0)], [(i 0), (i 0)], [(i 0), (i 0)], [(i 0), (i 0)], [(i 0), (i 0)], [(i 0), (i 0)], [(i 0), (i 0)], [(i 0), (i 0)], [(i 0), (i 0)], [(i 0), (i 0)], [(i 0), (i 0)], [(i 0), (i 0)], [(i 0), (i 0)], [(i 0), (i 0)], [(i 0), (i 0)], [(i 0), (i 0)], [(i 0), (i 0)], [(i 0), (i 0)], [(i 0), (i 0)], [(i 0), (i 0)], [(i 0), (i 0)], [(i 0), (i 0)], [(i 0), (i 0)], [(i 0), (i 0)], [(i 0), (i 0)], [(i 0), (i 0)], [(i 0), (i 0)], [(i 0), (i 0)], [(i 0), (i 0)], [(i 0), (i 0)], [(i 0), (i 0)], [(i 0), (i 0)], [(i 0), (i 0)], [(i 0), (i 0)], [(i 0), (i 0)], [(i 0), (i 0)], [(i 0), (i 0)], [(i 0), (i 0)], [(i 0), (i 0)], [(i 0), (i 0)], [(i 0), (i 0)], [(i 0), (i 0)], [(i 0), (i 0)], [(i 0), (i 0)], [(i 0), (i 0)], [(i 0), (i 0)], [(i 0), (i 0)], [(i 0), (i 0)], [(i 0), (i 0)], [(i 0), (i 0)], [(i 0), (i 0)], [(i 0), (i 0)], [(i 0), (i 0)], [(i 0), (i 0)], [(i 0), (i 0)], [(i 0), (i 0)], [(i 0), (i 0)], [(i 0), (i 0)], [(i 0), (i 0)], [(i 0), (i 0)], [(i 0), (i 0)], [(i 0), (i 0)], [(i 0), (i 0)], [(i 0), (i 0)], [(i 0), (i 0)], [(i 0), (i 0)], [(i 0), (i 0)], [(i 0), (i 0)], [(i 0), (i 0)], [(i 0), (i 0)], [(i 0), (i 0)], [(i 0), (i 0)], [(i 0), (i 0)], [(i 0), (i 0)], [(i 0), (i 0)], [(i 0), (i 0)], [(i 0), (i 0)], [(i 0), (i 0)], [(i 0), (i 0)], [(i 0), (i 0)], [(i 0), (i 0)], [(i 0), (i 0)], [(i 0), (i 0)], [(i 0), (i 0)], [(i 0), (i 0)], [(i 0), (i 0)], [(i 0), (i 0)], [(i 0), (i 0)], [(i 0), (i 0)], [(i 0), (i 0)], [(i 0), (i 0)], [(i 0), (i 0)], [(i 0), (i 0)], [(i 0), (i 0)], [(i 0), (i 0)], [(i 0), (i 0)], [(i 0), (i 0)], [(i 0), (i 0)], [(i 0), (i 0)], [(i 0), (i 0)], [(i 0), (i 0)], [(i 0), (i 0)], [(i 0), (i 0)], [(i 0), (i 0)], [(i 0), (i 0)], [(i 0), (i 0)], [(i 0), (i 0)], [(i 0), (i 0)], [(i 0), (i 0)], [(i 0), (i 0)], [(i 0), (i 0)], [(i 0), (i 0)], [(i 0), (i 0)], [(i 0), (i 0)], [(i 0), (i 0)], [(i 0), (i 0)], [(i 0), (i 0)], [(i 0), (i 0)], [(i 0), (i 0)], [(i 0), (i 0)], [(i 0), (i 0)], [(i 0), (i 0)], [(i 0), (i 0)], [(i 0), (i 0)], [(i 0), (i 0)], [(i 0), (i 0)], [(i 0), (i 0)], [(i 0), (i 0)], [(i 0), (i 0)], [(i 0), (i 0)], [(i 0), (i 0)], [(i 0), (i 0)], [(i 0), (i 0)], [(i 0), (i 0)], [(i 0), (i 0)], [(i 0), (i 0)], [(i 0), (i 0)], [(i 0), (i 0)], [(i 0), (i 0)], [(i 0), (i 0)], [(i 0), (i 0)], [(i 0), (i 0)], [(i 0), (i 0)], [(i 0), (i 0)], [(i 0), (i 0)], [(i 0), (i 0)], [(i 0), (i 0)], [(i 0), (i 0)], [(i 0), (i 0)], [(i 0), (i 0)], [(i 0), (i 0)], [(i 0), (i 0)], [(i 0), (i 0)], [(i 0), (i 0)], [(i 0), (i 0)], [(i 0), (i 0)], [(i 0), (i 0)], [(i 0), (i 0)], [(i 0), (i 0)], [(i 0), (i 0)], [(i 0), (i 0)], [(i 0), (i 0)], [(i 0), (i 0)], [(i 0), (i 0)], [(i 0), (i 0)], [(i 0), (i 0)], [(i 0), (i 0)], [(i 0), (i 0)], [(i 0), (i 0)], [(i 0), (i 0)], [(i 0), (i 0)], [(i 0), (i 0)], [(i 0), (i 0)], [(i 0), (i 0)], [(i 0), (i 0)], [(i 0), (i 0)], [(i 0), (i 0)], [(i 0), (i 0)], [(i 0), (i 0)], [(i 0), (i 0)], [(i 0), (i 0)], [(i 0), (i 0)], [(i 0), (i 0)], [(i 0), (i 0)], [(i 0), (i 0)], [(i 0), (i 0)], [(i 0), (i 0)], [(i 0), (i 0)], [(i 0), (i 0)], [(i 0), (i 0)], [(i 0), (i 0)], [(i 0), (i 0)], [(i 0), (i 0)], [(i 0), (i 0)], [(i 0), (i 0)], [(i 0), (i 0)], [(i 0), (i 0)], [(i 0), (i 0)], [(i 0), (i 0)], [(i 0), (i 0)], [(i 0), (i 0)], [(i 0), (i 0)], [(i 0), (i 0)], [(i 0), (i 0)], [(i 0), (i 0)], [(i 0), (i 0)], [(i 0), (i 0)], [(i 0), (i 0)], [(i 0), (i 0)], [(i 0), (i 0)], [(i 0), (i 0)], [(i 0), (i 0)], [(i 0), (i 0)], [(i 0), (i 0)], [(i 0), (i 0)], [(i 0), (i 0)], [(i 0), (i 0)], [(i 0), (i 0)], [(i 0), (i 0)], [(i 0), (i 0)], [(i 0), (i 0)], [(i 0), (i 0)], [(i 0), (i 0)], [(i 0), (i 0)], [(i 0), (i 0)], [(i 0), (i 0)], [(i 0), (i 0)], [(i 0), (i 0)], [(i 0), (i 0)], [(i 0), (i 0)], [(i 0), (i 0)], [(i 0), (i 0)], [(i 0), (i 0)], [(i 0), (i 0)], [(i 0), (i 0)], [(i 0), (i 0)], [(i 0), (i 0)], [(i 0), (i 0)], [(i 0), (i 0)], [(i 0), (i 0)], [(i 0), (i 0)], [(i 0), (i 0)], [(i 0), (i 0)], [(i 0), (i 0)], [(i 0), (i 0)], [(i 0), (i 0)], [(i 0), (i 0)], [(i 0), (i 0)], [(i 0), (i 0)], [(i 0), (i 0)], [(i 0), (i 0)], [(i 0), (i 0)], [(i 0), (i 0)], [(i 0), (i 0)], [(i 0), (i 0)], [(i 0), (i 0)], [(i 0), (i 0)], [(i 0), (i 0)], [(i 0), (i 0)], [(i 0), (i 0)], [(i 0), (i 0)], [(i 0), (i 0)], [(i 0), (i 0)], [(i 0), (i 0)], [(i 0), (i 0)], [(i 0), (i 0)], [(i 0), (i 0)], [(i 0), (i 0)], [(i 0), (i 0)], [(i 0), (i 0)], [(i 0), (i 0)], [(i 0), (i 0)], [(i 0), (i 0)], [(i 0), (i 0)], [(i 0), (i 0)], [(i 0), (i 0)], [(i 0), (i 0)], [(i 0), (i 0)], [(i 0), (i 0)], [(i 0), (i 0)], [(i 0), (i 0)], [(i 0), (i 0)], [(i 0), (i 0)], [(i 0), (i 0)], [(i 0), (i 0)], [(i 0), (i 0)], [(i 0), (i 0)], [(i 0), (i 0)], [(i 0), (i 0)], [(i 0), (i 0)], [(i 0), (i 0)], [(i 0), (i 0)], [(i 0), (i 0)], [(i 0), (i 0)], [(i 0), (i 0)], [(i 0), (i 0)], [(i 0), (i 0)], [(i 0), (i 0)], [(i 0), (i 0)], [(i 0), (i 0)], [(i 0), (i 0)], [(i 0), (i 0)], [(i 0), (i 0)], [(i 0), (i 0)], [(i 0), (i 0)], [(i 0), (i 0)], [(i 0), (i 0)], [(i 0), (i 0)], [(i 0), (i 0)], [(i 0), (i 0)], [(i 0), (i 0)], [(i 0), (i 0)], [(i 0), (i 0)], [(i 0), (i 0)], [(i 0), (i 0)], [(i 0), (i 0)], [(i 0), (i 0)], [(i 0), (i 0)], [(i 0), (i 0)], [(i 0), (i 0)], [(i 0), (i 0)], [(i 0), (i 0)], [(i 0), (i 0)], [(i 0), (i 0)], [(i 0), (i 0)], [(i 0), (i 0)], [(i 0), (i 0)], [(i 0), (i 0)], [(i 0), (i 0)], [(i 0), (i 0)], [(i 0), (i 0)], [(i 0), (i 0)], [(i 0), (i 0)], [(i 0), (i 0)], [(i 0), (i 0)], [(i 0), (i 0)], [(i 0), (i 0)], [(i 0), (i 0)], [(i 0), (i 0)], [(i 0), (i 0)], [(i 0), (i 0)], [(i 0), (i 0)], [(i 0), (i 0)], [(i 0), (i 0)], [(i 0), (i 0)], [(i 0), (i 0)], [(i 0), (i 0)], [(i 0), (i 0)], [(i 0), (i 0)], [(i 0), (i 0)], [(i 0), (i 0)], [(i 0), (i 0)], [(i 0), (i 0)], [(i 0), (i 0)], [(i 0), (i 0)], [(i 0), (i 0)], [(i 0), (i 0)], [(i 0), (i 0)], [(i 0), (i 0)], [(i 0), (i 0)], [(i 0), (i 0)], [(i 0), (i 0)], [(i 0), (i 0)], [(i 0), (i 0)], [(i 0), (i 0)], [(i 0), (i 0)], [(i 0), (i 0)], [(i 0), (i 0)], [(i 0), (i 0)], [(i 0), (i 0)], [(i 0), (i 0)], [(i 0), (i 0)], [(i 0), (i 0)], [(i 0), (i 0)], [(i 0), (i 0)], [(i 0), (i 0)], [(i 0), (i 0)], [(i 0), (i 0)], [(i 0), (i 0)], [(i 0), (i 0)], [(i 0), (i 0)], [(i 0), (i 0)], [(i 0), (i 0)], [(i 0), (i 0)], [(i 0), (i 0)], [(i 0), (i 0)], [(i 0), (i 0)], [(i 0), (i 0)], [(i 0), (i 0)], [(i 0), (i 0)], [(i 0), (i 0)], [(i 0), (i 0)], [(i 0), (i 0)], [(i 0), (i 0)], [(i 0), (i 0)], [(i 0), (i 0)], [(i 0), (i 0)], [(i 0), (i 0)], [(i 0), (i 0)], [(i 0), (i 0)], [(i 0), (i 0)], [(i 0), (i 0)], [(i 0), (i 0)], [(i 0), (i 0)], [(i 0), (i 0)], [(i 0), (i 0)], [(i 0), (i 0)], [(i 0), (i 0)], [(i 0), (i 0)], [(i 0), (i 0)], [(i 0), (i 0)], [(i 0), (i 0)], [(i 0), (i 0)], [(i 0), (i 0)], [(i 0), (i 0)], [(i 0), (i 0)], [(i 0), (i 0)], [(i 0), (i 0)], [(i 0), (i 0)], [(i 0), (i 0)], [(i 0), (i 0)], [(i 0), (i 0)], [(i 0), (i 0)], [(i 0), (i 0)], [(i 0), (i 0)], [(i 0), (i 0)], [(i 0), (i 0)], [(i 0), (i 0)], [(i 0), (i 0)], [(i 0), (i 0)], [(i 0), (i 0)], [(i 0), (i 0)], [(i 0), (i 0)], [(i 0), (i 0)], [(i 0), (i 0)], [(i 0), (i 0)], [(i 0), (i 0)], [(i 0), (i 0)], [(i 0), (i 0)], [(i 0), (i 0)], [(i 0), (i 0)], [(i 0), (i 0)], [(i 0), (i 0)], [(i 0), (i 0)], [(i 0), (i 0)], [(i 0), (i 0)], [(i 0), (i 0)], [(i 0), (i 0)], [(i 0), (i 0)], [(i 0), (i 0)], [(i 0), (i 0)], [(i 0), (i 0)], [(i 0), (i 0)], [(i 0), (i 0)], [(i 0), (i 0)], [(i 0), (i 0)], [(i 0), (i 0)], [(i 0), (i 0)], [(i 0), (i 0)], [(i 0), (i 0)], [(i 0), (i 0)], [(i 0), (i 0)], [(i 0), (i 0)], [(i 0), (i 0)], [(i 0), (i 0)], [(i 0), (i 0)], [(i 0), (i 0)], [(i 0), (i 0)], [(i 0), (i 0)], [(i 0), (i 0)], [(i 0), (i 0)], [(i 0), (i 0)], [(i 0), (i 0)], [(i 0), (i 0)], [(i 0), (i 0)], [(i 0), (i 0)], [(i 0), (i 0)], [(i 0), (i 0)], [(i 0), (i 0)], [(i 0), (i 0)], [(i 0), (i 0)], [(i 0), (i 0)], [(i 0), (i 0)], [(i 0), (i 0)], [(i 0), (i 0)], [(i 0), (i 0)], [(i 0), (i 0)], [(i 0), (i 0)], [(i 0), (i 0)], [(i 0), (i 0)], [(i 0), (i 0)], [(i 0), (i 0)], [(i 0), (i 0)], [(i 0), (i 0)], [(i 0), (i 0)], [(i 0), (i 0)], [(i 0), (i 0)], [(i 0), (i 0)], [(i 0), (i 0)], [(i 0), (i 0)], [(i 0), (i 0)], [(i 0), (i 0)], [(i 0), (i 0)], [(i 0), (i 0)], [(i 0), (i 0)], [(i 0), (i 0)], [(i 0), (i 0)], [(i 0), (i 0)], [(i 0), (i 0)], [(i 0), (i 0)], [(i 0), (i 0)], [(i 0), (i 0)], [(i 0), (i 0)], [(i 0), (i 0)], [(i 0), (i 0)], [(i 0), (i 0)], [(i 0), (i 0)], [(i 0), (i 0)], [(i 0), (i 0)], [(i 0), (i 0)], [(i 0), (i 0)], [(i 0), (i 0)], [(i 0), (i 0)], [(i 0), (i 0)], [(i 0), (i 0)], [(i 0), (i 0)], [(i 0), (i 0)], [(i 0), (i 0)], [(i 0), (i 0)], [(i 0), (i 0)], [(i 0), (i 0)], [(i 0), (i 0)], [(i 0), (i 0)], [(i 0), (i 0)], [(i 0), (i 0)], [(i 0), (i 0)], [(i 0), (i 0)], [(i 0), (i 0)], [(i 0), (i 0)], [(i 0), (i 0)], [(i 0), (i 0)], [(i 0), (i 0)], [(i 0), (i 0)], [(i 0), (i 0)], [(i 0), (i 0)], [(i 0), (i 0)], [(i 0), (i 0)], [(i 0), (i 0)], [(i 0), (i 0)], [(i 0), (i 0)], [(i 0), (i 0)], [(i 0), (i 0)], [(i 0), (i 0)], [(i 0), (i 0)], [(i 0), (i 0)], [(i 0), (i 0)], [(i 0), (i 0)], [(i 0), (i 0)], [(i 0), (i 0)], [(i 0), (i 0)], [(i 0), (i 0)], [(i 0), (i 0)], [(i 0), (i 0)], [(i 0), (i 0)], [(i 0), (i 0)], [(i 0), (i 0)], [(i 0), (i 0)], [(i 0), (i 0)], [(i 0), (i 0)], [(i 0), (i 0)], [(i 0), (i 0)], [(i 0), (i 0)], [(i 0), (i 0)], [(i 0), (i 0)], [(i 0), (i 0)], [(i 0), (i 0)], [(i 0), (i 0)], [(i 0), (i 0)], [(i 0), (i 0)], [(i 0), (i 0)], [(i 0), (i 0)], [(i 0), (i 0)], [(i 0), (i 0)], [(i 0), (i 0)], [(i 0), (i 0)], [(i 0), (i 0)], [(i 0), (i 0)], [(i 0), (i 0)], [(i 0), (i 0)], [(i 0), (i 0)], [(i 0), (i 0)], [(i 0), (i 0)], [(i 0), (i 0)], [(i 0), (i 0)], [(i 0), (i 0)], [(i 0), (i 0)], [(i 0), (i 0)], [(i 0), (i 0)], [(i 0), (i 0)], [(i 0), (i 0)], [(i 0), (i 0)], [(i 0), (i 0)], [(i 0), (i 0)], [(i 0), (i 0)], [(i 0), (i 0)], [(i 0), (i 0)], [(i 0), (i 0)], [(i 0), (i 0)], [(i 0), (i 0)], [(i 0), (i 0)], [(i 0), (i 0)], [(i 0), (i 0)], [(i 0), (i 0)], [(i 0), (i 0)], [(i 0), (i 0)], [(i 0), (i 0)], [(i 0), (i 0)], [(i 0), (i 0)], [(i 0), (i 0)], [(i 0), (i 0)], [(i 0), (i 0)], [(i 0), (i 0)], [(i 0), (i 0)], [(i 0), (i 0)], [(i 0), (i 0)], [(i 0), (i 0)], [(i 0), (i 0)], [(i 0), (i 0)], [(i 0), (i 0)], [(i 0), (i 0)], [(i 0), (i 0)], [(i 0), (i 0)], [(i 0), (i 0)], [(i 0), (i 0)], [(i 0), (i 0)], [(i 0), (i 0)], [(i 0), (i 0)], [(i 0), (i 0)], [(i 0), (i 0)], [(i 0), (i 0)], [(i 0), (i 0)], [(i 0), (i 0)], [(i 0), (i 0)], [(i 0), (i 0)], [(i 0), (i 0)], [(i 0), (i 0)], [(i 0), (i 0)], [(i 0), (i 0)], [(i 0), (i 0)], [(i 0), (i 0)], [(i 0), (i 0)], [(i 0), (i 0)], [(i 0), (i 0)], [(i 0), (i 0)], [(i 0), (i 0)], [(i 0), (i 0)], [(i 0), (i 0)], [(i 0), (i 0)], [(i 0), (i 0)], [(i 0), (i 0)], [(i 0), (i 0)], [(i 0), (i 0)], [(i 0), (i 0)], [(i 0), (i 0)], [(i 0), (i 0)], [(i 0), (i 0)], [(i 0), (i 0)], [(i 0), (i 0)], [(i 0), (i 0)], [(i 0), (i 0)], [(i 0), (i 0)], [(i 0), (i 0)], [(i 0), (i 0)], [(i 0), (i 0)], [(i 0), (i 0)], [(i 0), (i 0)], [(i 0), (i 0)], [(i 0), (i 0)], [(i 0), (i 0)], [(i 0), (i 0)], [(i 0), (i 0)], [(i 0), (i 0)], [(i 0), (i 0)], [(i 0), (i 0)], [(i 0), (i 0)], [(i 0), (i 0)], [(i 0), (i 0)], [(i 0), (i 0)], [(i 0), (i 0)], [(i 0), (i 0)], [(i 0), (i 0)], [(i 0), (i 0)], [(i 0), (i 0)], [(i 0), (i 0)], [(i 0), (i 0)], [(i 0), (i 0)], [(i 0), (i 0)], [(i 0), (i 0)], [(i 0), (i 0)], [(i 0), (i 0)], [(i 0), (i 0)], [(i 0), (i 0)], [(i 0), (i 0)], [(i 0), (i 0)], [(i 0), (i 0)], [(i 0), (i 0)], [(i 0), (i 0)], [(i 0), (i 0)], [(i 0), (i 0)], [(i 0), (i 0)], [(i 0), (i 0)], [(i 0), (i 0)], [(i 0), (i 0)], [(i 0), (i 0)], [(i 0), (i 0)], [(i 0), (i 0)], [(i 0), (i 0)], [(i 0), (i 0)], [(i 0), (i 0)], [(i 0), (i 0)], [(i 0), (i 0)], [(i 0), (i 0)], [(i 0), (i 0)], [(i 0), (i 0)], [(i 0), (i 0)], [(i 0), (i 0)], [(i 0), (i 0)], [(i 0), (i 0)], [(i 0), (i 0)], [(i 0), (i 0)], [(i 0), (i 0)], [(i 0), (i 0)], [(i 0), (i 0)], [(i 0), (i 0)], [(i 0), (i 0)], [(i 0), (i 0)], [(i 0), (i 0)], [(i 0), (i 0)], [(i 0), (i 0)], [(i 0), (i 0)], [(i 0), (i 0)], [(i 0), (i 0)], [(i 0), (i 0)], [(i 0), (i 0)], [(i 0), (i 0)], [(i 0), (i 0)], [(i 0), (i 0)], [(i 0), (i 0)], [(i 0), (i 0)], [(i 0), (i 0)], [(i 0), (i 0)], [(i 0), (i 0)], [(i 0), (i 0)], [(i 0), (i 0)], [(i 0), (i 0)], [(i 0), (i 0)], [(i 0), (i 0)], [(i 0), (i 0)], [(i 0), (i 0)], [(i 0), (i 0)], [(i 0), (i 0)], [(i 0), (i 0)], [(i 0), (i 0)], [(i 0), (i 0)], [(i 0), (i 0)], [(i 0), (i 0)], [(i 0), (i 0)], [(i 0), (i 0)], [(i 0), (i 0)], [(i 0), (i 0)], [(i 0), (i 0)], [(i 0), (i 0)], [(i 0), (i 0)], [(i 0), (i 0)], [(i 0), (i 0)], [(i 0), (i 0)], [(i 0), (i 0)], [(i 0), (i 0)], [(i 0), (i 0)], [(i 0), (i 0)], [(i 0), (i 0)], [(i 0), (i 0)], [(i 0), (i 0)], [(i 0), (i 0)], [(i 0), (i 0)], [(i 0), (i 0)], [(i 0), (i 0)], [(i 0), (i 0)], [(i 0), (i 0)], [(i 0), (i 0)], [(i 0), (i 0)], [(i 0), (i 0)], [(i 0), (i 0)], [(i 0), (i 0)], [(i 0), (i 0)], [(i 0), (i 0)], [(i 0), (i 0)], [(i 0), (i 0)], [(i 0), (i 0)], [(i 0), (i 0)], [(i 0), (i 0)], [(i 0), (i 0)], [(i 0), (i 0)], [(i 0), (i 0)], [(i 0), (i 0)], [(i 0), (i 0)], [(i 0), (i 0)], [(i 0), (i 0)], [(i 0), (i 0)], [(i 0), (i 0)], [(i 0), (i 0)], [(i 0), (i 0)], [(i 0), (i 0)], [(i 0), (i 0)], [(i 0), (i 0)], [(i 0), (i 0)], [(i 0), (i 0)], [(i 0), (i 0)], [(i 0), (i 0)], [(i 0), (i 0)], [(i 0), (i 0)], [(i 0), (i 0)], [(i 0), (i 0)], [(i 0), (i 0)], [(i 0), (i 0)], [(i 0), (i 0)], [(i 0), (i 0)], [(i 0), (i 0)], [(i 0), (i 0)], [(i 0), (i 0)], [(i 0), (i 0)], [(i 0), (i 0)], [(i 0), (i 0)], [(i 0), (i 0)], [(i 0), (i 0)], [(i 0), (i 0)], [(i 0), (i 0)], [(i 0), (i 0)], [(i 0), (i 0)], [(i 0), (i 0)], [(i 0), (i 0)], [(i 0), (i 0)], [(i 0), (i 0)], [(i 0), (i 0)], [(i 0), (i 0)], [(i 0), (i 0)], [(i 0), (i 0)], [(i 0), (i 0)], [(i 0), (i 0)], [(i 0), (i 0)], [(i 0), (i 0)], [(i 0), (i 0)], [(i 0), (i 0)], [(i 0), (i 0)], [(i 0), (i 0)], [(i 0), (i 0)], [(i 0), (i 0)], [(i 0), (i 0)], [(i 0), (i 0)], [(i 0), (i 0)], [(i 0), (i 0)], [(i 0), (i 0)], [(i 0), (i 0)], [(i 0), (i 0)], [(i 0), (i 0)], [(i 0), (i 0)], [(i 0), (i 0)], [(i 0), (i 0)], [(i 0), (i 0)], [(i 0), (i 0)], [(i 0), (i 0)], [(i 0), (i 0)], [(i 0), (i 0)], [(i 0), (i 0)], [(i 0), (i 0)], [(i 0), (i 0)], [(i 0), (i 0)], [(i 0), (i 0)], [(i 0), (i 0)], [(i 0), (i 0)], [(i 0), (i 0)], [(i 0), (i 0)], [(i 0), (i 0)], [(i 0), (i 0)], [(i 0), (i 0)], [(i 0), (i 0)], [(i 0), (i 0)], [(i 0), (i 0)], [(i 0), (i 0)], [(i 0), (i 0)], [(i 0), (i 0)], [(i 0), (i 0)], [(i 0), (i 0)], [(i 0), (i 0)], [(i 0), (i 0)], [(i 0), (i 0)], [(i 0), (i 0)], [(i 0), (i 0)], [(i 0), (i 0)], [(i 0), (i 0)], [(i 0), (i 0)], [(i 0), (i 0)], [(i 0), (i 0)], [(i 0), (i 0)], [(i 0), (i 0)], [(i 0), (i 0)], [(i 0), (i 0)], [(i 0), (i 0)], [(i 0), (i 0)], [(i 0), (i 0)], [(i 0), (i 0)], [(i 0), (i 0)], [(i 0), (i 0)], [(i 0), (i 0)], [(i 0), (i 0)], [(i 0), (i 0)], [(i 0), (i 0)], [(i 0), (i 0)], [(i 0), (i 0)], [(i 0), (i 0)], [(i 0), (i 0)], [(i 0), (i 0)], [(i 0), (i 0)], [(i 0), (i 0)], [(i 0), (i 0)], [(i 0), (i 0)], [(i 0), (i 0)], [(i 0), (i 0)], [(i 0), (i 0)], [(i 0), (i 0)], [(i 0), (i 0)], [(i 0), (i 0)], [(i 0), (i 0)], [(i 0), (i 0)], [(i 0), (i 0)], [(i 0), (i 0)], [(i 0), (i 0)], [(i 0), (i 0)], [(i 0), (i 0)], [(i 0), (i 0)], [(i 0), (i 0)], [(i 0), (i 0)], [(i 0), (i 0)], [(i 0), (i 0)], [(i 0), (i 0)], [(i 0), (i 0)], [(i 0), (i 0)], [(i 0), (i 0)], [(i 0), (i 0)], [(i 0), (i 0)], [(i 0), (i 0)], [(i 0), (i 0)], [(i 0), (i 0)], [(i 0), (i 0)], [(i 0), (i 0)], [(i 0), (i 0)], [(i 0), (i 0)], [(i 0), (i 0)], [(i 0), (i 0)], [(i 0), (i 0)], [(i 0), (i 0)], [(i 0), (i 0)], [(i 0), (i 0)], [(i 0), (i 0)], [(i 0), (i 0)], [(i 0), (i 0)], [(i 0), (i 0)], [(i 0), (i 0)], [(i 0), (i 0)], [(i 0), (i 0)], [(i 0), (i 0)], [(i 0), (i 0)], [(i 0), (i 0)], [(i 0), (i 0)], [(i 0), (i 0)], [(i 0), (i 0)], [(i 0), (i 0)], [(i 0), (i 0)], [(i 0), (i 0)], [(i 0), (i 0)], [(i 0), (i 0)], [(i 0), (i 0)], [(i 0), (i 0)], [(i 0), (i 0)], [(i 0), (i 0)], [(i 0), (i 0)], [(i 0), (i 0)], [(i 0), (i 0)], [(i 0), (i 0)], [(i 0), (i 0)], [(i 0), (i 0)], [(i 0), (i 0)], [(i 0), (i 0)], [(i 0), (i 0)], [(i 0), (i 0)], [(i 0), (i 0)], [(i 0), (i 0)], [(i 0), (i 0)], [(i 0), (i 0)], [(i 0), (i 0)], [(i 0), (i 0)], [(i 0), (i 0)], [(i 0), (i 0)], [(i 0), (i 0)], [(i 0), (i 0)], [(i 0), (i 0)], [(i 0), (i 0)], [(i 0), (i 0)], [(i 0), (i 0)], [(i 0), (i 0)], [(i 0), (i 0)], [(i 0), (i 0)], [(i 0), (i 0)], [(i 0), (i 0)], [(i 0), (i 0)], [(i 0), (i 0)], [(i 0), (i 0)], [(i 0), (i 0)], [(i 0), (i 0)], [(i 0), (i 0)], [(i 0), (i 0)], [(i 0), (i 0)], [(i 0), (i 0)], [(i 0), (i 0)], [(i 0), (i 0)], [(i 0), (i 0)], [(i 0), (i 0)], [(i 0), (i 0)], [(i 0), (i 0)], [(i 0), (i 0)], [(i 0), (i 0)], [(i 0), (i 0)], [(i 0), (i 0)], [(i 0), (i 0)], [(i 0), (i 0)], [(i 0), (i 0)], [(i 0), (i 0)], [(i 0), (i 0)], [(i 0), (i 0)], [(i 0), (i 0)], [(i 0), (i 0)]]
def p261 : List PA := [.c m37]
def r261 : List RA := [.c (.c (i 4))]
theorem g261 : vcall (VN tb0) rounds 6 24 p261 = some r261 := by kernel_rfl
theorem s261 : Spec Go.Proofs.Tryz.prog 24 p261 r261 := fact tk0 g261
def p262 : List PA := [.a [(i 1), e], .a [(i 1), e]]
def r262 : List RA := [.c (.c bt)]
theorem g262 : vcall (VN tb0) rounds 6 131 p262 = some r262 := by kernel_rfl
theorem s262 : Spec Go.Proofs.Tryz.prog 131 p262 r262 := fact tk0 g262
def p263 : List PA := [.a [(y 1), (i 0), (i 0), e, e, e, m1, e, e], .a [(y 1), (i 0), (i 0), e, e, e, m1, e, e]]
def r263 : List RA := [.c (.c bt)]
theorem g263 : vcall (VN tb0) rounds 6 82 p263 = some r263 := by kernel_rfl
theorem s263 : Spec Go.Proofs.Tryz.prog 82 p263 r263 := fact tk0 g263
def p264 : List PA := [.a [(y 2), (i 0), (i 0), e, (l [[(i (-9223372036854775808))]]), e, e, e, e], .a [(y 2), (i 0), (i 0), e, (l [[(i (-9223372036854775808))]]), e, e, e, e]]
def r264 : List RA := [.c (.c bt)]
theorem g264 : vcall (VN tb0) rounds 6 82 p264 = some r264 := by kernel_rfl
theorem s264 : Spec Go.Proofs.Tryz.prog 82 p264 r264 := fact tk0 g264
def p265 : List PA := [.a [(y 4), (i 0), (i 0), e, (l [[(i (-9223372036854775808))]]), e, e, e, e], .a [(y 4), (i 0), (i 0), e, (l [[(i (-9223372036854775808))]]), e, e, e, e]]
def r265 : List RA := [.c (.c bt)]
theorem g265 : vcall (VN tb0) rounds 6 82 p265 = some r265 := by kernel_rfl
theorem s265 : Spec Go.Proofs.Tryz.prog 82 p265 r265 := fact tk0 g265
def p266 : List PA := [.a [(y 6), (i 0), (i 0), e, e, e, e, e, e], .a [(y 6), (i 0), (i 0), e, e, e, e, e, e]]
def r266 : List RA := [.c (.c bt)]
theorem g266 : vcall (VN tb0) rounds 6 82 p266 = some r266 := by kernel_rfl
theorem s266 : Spec Go.Proofs.Tryz.prog 82 p266 r266 := fact tk0 g266
def m38 : PV := l [[bf, (i 0), (i 0), (i 3), (i 0)]]
def m39 : PV := l [[m38]]
def p268 : List PA := [.c (i 0), .q [m39]]
def r268 : List RA := [.a [.c (y 1), .c (i 0), .c (i 0), .c e, .c e, .c e, .s 34 5 [[bf, (i 0), (i 0), (i 3), (i 0)]], .c e, .c e], .c (.c (i 0))]
theorem g268 : vcall (VN tb0) rounds 6 47 p268 = some r268 := by kernel_rfl
theorem s268 : Spec Go.Proofs.Tryz.prog 47 p268 r268 := fact tk0 g268
def m40 : PV := l [[(i 1), (i (-1))], [(i 0), (i (-1))], [(i 0), (i (-1))], [(i 0), (i (-1))]]
def p271 : List PA := [.c (l [[(i 1)], [(i 0)], [(i 0)], [(i 0)]])]
def r271 : List RA := [.c (.c m40)]
theorem g271 : vcall (VN tb0) rounds 6 25 p271 = some r271 := by kernel_rfl
theorem s271 : Spec Go.Proofs.Tryz.prog 25 p271 r271 := fact tk0 g271
def m41 : PV := l [[(y 1), (i 0), (i 0), e, e, e, m38, e, e], [(y 2), (i 0), (i 0), e, (l [[(i (-9223372036854775808))]]), e, e, e, e], [(y 4), (i 0), (i 0), e, (l [[(i (-9223372036854775808))]]), e, e, e, e], [(y 6), (i 0), (i 0), e, e, e, e, e, e]]
def p274 : List PA := [.a [(y 1), e, (l [[(i 0)]]), bf, e, (y 1), (i 5), (i 0), bf, (y 1), m3, m4, m41, m7], .c (l [[(i 0)]])]
def r274 : List RA := [.c (.c (l [[(i 1), e]]))]
theorem g274 : vcall (VN tb0) rounds 6 71 p274 = some r274 := by kernel_rfl
theorem s274 : Spec Go.Proofs.Tryz.prog 71 p274 r274 := fact tk0 g274
def p275 : List PA := [.a [(y 1), e, (l [[(i 0)]]), bf, e, (y 1), (i 5), (i 0), bf, (y 1), m3, m4, m41, m7], .c (l [[(i 1)]])]
def r275 : List RA := [.c (.c (l [[(i 1), e]]))]
theorem g275 : vcall (VN tb0) rounds 6 71 p275 = some r275 := by kernel_rfl
theorem s275 : Spec Go.Proofs.Tryz.prog 71 p275 r275 := fact tk0 g275
def p278 : List PA := [.a [(y 1), e, (l [[(i 0)]]), bf, e, (y 1), (i 5), (i 0), bf, (y 1), m3, m4, m41, m7], .c e]
def r278 : List RA := [.c (.c e)]
theorem g278 : vcall (VN tb0) rounds 6 71 p278 = some r278 := by kernel_rfl
theorem s278 : Spec Go.Proofs.Tryz.prog 71 p278 r278 := fact tk0 g278
def m42 : PV := l [[(y 1), (i 0), (i 0), m8, e, e, e, e, e], [(y 2), (i 0), (i 0), e, (l [[(i (-9223372036854775808))]]), e, e, e, e], [(y 4), (i 0), (i 0), e, (l [[(i (-9223372036854775808))]]), e, e, e, e], [(y 6), (i 0), (i 0), e, e, e, e, e, e]]
def p285 : List PA := [.a [(y 1), e, (l [[(i 0)]]), bf, e, (y 1), (i 5), (i 0), bf, (y 1), m3, m4, m42, m7], .c e]
def r285 : List RA := [.c (.c e)]
theorem g285 : vcall (VN tb0) rounds 6 71 p285 = some r285 := by kernel_rfl
theorem s285 : Spec Go.Proofs.Tryz.prog 71 p285 r285 := fact tk0 g285
def p286 : List PA := [.a [(y 1), e, (l [[(i 0)]]), bf, e, (y 1), (i 5), (i 0), bf, (y 1), m3, m4, m42, m7], .c (l [[(i 0)]])]
def r286 : List RA := [.c (.c (l [[(i 1), e]]))]
theorem g286 : vcall (VN tb0) rounds 6 71 p286 = some r286 := by kernel_rfl
theorem s286 : Spec Go.Proofs.Tryz.prog 71 p286 r286 := fact tk0 g286
def p293 : List PA := [.a [(y 1), e, (l [[(i 0)]]), bf, e, (y 1), (i 5), (i 0), bf, (y 1), m3, m4, m20, m13], .c e]
def r293 : List RA := [.c (.c e)]
theorem g293 : vcall (VN tb0) rounds 6 71 p293 = some r293 := by kernel_rfl
theorem s293 : Spec Go.Proofs.Tryz.prog 71 p293 r293 := fact tk0 g293
def p294 : List PA := [.a [(y 1), e, (l [[(i 0)]]), bf, e, (y 1), (i 5), (i 0), bf, (y 1), m3, m4, m20, m13], .c (l [[(i 0)]])]
def r294 : List RA := [.c (.c m14)]
theorem g294 : vcall (VN tb0) rounds 6 71 p294 = some r294 := by kernel_rfl
theorem s294 : Spec Go.Proofs.Tryz.prog 71 p294 r294 := fact tk0 g294
def p298 : List PA := [.a [(y 1), e, (l [[(i 0)]]), bf, e, (y 1), (i 5), (i 0), bf, (y 1), m3, m4, m20, m13]]
def r298 : List RA := [.a [.c (y 1), .c e, .c (l [[(i 0)]]), .c bf, .c e, .c (y 1), .c (i 5), .c (i 0), .c bf, .c (y 1), .c m3, .c m4, .s 56 9 [[(y 1), (i 0), (i 0), e, e, e, e, e, e], [(y 2), (i 0), (i 0), e, (l [[(i (-9223372036854775808))]]), e, e, e, e], [(y 4), (i 0), (i 0), e, (l [[(i (-9223372036854775808))]]), e, e, e, e], [(y 6), (i 0), (i 0), e, e, e, e, e, e]], .s 59 2 [[(i 1), m11], [(i 1), e], [(i 1), e]]]]
theorem g298 : vcall (VN tb0) rounds 6 78 p298 = some r298 := by kernel_rfl
theorem s298 : Spec Go.Proofs.Tryz.prog 78 p298 r298 := fact tk0 g298
def tb1 : List (FuncId × List PA × List RA) := [(134, p0, r0), (134, p1, r1), (134, p2, r2), (134, p3, r3), (134, p4, r4), (134, p5, r5), (173, p7, r7), (134, p8, r8), (134, p9, r9), (134, p10, r10), (134, p11, r11), (173, p13, r13), (134, p17, r17), (134, p21, r21), (134, p25, r25), (134, p26, r26), (134, p27, r27), (173, p29, r29), (134, p30, r30), (173, p32, r32), (134, p33, r33), (134, p34, r34), (134, p35, r35), (173, p37, r37), (134, p38, r38), (173, p40, r40), (134, p41, r41), (252, p43, r43), (254, p44, r44), (253, p45, r45), (290, p47, r47), (224, p51, r51), (224, p52, r52), (224, p53, r53), (224, p54, r54), (224, p55, r55), (224, p56, r56), (224, p57, r57), (224, p58, r58), (224, p59, r59), (224, p60, r60), (224, p61, r61), (224, p62, r62), (41, p65, r65), (93, p67, r67), (147, p69, r69), (47, p71, r71), (49, p72, r72), (51, p73, r73), (54, p74, r74), (187, p77, r77), (187, p78, r78), (187, p79, r79), (187, p80, r80), (187, p81, r81), (103, p84, r84), (189, p85, r85), (189, p86, r86), (72, p88, r88), (109, p89, r89), (189, p90, r90), (72, p92, r92), (109, p93, r93), (189, p94, r94), (72, p96, r96), (109, p97, r97), (72, p99, r99), (109, p100, r100), (41, p119, r119), (25, p123, r123), (71, p124, r124), (71, p125, r125), (71, p136, r136), (71, p137, r137), (156, p139, r139), (103, p144, r144), (71, p146, r146), (71, p147, r147), (71, p155, r155), (71, p156, r156), (71, p163, r163), (71, p164, r164), (71, p171, r171), (71, p172, r172), (156, p174, r174), (103, p179, r179), (71, p181, r181), (71, p182, r182), (231, p185, r185), (71, p191, r191), (71, p192, r192), (71, p201, r201), (71, p202, r202), (71, p209, r209), (71, p210, r210), (71, p219, r219), (71, p220, r220), (156, p222, r222), (103, p227, r227), (71, p229, r229), (71, p230, r230), (71, p238, r238), (71, p239, r239), (78, p243, r243), (71, p245, r245), (78, p250, r250), (25, p252, r252), (78, p253, r253), (78, p258, r258), (24, p261, r261), (131, p262, r262), (82, p263, r263), (82, p264, r264), (82, p265, r265), (82, p266, r266), (47, p268, r268), (25, p271, r271), (71, p274, r274), (71, p275, r275), (71, p278, r278), (71, p285, r285), (71, p286, r286), (71, p293, r293), (71, p294, r294), (78, p298, r298)] ++ tb0
theorem tk1 : TOK Go.Proofs.Tryz.prog tb1 := TOK.app (l := [(134, p0, r0), (134, p1, r1), (134, p2, r2), (134, p3, r3), (134, p4, r4), (134, p5, r5), (173, p7, r7), (134, p8, r8), (134, p9, r9), (134, p10, r10), (134, p11, r11), (173, p13, r13), (134, p17, r17), (134, p21, r21), (134, p25, r25), (134, p26, r26), (134, p27, r27), (173, p29, r29), (134, p30, r30), (173, p32, r32), (134, p33, r33), (134, p34, r34), (134, p35, r35), (173, p37, r37), (134, p38, r38), (173, p40, r40), (134, p41, r41), (252, p43, r43), (254, p44, r44), (253, p45, r45), (290, p47, r47), (224, p51, r51), (224, p52, r52), (224, p53, r53), (224, p54, r54), (224, p55, r55), (224, p56, r56), (224, p57, r57), (224, p58, r58), (224, p59, r59), (224, p60, r60), (224, p61, r61), (224, p62, r62), (41, p65, r65), (93, p67, r67), (147, p69, r69), (47, p71, r71), (49, p72, r72), (51, p73, r73), (54, p74, r74), (187, p77, r77), (187, p78, r78), (187, p79, r79), (187, p80, r80), (187, p81, r81), (103, p84, r84), (189, p85, r85), (189, p86, r86), (72, p88, r88), (109, p89, r89), (189, p90, r90), (72, p92, r92), (109, p93, r93), (189, p94, r94), (72, p96, r96), (109, p97, r97), (72, p99, r99), (109, p100, r100), (41, p119, r119), (25, p123, r123), (71, p124, r124), (71, p125, r125), (71, p136, r136), (71, p137, r137), (156, p139, r139), (103, p144, r144), (71, p146, r146), (71, p147, r147), (71, p155, r155), (71, p156, r156), (71, p163, r163), (71, p164, r164), (71, p171, r171), (71, p172, r172), (156, p174, r174), (103, p179, r179), (71, p181, r181), (71, p182, r182), (231, p185, r185), (71, p191, r191), (71, p192, r192), (71, p201, r201), (71, p202, r202), (71, p209, r209), (71, p210, r210), (71, p219, r219), (71, p220, r220), (156, p222, r222), (103, p227, r227), (71, p229, r229), (71, p230, r230), (71, p238, r238), (71, p239, r239), (78, p243, r243), (71, p245, r245), (78, p250, r250), (25, p252, r252), (78, p253, r253), (78, p258, r258), (24, p261, r261), (131, p262, r262), (82, p263, r263), (82, p264, r264), (82, p265, r265), (82, p266, r266), (47, p268, r268), (25, p271, r271), (71, p274, r274), (71, p275, r275), (71, p278, r278), (71, p285, r285), (71, p286, r286), (71, p293, r293), (71, p294, r294), (78, p298, r298)]) ⟨s0, s1, s2, s3, s4, s5, s7, s8, s9, s10, s11, s13, s17, s21, s25, s26, s27, s29, s30, s32, s33, s34, s35, s37, s38, s40, s41, s43, s44, s45, s47, s51, s52, s53, s54, s55, s56, s57, s58, s59, s60, s61, s62, s65, s67, s69, s71, s72, s73, s74, s77, s78, s79, s80, s81, s84, s85, s86, s88, s89, s90, s92, s93, s94, s96, s97, s99, s100, s119, s123, s124, s125, s136, s137, s139, s144, s146, s147, s155, s156, s163, s164, s171, s172, s174, s179, s181, s182, s185, s191, s192, s201, s202, s209, s210, s219, s220, s222, s227, s229, s230, s238, s239, s243, s245, s250, s252, s253, s258, s261, s262, s263, s264, s265, s266, s268, s271, s274, s275, s278, s285, s286, s293, s294, s298, trivial⟩ tk0
def p6 : List PA := [.c (s [115, 101, 108, 101, 99, 116, 32, 99, 111, 117, 110, 116, 40, 42, 41, 32, 102, 114, 111, 109, 32, 97, 32, 119, 105, 110, 100, 111, 119, 32, 116, 117, 109, 98, 108, 101, 32, 53])]
def r6 : List RA := [.a [.c (y 2), .c (s [115, 101, 108, 101, 99, 116]), .c (i 0)]]
theorem g6 : vcall (VN tb1) rounds 6 135 p6 = some r6 := by kernel_rfl
theorem s6 : Spec Go.Proofs.Tryz.prog 135 p6 r6 := fact tk1 g6
def p12 : List PA := [.c (s [99, 111, 117, 110, 116, 40, 42, 41, 32, 102, 114, 111, 109, 32, 97, 32, 119, 105, 110, 100, 111, 119, 32, 116, 117, 109, 98, 108, 101, 32, 53])]
def r12 : List RA := [.a [.c (y 2), .c (s [99, 111, 117, 110, 116]), .c (i 0)]]
theorem g12 : vcall (VN tb1) rounds 6 135 p12 = some r12 := by kernel_rfl
theorem s12 : Spec Go.Proofs.Tryz.prog 135 p12 r12 := fact tk1 g12
def p14 : List PA := [.c (s [40, 42, 41, 32, 102, 114, 111, 109, 32, 97, 32, 119, 105, 110, 100, 111, 119, 32, 116, 117, 109, 98, 108, 101, 32, 53]), .c (i 0)]
def r14 : List RA := [.c (.c (i 1)), .c (.c (i 0))]
theorem g14 : vcall (VN tb1) rounds 6 171 p14 = some r14 := by kernel_rfl
theorem s14 : Spec Go.Proofs.Tryz.prog 171 p14 r14 := fact tk1 g14
def p16 : List PA := [.c (s [40]), .c (i 0)]
def r16 : List RA := [.c (.c (i 1)), .c (.c (i 0))]
theorem g16 : vcall (VN tb1) rounds 6 171 p16 = some r16 := by kernel_rfl
theorem s16 : Spec Go.Proofs.Tryz.prog 171 p16 r16 := fact tk1 g16
def p18 : List PA := [.c (s [42, 41, 32, 102, 114, 111, 109, 32, 97, 32, 119, 105, 110, 100, 111, 119, 32, 116, 117, 109, 98, 108, 101, 32, 53]), .c (i 0)]
def r18 : List RA := [.c (.c (i 1)), .c (.c (i 0))]
theorem g18 : vcall (VN tb1) rounds 6 171 p18 = some r18 := by kernel_rfl
theorem s18 : Spec Go.Proofs.Tryz.prog 171 p18 r18 := fact tk1 g18
def p20 : List PA := [.c (s [42]), .c (i 0)]
def r20 : List RA := [.c (.c (i 1)), .c (.c (i 0))]
theorem g20 : vcall (VN tb1) rounds 6 171 p20 = some r20 := by kernel_rfl
theorem s20 : Spec Go.Proofs.Tryz.prog 171 p20 r20 := fact tk1 g20
def p22 : List PA := [.c (s [41, 32, 102, 114, 111, 109, 32, 97, 32, 119, 105, 110, 100, 111, 119, 32, 116, 117, 109, 98, 108, 101, 32, 53]), .c (i 0)]
def r22 : List RA := [.c (.c (i 1)), .c (.c (i 0))]
theorem g22 : vcall (VN tb1) rounds 6 171 p22 = some r22 := by kernel_rfl
theorem s22 : Spec Go.Proofs.Tryz.prog 171 p22 r22 := fact tk1 g22
def p24 : List PA := [.c (s [41]), .c (i 0)]
def r24 : List RA := [.c (.c (i 1)), .c (.c (i 0))]
theorem g24 : vcall (VN tb1) rounds 6 171 p24 = some r24 := by kernel_rfl
theorem s24 : Spec Go.Proofs.Tryz.prog 171 p24 r24 := fact tk1 g24
def p28 : List PA := [.c (s [102, 114, 111, 109, 32, 97, 32, 119, 105, 110, 100, 111, 119, 32, 116, 117, 109, 98, 108, 101, 32, 53])]
def r28 : List RA := [.a [.c (y 2), .c (s [102, 114, 111, 109]), .c (i 0)]]
theorem g28 : vcall (VN tb1) rounds 6 135 p28 = some r28 := by kernel_rfl
theorem s28 : Spec Go.Proofs.Tryz.prog 135 p28 r28 := fact tk1 g28
def p31 : List PA := [.c (s [97, 32, 119, 105, 110, 100, 111, 119, 32, 116, 117, 109, 98, 108, 101, 32, 53])]
def r31 : List RA := [.a [.c (y 2), .c (s [97]), .c (i 0)]]
theorem g31 : vcall (VN tb1) rounds 6 135 p31 = some r31 := by kernel_rfl
theorem s31 : Spec Go.Proofs.Tryz.prog 135 p31 r31 := fact tk1 g31
def p36 : List PA := [.c (s [119, 105, 110, 100, 111, 119, 32, 116, 117, 109, 98, 108, 101, 32, 53])]
def r36 : List RA := [.a [.c (y 2), .c (s [119, 105, 110, 100, 111, 119]), .c (i 0)]]
theorem g36 : vcall (VN tb1) rounds 6 135 p36 = some r36 := by kernel_rfl
theorem s36 : Spec Go.Proofs.Tryz.prog 135 p36 r36 := fact tk1 g36
def p39 : List PA := [.c (s [116, 117, 109, 98, 108, 101, 32, 53])]
def r39 : List RA := [.a [.c (y 2), .c (s [116, 117, 109, 98, 108, 101]), .c (i 0)]]
theorem g39 : vcall (VN tb1) rounds 6 135 p39 = some r39 := by kernel_rfl
theorem s39 : Spec Go.Proofs.Tryz.prog 135 p39 r39 := fact tk1 g39
def p42 : List PA := [.c (s [53])]
def r42 : List RA := [.a [.c (y 1), .c (s [53]), .c (i 0)]]
theorem g42 : vcall (VN tb1) rounds 6 135 p42 = some r42 := by kernel_rfl
theorem s42 : Spec Go.Proofs.Tryz.prog 135 p42 r42 := fact tk1 g42
def p46 : List PA := [.c (s [53]), .c (s [48, 49, 50, 51, 52, 53, 54, 55, 56, 57])]
def r46 : List RA := [.c (.c (s []))]
theorem g46 : vcall (VN tb1) rounds 6 218 p46 = some r46 := by kernel_rfl
theorem s46 : Spec Go.Proofs.Tryz.prog 218 p46 r46 := fact tk1 g46
def p48 : List PA := [.c (s [53]), .c (i 10), .c (i 64)]
def r48 : List RA := [.c (.c (i 5)), .c (.e false)]
theorem g48 : vcall (VN tb1) rounds 6 257 p48 = some r48 := by kernel_rfl
theorem s48 : Spec Go.Proofs.Tryz.prog 257 p48 r48 := fact tk1 g48
def p68 : List PA := [.a [(y 1), e, (l [[(i 0)]]), bf, e, (y 1), (i 5), (i 0), bf, (y 1)]]
def r68 : List RA := [.a [.c m0, .c (y 1), .c e, .c (l [[(i 0)]]), .c bf, .c e, .c (y 1), .c (i 5), .c (i 0), .c bf, .c (y 1)], .c (.c (i 0))]
theorem g68 : vcall (VN tb1) rounds 6 43 p68 = some r68 := by kernel_rfl
theorem s68 : Spec Go.Proofs.Tryz.prog 43 p68 r68 := fact tk1 g68
end Tn.Ru
