import Derived.Test.YtdcgemfchohffaaGreatDoorMNO
/- Closed facts of one run, each by the kernel. -/
set_option linter.unusedVariables false
set_option linter.unusedSimpArgs false
namespace Tn.Al
open Go Go.Abs Tn
abbrev i (n:Int):PV:=.int .i64 n
abbrev y (n:Int):PV:=.int .u8 n
abbrev bt:PV:=.bool true
abbrev bf:PV:=.bool false
abbrev s (l:List UInt8):PV:=.str l
abbrev l (es:List (List PV)):PV:=.sl es
abbrev e:PV:=.sl []
def tb0:List (FuncId×List PA×List RA):=[]
theorem tk0:TOK Go.Proofs.Tryz.prog tb0:=trivial
def p0:List PA:=[.c (y 115)]
def r0:List RA:=[.c (.c (y 3))]
theorem g0:Zd (VN tb0) rounds 6 130 p0=some r0:=by kernel_rfl
theorem s0:Spec Go.Proofs.Tryz.prog 130 p0 r0:=fact tk0 g0
def p1:List PA:=[.c (y 101)]
def r1:List RA:=[.c (.c (y 3))]
theorem g1:Zd (VN tb0) rounds 6 130 p1=some r1:=by kernel_rfl
theorem s1:Spec Go.Proofs.Tryz.prog 130 p1 r1:=fact tk0 g1
def p2:List PA:=[.c (y 108)]
def r2:List RA:=[.c (.c (y 3))]
theorem g2:Zd (VN tb0) rounds 6 130 p2=some r2:=by kernel_rfl
theorem s2:Spec Go.Proofs.Tryz.prog 130 p2 r2:=fact tk0 g2
def p3:List PA:=[.c (y 99)]
def r3:List RA:=[.c (.c (y 3))]
theorem g3:Zd (VN tb0) rounds 6 130 p3=some r3:=by kernel_rfl
theorem s3:Spec Go.Proofs.Tryz.prog 130 p3 r3:=fact tk0 g3
def p4:List PA:=[.c (y 116)]
def r4:List RA:=[.c (.c (y 3))]
theorem g4:Zd (VN tb0) rounds 6 130 p4=some r4:=by kernel_rfl
theorem s4:Spec Go.Proofs.Tryz.prog 130 p4 r4:=fact tk0 g4
def p5:List PA:=[.c (y 32)]
def r5:List RA:=[.c (.c (y 1))]
theorem g5:Zd (VN tb0) rounds 6 130 p5=some r5:=by kernel_rfl
theorem s5:Spec Go.Proofs.Tryz.prog 130 p5 r5:=fact tk0 g5
def p7:List PA:=[.c (s [115,101,108,101,99,116])]
def r7:List RA:=[.c (.c bt)]
theorem g7:Zd (VN tb0) rounds 6 165 p7=some r7:=by kernel_rfl
theorem s7:Spec Go.Proofs.Tryz.prog 165 p7 r7:=fact tk0 g7
def p8:List PA:=[.c (y 111)]
def r8:List RA:=[.c (.c (y 3))]
theorem g8:Zd (VN tb0) rounds 6 130 p8=some r8:=by kernel_rfl
theorem s8:Spec Go.Proofs.Tryz.prog 130 p8 r8:=fact tk0 g8
def p9:List PA:=[.c (y 117)]
def r9:List RA:=[.c (.c (y 3))]
theorem g9:Zd (VN tb0) rounds 6 130 p9=some r9:=by kernel_rfl
theorem s9:Spec Go.Proofs.Tryz.prog 130 p9 r9:=fact tk0 g9
def p10:List PA:=[.c (y 110)]
def r10:List RA:=[.c (.c (y 3))]
theorem g10:Zd (VN tb0) rounds 6 130 p10=some r10:=by kernel_rfl
theorem s10:Spec Go.Proofs.Tryz.prog 130 p10 r10:=fact tk0 g10
def p11:List PA:=[.c (y 40)]
def r11:List RA:=[.c (.c (y 4))]
theorem g11:Zd (VN tb0) rounds 6 130 p11=some r11:=by kernel_rfl
theorem s11:Spec Go.Proofs.Tryz.prog 130 p11 r11:=fact tk0 g11
def p13:List PA:=[.c (s [99,111,117,110,116])]
def r13:List RA:=[.c (.c bt)]
theorem g13:Zd (VN tb0) rounds 6 165 p13=some r13:=by kernel_rfl
theorem s13:Spec Go.Proofs.Tryz.prog 165 p13 r13:=fact tk0 g13
def p17:List PA:=[.c (y 42)]
def r17:List RA:=[.c (.c (y 4))]
theorem g17:Zd (VN tb0) rounds 6 130 p17=some r17:=by kernel_rfl
theorem s17:Spec Go.Proofs.Tryz.prog 130 p17 r17:=fact tk0 g17
def p21:List PA:=[.c (y 41)]
def r21:List RA:=[.c (.c (y 4))]
theorem g21:Zd (VN tb0) rounds 6 130 p21=some r21:=by kernel_rfl
theorem s21:Spec Go.Proofs.Tryz.prog 130 p21 r21:=fact tk0 g21
def p25:List PA:=[.c (y 102)]
def r25:List RA:=[.c (.c (y 3))]
theorem g25:Zd (VN tb0) rounds 6 130 p25=some r25:=by kernel_rfl
theorem s25:Spec Go.Proofs.Tryz.prog 130 p25 r25:=fact tk0 g25
def p26:List PA:=[.c (y 114)]
def r26:List RA:=[.c (.c (y 3))]
theorem g26:Zd (VN tb0) rounds 6 130 p26=some r26:=by kernel_rfl
theorem s26:Spec Go.Proofs.Tryz.prog 130 p26 r26:=fact tk0 g26
def p27:List PA:=[.c (y 109)]
def r27:List RA:=[.c (.c (y 3))]
theorem g27:Zd (VN tb0) rounds 6 130 p27=some r27:=by kernel_rfl
theorem s27:Spec Go.Proofs.Tryz.prog 130 p27 r27:=fact tk0 g27
def p29:List PA:=[.c (s [102,114,111,109])]
def r29:List RA:=[.c (.c bt)]
theorem g29:Zd (VN tb0) rounds 6 165 p29=some r29:=by kernel_rfl
theorem s29:Spec Go.Proofs.Tryz.prog 165 p29 r29:=fact tk0 g29
def p30:List PA:=[.c (y 97)]
def r30:List RA:=[.c (.c (y 3))]
theorem g30:Zd (VN tb0) rounds 6 130 p30=some r30:=by kernel_rfl
theorem s30:Spec Go.Proofs.Tryz.prog 130 p30 r30:=fact tk0 g30
def p32:List PA:=[.c (s [97])]
def r32:List RA:=[.c (.c bt)]
theorem g32:Zd (VN tb0) rounds 6 165 p32=some r32:=by kernel_rfl
theorem s32:Spec Go.Proofs.Tryz.prog 165 p32 r32:=fact tk0 g32
def p33:List PA:=[.c (y 119)]
def r33:List RA:=[.c (.c (y 3))]
theorem g33:Zd (VN tb0) rounds 6 130 p33=some r33:=by kernel_rfl
theorem s33:Spec Go.Proofs.Tryz.prog 130 p33 r33:=fact tk0 g33
def p34:List PA:=[.c (y 105)]
def r34:List RA:=[.c (.c (y 3))]
theorem g34:Zd (VN tb0) rounds 6 130 p34=some r34:=by kernel_rfl
theorem s34:Spec Go.Proofs.Tryz.prog 130 p34 r34:=fact tk0 g34
def p35:List PA:=[.c (y 100)]
def r35:List RA:=[.c (.c (y 3))]
theorem g35:Zd (VN tb0) rounds 6 130 p35=some r35:=by kernel_rfl
theorem s35:Spec Go.Proofs.Tryz.prog 130 p35 r35:=fact tk0 g35
def p37:List PA:=[.c (s [119,105,110,100,111,119])]
def r37:List RA:=[.c (.c bt)]
theorem g37:Zd (VN tb0) rounds 6 165 p37=some r37:=by kernel_rfl
theorem s37:Spec Go.Proofs.Tryz.prog 165 p37 r37:=fact tk0 g37
def p38:List PA:=[.c (y 98)]
def r38:List RA:=[.c (.c (y 3))]
theorem g38:Zd (VN tb0) rounds 6 130 p38=some r38:=by kernel_rfl
theorem s38:Spec Go.Proofs.Tryz.prog 130 p38 r38:=fact tk0 g38
def p40:List PA:=[.c (s [116,117,109,98,108,101])]
def r40:List RA:=[.c (.c bt)]
theorem g40:Zd (VN tb0) rounds 6 165 p40=some r40:=by kernel_rfl
theorem s40:Spec Go.Proofs.Tryz.prog 165 p40 r40:=fact tk0 g40
def p41:List PA:=[.c (y 53)]
def r41:List RA:=[.c (.c (y 2))]
theorem g41:Zd (VN tb0) rounds 6 130 p41=some r41:=by kernel_rfl
theorem s41:Spec Go.Proofs.Tryz.prog 130 p41 r41:=fact tk0 g41
def p43:List PA:=[.c (s [48,49,50,51,52,53,54,55,56,57])]
def r43:List RA:=[.a [.c bf,.c bf,.c bf,.c bf,.c bf,.c bf,.c bf,.c bf,.c bf,.c bf,.c bf,.c bf,.c bf,.c bf,.c bf,.c bf,.c bf,.c bf,.c bf,.c bf,.c bf,.c bf,.c bf,.c bf,.c bf,.c bf,.c bf,.c bf,.c bf,.c bf,.c bf,.c bf,.c bf,.c bf,.c bf,.c bf,.c bf,.c bf,.c bf,.c bf,.c bf,.c bf,.c bf,.c bf,.c bf,.c bf,.c bf,.c bf,.c bt,.c bt,.c bt,.c bt,.c bt,.c bt,.c bt,.c bt,.c bt,.c bt,.c bf,.c bf,.c bf,.c bf,.c bf,.c bf,.c bf,.c bf,.c bf,.c bf,.c bf,.c bf,.c bf,.c bf,.c bf,.c bf,.c bf,.c bf,.c bf,.c bf,.c bf,.c bf,.c bf,.c bf,.c bf,.c bf,.c bf,.c bf,.c bf,.c bf,.c bf,.c bf,.c bf,.c bf,.c bf,.c bf,.c bf,.c bf,.c bf,.c bf,.c bf,.c bf,.c bf,.c bf,.c bf,.c bf,.c bf,.c bf,.c bf,.c bf,.c bf,.c bf,.c bf,.c bf,.c bf,.c bf,.c bf,.c bf,.c bf,.c bf,.c bf,.c bf,.c bf,.c bf,.c bf,.c bf,.c bf,.c bf,.c bf,.c bf,.c bf,.c bf,.c bf,.c bf,.c bf,.c bf,.c bf,.c bf,.c bf,.c bf,.c bf,.c bf,.c bf,.c bf,.c bf,.c bf,.c bf,.c bf,.c bf,.c bf,.c bf,.c bf,.c bf,.c bf,.c bf,.c bf,.c bf,.c bf,.c bf,.c bf,.c bf,.c bf,.c bf,.c bf,.c bf,.c bf,.c bf,.c bf,.c bf,.c bf,.c bf,.c bf,.c bf,.c bf,.c bf,.c bf,.c bf,.c bf,.c bf,.c bf,.c bf,.c bf,.c bf,.c bf,.c bf,.c bf,.c bf,.c bf,.c bf,.c bf,.c bf,.c bf,.c bf,.c bf,.c bf,.c bf,.c bf,.c bf,.c bf,.c bf,.c bf,.c bf,.c bf,.c bf,.c bf,.c bf,.c bf,.c bf,.c bf,.c bf,.c bf,.c bf,.c bf,.c bf,.c bf,.c bf,.c bf,.c bf,.c bf,.c bf,.c bf,.c bf,.c bf,.c bf,.c bf,.c bf,.c bf,.c bf,.c bf,.c bf,.c bf,.c bf,.c bf,.c bf,.c bf,.c bf,.c bf,.c bf,.c bf,.c bf,.c bf,.c bf,.c bf,.c bf,.c bf,.c bf,.c bf,.c bf,.c bf,.c bf,.c bf,.c bf,.c bf,.c bf,.c bf,.c bf,.c bf,.c bf],.c (.c bt)]
theorem g43:Zd (VN tb0) rounds 6 211 p43=some r43:=by kernel_rfl
theorem s43:Spec Go.Proofs.Tryz.prog 211 p43 r43:=fact tk0 g43
def p44:List PA:=[.c (s [53]),.q [bf,bf,bf,bf,bf,bf,bf,bf,bf,bf,bf,bf,bf,bf,bf,bf,bf,bf,bf,bf,bf,bf,bf,bf,bf,bf,bf,bf,bf,bf,bf,bf,bf,bf,bf,bf,bf,bf,bf,bf,bf,bf,bf,bf,bf,bf,bf,bf,bt,bt,bt,bt,bt,bt,bt,bt,bt,bt,bf,bf,bf,bf,bf,bf,bf,bf,bf,bf,bf,bf,bf,bf,bf,bf,bf,bf,bf,bf,bf,bf,bf,bf,bf,bf,bf,bf,bf,bf,bf,bf,bf,bf,bf,bf,bf,bf,bf,bf,bf,bf,bf,bf,bf,bf,bf,bf,bf,bf,bf,bf,bf,bf,bf,bf,bf,bf,bf,bf,bf,bf,bf,bf,bf,bf,bf,bf,bf,bf,bf,bf,bf,bf,bf,bf,bf,bf,bf,bf,bf,bf,bf,bf,bf,bf,bf,bf,bf,bf,bf,bf,bf,bf,bf,bf,bf,bf,bf,bf,bf,bf,bf,bf,bf,bf,bf,bf,bf,bf,bf,bf,bf,bf,bf,bf,bf,bf,bf,bf,bf,bf,bf,bf,bf,bf,bf,bf,bf,bf,bf,bf,bf,bf,bf,bf,bf,bf,bf,bf,bf,bf,bf,bf,bf,bf,bf,bf,bf,bf,bf,bf,bf,bf,bf,bf,bf,bf,bf,bf,bf,bf,bf,bf,bf,bf,bf,bf,bf,bf,bf,bf,bf,bf,bf,bf,bf,bf,bf,bf,bf,bf,bf,bf,bf,bf,bf,bf,bf,bf,bf,bf,bf,bf,bf,bf,bf,bf]]
def r44:List RA:=[.c (.c (s []))]
theorem g44:Zd (VN tb0) rounds 6 213 p44=some r44:=by kernel_rfl
theorem s44:Spec Go.Proofs.Tryz.prog 213 p44 r44:=fact tk0 g44
def p45:List PA:=[.c (s []),.q [bf,bf,bf,bf,bf,bf,bf,bf,bf,bf,bf,bf,bf,bf,bf,bf,bf,bf,bf,bf,bf,bf,bf,bf,bf,bf,bf,bf,bf,bf,bf,bf,bf,bf,bf,bf,bf,bf,bf,bf,bf,bf,bf,bf,bf,bf,bf,bf,bt,bt,bt,bt,bt,bt,bt,bt,bt,bt,bf,bf,bf,bf,bf,bf,bf,bf,bf,bf,bf,bf,bf,bf,bf,bf,bf,bf,bf,bf,bf,bf,bf,bf,bf,bf,bf,bf,bf,bf,bf,bf,bf,bf,bf,bf,bf,bf,bf,bf,bf,bf,bf,bf,bf,bf,bf,bf,bf,bf,bf,bf,bf,bf,bf,bf,bf,bf,bf,bf,bf,bf,bf,bf,bf,bf,bf,bf,bf,bf,bf,bf,bf,bf,bf,bf,bf,bf,bf,bf,bf,bf,bf,bf,bf,bf,bf,bf,bf,bf,bf,bf,bf,bf,bf,bf,bf,bf,bf,bf,bf,bf,bf,bf,bf,bf,bf,bf,bf,bf,bf,bf,bf,bf,bf,bf,bf,bf,bf,bf,bf,bf,bf,bf,bf,bf,bf,bf,bf,bf,bf,bf,bf,bf,bf,bf,bf,bf,bf,bf,bf,bf,bf,bf,bf,bf,bf,bf,bf,bf,bf,bf,bf,bf,bf,bf,bf,bf,bf,bf,bf,bf,bf,bf,bf,bf,bf,bf,bf,bf,bf,bf,bf,bf,bf,bf,bf,bf,bf,bf,bf,bf,bf,bf,bf,bf,bf,bf,bf,bf,bf,bf,bf,bf,bf,bf,bf,bf]]
def r45:List RA:=[.c (.c (s []))]
theorem g45:Zd (VN tb0) rounds 6 212 p45=some r45:=by kernel_rfl
theorem s45:Spec Go.Proofs.Tryz.prog 212 p45 r45:=fact tk0 g45
def p47:List PA:=[.c (s [53]),.c (i 10),.c (i 64)]
def r47:List RA:=[.c (.c (.int .u64 5)),.c (.e false)]
theorem g47:Zd (VN tb0) rounds 6 231 p47=some r47:=by kernel_rfl
theorem s47:Spec Go.Proofs.Tryz.prog 231 p47 r47:=fact tk0 g47
def p51:List PA:=[.c (l [[(s [115,101,108,101,99,116])]]),.c (s [115,101,108,101,99,116])]
def r51:List RA:=[.c (.c (i 0))]
theorem g51:Zd (VN tb0) rounds 6 200 p51=some r51:=by kernel_rfl
theorem s51:Spec Go.Proofs.Tryz.prog 200 p51 r51:=fact tk0 g51
def p52:List PA:=[.c (l [[(s [99,111,117,110,116])],[(s [115,117,109])],[(s [109,105,110])],[(s [109,97,120])]]),.c (s [99,111,117,110,116])]
def r52:List RA:=[.c (.c (i 0))]
theorem g52:Zd (VN tb0) rounds 6 200 p52=some r52:=by kernel_rfl
theorem s52:Spec Go.Proofs.Tryz.prog 200 p52 r52:=fact tk0 g52
def p53:List PA:=[.c (l [[(s [40])]]),.c (s [40])]
def r53:List RA:=[.c (.c (i 0))]
theorem g53:Zd (VN tb0) rounds 6 200 p53=some r53:=by kernel_rfl
theorem s53:Spec Go.Proofs.Tryz.prog 200 p53 r53:=fact tk0 g53
def p54:List PA:=[.c (l [[(s [42])]]),.c (s [42])]
def r54:List RA:=[.c (.c (i 0))]
theorem g54:Zd (VN tb0) rounds 6 200 p54=some r54:=by kernel_rfl
theorem s54:Spec Go.Proofs.Tryz.prog 200 p54 r54:=fact tk0 g54
end Tn.Al

/- Closed facts of one run, each by the kernel. -/
namespace Tn.Al
open Go Go.Abs Tn
def p55:List PA:=[.c (l [[(s [41])]]),.c (s [41])]
def r55:List RA:=[.c (.c (i 0))]
theorem g55:Zd (VN tb0) rounds 6 200 p55=some r55:=by kernel_rfl
theorem s55:Spec Go.Proofs.Tryz.prog 200 p55 r55:=fact tk0 g55
def p56:List PA:=[.c (l [[(s [102,114,111,109])]]),.c (s [102,114,111,109])]
def r56:List RA:=[.c (.c (i 0))]
theorem g56:Zd (VN tb0) rounds 6 200 p56=some r56:=by kernel_rfl
theorem s56:Spec Go.Proofs.Tryz.prog 200 p56 r56:=fact tk0 g56
def p57:List PA:=[.c (l [[(s [97])],[(s [98])],[(s [99])],[(s [100])]]),.c (s [97])]
def r57:List RA:=[.c (.c (i 0))]
theorem g57:Zd (VN tb0) rounds 6 200 p57=some r57:=by kernel_rfl
theorem s57:Spec Go.Proofs.Tryz.prog 200 p57 r57:=fact tk0 g57
def p58:List PA:=[.c (l [[(s [106,111,105,110])]]),.c (s [119,105,110,100,111,119])]
def r58:List RA:=[.c (.c (i (-1)))]
theorem g58:Zd (VN tb0) rounds 6 200 p58=some r58:=by kernel_rfl
theorem s58:Spec Go.Proofs.Tryz.prog 200 p58 r58:=fact tk0 g58
def p59:List PA:=[.c (l [[(s [117,110,105,111,110])]]),.c (s [119,105,110,100,111,119])]
def r59:List RA:=[.c (.c (i (-1)))]
theorem g59:Zd (VN tb0) rounds 6 200 p59=some r59:=by kernel_rfl
theorem s59:Spec Go.Proofs.Tryz.prog 200 p59 r59:=fact tk0 g59
def p60:List PA:=[.c (l [[(s [119,104,101,114,101])]]),.c (s [119,105,110,100,111,119])]
def r60:List RA:=[.c (.c (i (-1)))]
theorem g60:Zd (VN tb0) rounds 6 200 p60=some r60:=by kernel_rfl
theorem s60:Spec Go.Proofs.Tryz.prog 200 p60 r60:=fact tk0 g60
def p61:List PA:=[.c (l [[(s [119,105,110,100,111,119])]]),.c (s [119,105,110,100,111,119])]
def r61:List RA:=[.c (.c (i 0))]
theorem g61:Zd (VN tb0) rounds 6 200 p61=some r61:=by kernel_rfl
theorem s61:Spec Go.Proofs.Tryz.prog 200 p61 r61:=fact tk0 g61
def p62:List PA:=[.c (l [[(s [116,117,109,98,108,101])],[(s [115,108,105,100,101])],[(s [115,101,115,115,105,111,110])]]),.c (s [116,117,109,98,108,101])]
def r62:List RA:=[.c (.c (i 0))]
theorem g62:Zd (VN tb0) rounds 6 200 p62=some r62:=by kernel_rfl
theorem s62:Spec Go.Proofs.Tryz.prog 200 p62 r62:=fact tk0 g62
def p65:List PA:=[.a [(y 1),e,(l [[(i 0)]]),bf,e,(y 1),(i 5),(i 0),bf,(y 1)]]
def r65:List RA:=[.c (.c (i 0)),.c (.c (i 0))]
theorem g65:Zd (VN tb0) rounds 6 26 p65=some r65:=by kernel_rfl
theorem s65:Spec Go.Proofs.Tryz.prog 26 p65 r65:=fact tk0 g65
def p67:List PA:=[.a [(y 1),e,(l [[(i 0)]]),bf,e,(y 1),(i 5),(i 0),bf,(y 1)]]
def r67:List RA:=[.c (.s 5 1 [[(y 1)],[(y 2)],[(y 4)],[(y 6)],[(y 7)],[(y 9)]])]
theorem g67:Zd (VN tb0) rounds 6 101 p67=some r67:=by kernel_rfl
theorem s67:Spec Go.Proofs.Tryz.prog 101 p67 r67:=fact tk0 g67
def m0:PV:=l [[(y 1)],[(y 2)],[(y 4)],[(y 6)],[(y 7)],[(y 9)]]
def p69:List PA:=[.c m0,.c m0]
def r69:List RA:=[.c (.c bt)]
theorem g69:Zd (VN tb0) rounds 6 139 p69=some r69:=by kernel_rfl
theorem s69:Spec Go.Proofs.Tryz.prog 139 p69 r69:=fact tk0 g69
def p71:List PA:=[.c (i 0),.q [(l [[e]])]]
def r71:List RA:=[.a [.c (y 1),.c (i 0),.c (i 0),.c e,.c e,.c e,.s 83 5 [],.c e,.c e],.c (.c (i 0))]
theorem g71:Zd (VN tb0) rounds 6 54 p71=some r71:=by kernel_rfl
theorem s71:Spec Go.Proofs.Tryz.prog 54 p71 r71:=fact tk0 g71
def p72:List PA:=[.c (i 0)]
def r72:List RA:=[.a [.c (y 2),.c (i 0),.c (i 0),.c e,.s 2 1 [[(i (-9223372036854775808))]],.c e,.c e,.c e,.c e],.c (.c (i 0))]
theorem g72:Zd (VN tb0) rounds 6 56 p72=some r72:=by kernel_rfl
theorem s72:Spec Go.Proofs.Tryz.prog 56 p72 r72:=fact tk0 g72
def p73:List PA:=[.c (i 0),.q [(y 1),e,(l [[(i 0)]]),bf,e,(y 1),(i 5),(i 0),bf,(y 1)]]
def r73:List RA:=[.a [.c (y 4),.c (i 0),.c (i 0),.c e,.s 2 1 [[(i (-9223372036854775808))]],.c e,.c e,.c e,.c e],.c (.c (i 0))]
theorem g73:Zd (VN tb0) rounds 6 58 p73=some r73:=by kernel_rfl
theorem s73:Spec Go.Proofs.Tryz.prog 58 p73 r73:=fact tk0 g73
def p74:List PA:=[.c (i 0)]
def r74:List RA:=[.a [.c (y 6),.c (i 0),.c (i 0),.c e,.c e,.c e,.c e,.c e,.c e],.c (.c (i 0))]
theorem g74:Zd (VN tb0) rounds 6 61 p74=some r74:=by kernel_rfl
theorem s74:Spec Go.Proofs.Tryz.prog 61 p74 r74:=fact tk0 g74
def p77:List PA:=[.c e,.a [(i 0),(i 0)]]
def r77:List RA:=[.c (.c bt)]
theorem g77:Zd (VN tb0) rounds 6 85 p77=some r77:=by kernel_rfl
theorem s77:Spec Go.Proofs.Tryz.prog 85 p77 r77:=fact tk0 g77
def p78:List PA:=[.c (l [[(i 0)]]),.a [(i 1),(i 1)]]
def r78:List RA:=[.c (.c bt)]
theorem g78:Zd (VN tb0) rounds 6 85 p78=some r78:=by kernel_rfl
theorem s78:Spec Go.Proofs.Tryz.prog 85 p78 r78:=fact tk0 g78
def p79:List PA:=[.c (l [[(i 0)]]),.a [(i 1),(i 2)]]
def r79:List RA:=[.c (.c bt)]
theorem g79:Zd (VN tb0) rounds 6 85 p79=some r79:=by kernel_rfl
theorem s79:Spec Go.Proofs.Tryz.prog 85 p79 r79:=fact tk0 g79
def p80:List PA:=[.c (l [[(i 0)]]),.a [(i 1),(i 4)]]
def r80:List RA:=[.c (.c bt)]
theorem g80:Zd (VN tb0) rounds 6 85 p80=some r80:=by kernel_rfl
theorem s80:Spec Go.Proofs.Tryz.prog 85 p80 r80:=fact tk0 g80
def p81:List PA:=[.c (l [[(i 0)]]),.a [(i 1),(i 3)]]
def r81:List RA:=[.c (.c bt)]
theorem g81:Zd (VN tb0) rounds 6 85 p81=some r81:=by kernel_rfl
theorem s81:Spec Go.Proofs.Tryz.prog 85 p81 r81:=fact tk0 g81
def p84:List PA:=[.a [(i 1),e]]
def r84:List RA:=[.c (.c (i 0))]
theorem g84:Zd (VN tb0) rounds 6 28 p84=some r84:=by kernel_rfl
theorem s84:Spec Go.Proofs.Tryz.prog 28 p84 r84:=fact tk0 g84
def p85:List PA:=[.c bf,.c (i 4000)]
def r85:List RA:=[.c (.c (i 0))]
theorem g85:Zd (VN tb0) rounds 6 89 p85=some r85:=by kernel_rfl
theorem s85:Spec Go.Proofs.Tryz.prog 89 p85 r85:=fact tk0 g85
def p86:List PA:=[.c bt,.c (i 60)]
def r86:List RA:=[.c (.c (i 60))]
theorem g86:Zd (VN tb0) rounds 6 89 p86=some r86:=by kernel_rfl
theorem s86:Spec Go.Proofs.Tryz.prog 89 p86 r86:=fact tk0 g86
def m1:PV:=l [[(y 1),(i 0)],[(y 2),(i 0)],[(y 4),(i 0)],[(y 6),(i 0)]]
def m2:PV:=l [[(i 0),(i 0),(i 1),(i 0),(i 1)],[(i 1),(i 0),(i 2),(i 0),(i 1)],[(i 2),(i 0),(i 3),(i 0),(i 1)]]
def p88:List PA:=[.a [m1,m2],.c (i 0)]
def r88:List RA:=[.c (.c e)]
theorem g88:Zd (VN tb0) rounds 6 46 p88=some r88:=by kernel_rfl
theorem s88:Spec Go.Proofs.Tryz.prog 46 p88 r88:=fact tk0 g88
def p89:List PA:=[.a [m1,m2],.c (i 0)]
def r89:List RA:=[.c (.c (l [[(i 0)]]))]
theorem g89:Zd (VN tb0) rounds 6 47 p89=some r89:=by kernel_rfl
theorem s89:Spec Go.Proofs.Tryz.prog 47 p89 r89:=fact tk0 g89
def p90:List PA:=[.c bf,.c (i 60)]
def r90:List RA:=[.c (.c (i 0))]
theorem g90:Zd (VN tb0) rounds 6 89 p90=some r90:=by kernel_rfl
theorem s90:Spec Go.Proofs.Tryz.prog 89 p90 r90:=fact tk0 g90
def p92:List PA:=[.a [m1,m2],.c (i 1)]
def r92:List RA:=[.c (.c (l [[(i 0)]]))]
theorem g92:Zd (VN tb0) rounds 6 46 p92=some r92:=by kernel_rfl
theorem s92:Spec Go.Proofs.Tryz.prog 46 p92 r92:=fact tk0 g92
def p93:List PA:=[.a [m1,m2],.c (i 1)]
def r93:List RA:=[.c (.c (l [[(i 1)]]))]
theorem g93:Zd (VN tb0) rounds 6 47 p93=some r93:=by kernel_rfl
theorem s93:Spec Go.Proofs.Tryz.prog 47 p93 r93:=fact tk0 g93
def p94:List PA:=[.c bt,.c (i 4000)]
def r94:List RA:=[.c (.c (i 4000))]
theorem g94:Zd (VN tb0) rounds 6 89 p94=some r94:=by kernel_rfl
theorem s94:Spec Go.Proofs.Tryz.prog 89 p94 r94:=fact tk0 g94
def p96:List PA:=[.a [m1,m2],.c (i 2)]
def r96:List RA:=[.c (.c (l [[(i 1)]]))]
theorem g96:Zd (VN tb0) rounds 6 46 p96=some r96:=by kernel_rfl
theorem s96:Spec Go.Proofs.Tryz.prog 46 p96 r96:=fact tk0 g96
def p97:List PA:=[.a [m1,m2],.c (i 2)]
def r97:List RA:=[.c (.c (l [[(i 2)]]))]
theorem g97:Zd (VN tb0) rounds 6 47 p97=some r97:=by kernel_rfl
theorem s97:Spec Go.Proofs.Tryz.prog 47 p97 r97:=fact tk0 g97
def p99:List PA:=[.a [m1,m2],.c (i 3)]
def r99:List RA:=[.c (.c (l [[(i 2)]]))]
theorem g99:Zd (VN tb0) rounds 6 46 p99=some r99:=by kernel_rfl
theorem s99:Spec Go.Proofs.Tryz.prog 46 p99 r99:=fact tk0 g99
def p100:List PA:=[.a [m1,m2],.c (i 3)]
def r100:List RA:=[.c (.c e)]
theorem g100:Zd (VN tb0) rounds 6 47 p100=some r100:=by kernel_rfl
theorem s100:Spec Go.Proofs.Tryz.prog 47 p100 r100:=fact tk0 g100
def tb1:List (FuncId×List PA×List RA):=[(130,p0,r0),(130,p1,r1),(130,p2,r2),(130,p3,r3),(130,p4,r4),(130,p5,r5),(165,p7,r7),(130,p8,r8),(130,p9,r9),(130,p10,r10),(130,p11,r11),(165,p13,r13),(130,p17,r17),(130,p21,r21),(130,p25,r25),(130,p26,r26),(130,p27,r27),(165,p29,r29),(130,p30,r30),(165,p32,r32),(130,p33,r33),(130,p34,r34),(130,p35,r35),(165,p37,r37),(130,p38,r38),(165,p40,r40),(130,p41,r41),(211,p43,r43),(213,p44,r44),(212,p45,r45),(231,p47,r47),(200,p51,r51),(200,p52,r52),(200,p53,r53),(200,p54,r54),(200,p55,r55),(200,p56,r56),(200,p57,r57),(200,p58,r58),(200,p59,r59),(200,p60,r60),(200,p61,r61),(200,p62,r62),(26,p65,r65),(101,p67,r67),(139,p69,r69),(54,p71,r71),(56,p72,r72),(58,p73,r73),(61,p74,r74),(85,p77,r77),(85,p78,r78),(85,p79,r79),(85,p80,r80),(85,p81,r81),(28,p84,r84),(89,p85,r85),(89,p86,r86),(46,p88,r88),(47,p89,r89),(89,p90,r90),(46,p92,r92),(47,p93,r93),(89,p94,r94),(46,p96,r96),(47,p97,r97),(46,p99,r99),(47,p100,r100)]++tb0
theorem tk1:TOK Go.Proofs.Tryz.prog tb1:=TOK.app (l:=[(130,p0,r0),(130,p1,r1),(130,p2,r2),(130,p3,r3),(130,p4,r4),(130,p5,r5),(165,p7,r7),(130,p8,r8),(130,p9,r9),(130,p10,r10),(130,p11,r11),(165,p13,r13),(130,p17,r17),(130,p21,r21),(130,p25,r25),(130,p26,r26),(130,p27,r27),(165,p29,r29),(130,p30,r30),(165,p32,r32),(130,p33,r33),(130,p34,r34),(130,p35,r35),(165,p37,r37),(130,p38,r38),(165,p40,r40),(130,p41,r41),(211,p43,r43),(213,p44,r44),(212,p45,r45),(231,p47,r47),(200,p51,r51),(200,p52,r52),(200,p53,r53),(200,p54,r54),(200,p55,r55),(200,p56,r56),(200,p57,r57),(200,p58,r58),(200,p59,r59),(200,p60,r60),(200,p61,r61),(200,p62,r62),(26,p65,r65),(101,p67,r67),(139,p69,r69),(54,p71,r71),(56,p72,r72),(58,p73,r73),(61,p74,r74),(85,p77,r77),(85,p78,r78),(85,p79,r79),(85,p80,r80),(85,p81,r81),(28,p84,r84),(89,p85,r85),(89,p86,r86),(46,p88,r88),(47,p89,r89),(89,p90,r90),(46,p92,r92),(47,p93,r93),(89,p94,r94),(46,p96,r96),(47,p97,r97),(46,p99,r99),(47,p100,r100)]) ⟨s0,s1,s2,s3,s4,s5,s7,s8,s9,s10,s11,s13,s17,s21,s25,s26,s27,s29,s30,s32,s33,s34,s35,s37,s38,s40,s41,s43,s44,s45,s47,s51,s52,s53,s54,s55,s56,s57,s58,s59,s60,s61,s62,s65,s67,s69,s71,s72,s73,s74,s77,s78,s79,s80,s81,s84,s85,s86,s88,s89,s90,s92,s93,s94,s96,s97,s99,s100,trivial⟩ tk0
def p6:List PA:=[.c (s [115,101,108,101,99,116,32,99,111,117,110,116,40,42,41,32,102,114,111,109,32,97,32,119,105,110,100,111,119,32,116,117,109,98,108,101,32,53])]
def r6:List RA:=[.a [.c (y 2),.c (s [115,101,108,101,99,116]),.c (i 0)]]
theorem g6:Zd (VN tb1) rounds 6 131 p6=some r6:=by kernel_rfl
theorem s6:Spec Go.Proofs.Tryz.prog 131 p6 r6:=fact tk1 g6
def p12:List PA:=[.c (s [99,111,117,110,116,40,42,41,32,102,114,111,109,32,97,32,119,105,110,100,111,119,32,116,117,109,98,108,101,32,53])]
def r12:List RA:=[.a [.c (y 2),.c (s [99,111,117,110,116]),.c (i 0)]]
theorem g12:Zd (VN tb1) rounds 6 131 p12=some r12:=by kernel_rfl
theorem s12:Spec Go.Proofs.Tryz.prog 131 p12 r12:=fact tk1 g12
def p14:List PA:=[.c (s [40,42,41,32,102,114,111,109,32,97,32,119,105,110,100,111,119,32,116,117,109,98,108,101,32,53]),.c (i 0)]
def r14:List RA:=[.c (.c (i 1)),.c (.c (i 0))]
theorem g14:Zd (VN tb1) rounds 6 163 p14=some r14:=by kernel_rfl
theorem s14:Spec Go.Proofs.Tryz.prog 163 p14 r14:=fact tk1 g14
def p16:List PA:=[.c (s [40]),.c (i 0)]
def r16:List RA:=[.c (.c (i 1)),.c (.c (i 0))]
theorem g16:Zd (VN tb1) rounds 6 163 p16=some r16:=by kernel_rfl
theorem s16:Spec Go.Proofs.Tryz.prog 163 p16 r16:=fact tk1 g16
def p18:List PA:=[.c (s [42,41,32,102,114,111,109,32,97,32,119,105,110,100,111,119,32,116,117,109,98,108,101,32,53]),.c (i 0)]
def r18:List RA:=[.c (.c (i 1)),.c (.c (i 0))]
theorem g18:Zd (VN tb1) rounds 6 163 p18=some r18:=by kernel_rfl
theorem s18:Spec Go.Proofs.Tryz.prog 163 p18 r18:=fact tk1 g18
def p20:List PA:=[.c (s [42]),.c (i 0)]
def r20:List RA:=[.c (.c (i 1)),.c (.c (i 0))]
theorem g20:Zd (VN tb1) rounds 6 163 p20=some r20:=by kernel_rfl
theorem s20:Spec Go.Proofs.Tryz.prog 163 p20 r20:=fact tk1 g20
def p22:List PA:=[.c (s [41,32,102,114,111,109,32,97,32,119,105,110,100,111,119,32,116,117,109,98,108,101,32,53]),.c (i 0)]
def r22:List RA:=[.c (.c (i 1)),.c (.c (i 0))]
theorem g22:Zd (VN tb1) rounds 6 163 p22=some r22:=by kernel_rfl
theorem s22:Spec Go.Proofs.Tryz.prog 163 p22 r22:=fact tk1 g22
def p24:List PA:=[.c (s [41]),.c (i 0)]
def r24:List RA:=[.c (.c (i 1)),.c (.c (i 0))]
theorem g24:Zd (VN tb1) rounds 6 163 p24=some r24:=by kernel_rfl
theorem s24:Spec Go.Proofs.Tryz.prog 163 p24 r24:=fact tk1 g24
def p28:List PA:=[.c (s [102,114,111,109,32,97,32,119,105,110,100,111,119,32,116,117,109,98,108,101,32,53])]
def r28:List RA:=[.a [.c (y 2),.c (s [102,114,111,109]),.c (i 0)]]
theorem g28:Zd (VN tb1) rounds 6 131 p28=some r28:=by kernel_rfl
theorem s28:Spec Go.Proofs.Tryz.prog 131 p28 r28:=fact tk1 g28
def p31:List PA:=[.c (s [97,32,119,105,110,100,111,119,32,116,117,109,98,108,101,32,53])]
def r31:List RA:=[.a [.c (y 2),.c (s [97]),.c (i 0)]]
theorem g31:Zd (VN tb1) rounds 6 131 p31=some r31:=by kernel_rfl
theorem s31:Spec Go.Proofs.Tryz.prog 131 p31 r31:=fact tk1 g31
def p36:List PA:=[.c (s [119,105,110,100,111,119,32,116,117,109,98,108,101,32,53])]
def r36:List RA:=[.a [.c (y 2),.c (s [119,105,110,100,111,119]),.c (i 0)]]
theorem g36:Zd (VN tb1) rounds 6 131 p36=some r36:=by kernel_rfl
theorem s36:Spec Go.Proofs.Tryz.prog 131 p36 r36:=fact tk1 g36
def p39:List PA:=[.c (s [116,117,109,98,108,101,32,53])]
def r39:List RA:=[.a [.c (y 2),.c (s [116,117,109,98,108,101]),.c (i 0)]]
theorem g39:Zd (VN tb1) rounds 6 131 p39=some r39:=by kernel_rfl
theorem s39:Spec Go.Proofs.Tryz.prog 131 p39 r39:=fact tk1 g39
def p42:List PA:=[.c (s [53])]
def r42:List RA:=[.a [.c (y 1),.c (s [53]),.c (i 0)]]
theorem g42:Zd (VN tb1) rounds 6 131 p42=some r42:=by kernel_rfl
theorem s42:Spec Go.Proofs.Tryz.prog 131 p42 r42:=fact tk1 g42
def p46:List PA:=[.c (s [53]),.c (s [48,49,50,51,52,53,54,55,56,57])]
def r46:List RA:=[.c (.c (s []))]
theorem g46:Zd (VN tb1) rounds 6 194 p46=some r46:=by kernel_rfl
theorem s46:Spec Go.Proofs.Tryz.prog 194 p46 r46:=fact tk1 g46
def p48:List PA:=[.c (s [53]),.c (i 10),.c (i 64)]
def r48:List RA:=[.c (.c (i 5)),.c (.e false)]
theorem g48:Zd (VN tb1) rounds 6 216 p48=some r48:=by kernel_rfl
theorem s48:Spec Go.Proofs.Tryz.prog 216 p48 r48:=fact tk1 g48
def p68:List PA:=[.a [(y 1),e,(l [[(i 0)]]),bf,e,(y 1),(i 5),(i 0),bf,(y 1)]]
def r68:List RA:=[.a [.c m0,.c (y 1),.c e,.c (l [[(i 0)]]),.c bf,.c e,.c (y 1),.c (i 5),.c (i 0),.c bf,.c (y 1)],.c (.c (i 0))]
theorem g68:Zd (VN tb1) rounds 6 50 p68=some r68:=by kernel_rfl
theorem s68:Spec Go.Proofs.Tryz.prog 50 p68 r68:=fact tk1 g68
def p70:List PA:=[.a [m0,(y 1),e,(l [[(i 0)]]),bf,e,(y 1),(i 5),(i 0),bf,(y 1)],.c (i 2),.c (i 1)]
def r70:List RA:=[.a [.c m1,.c m2],.c (.c (i 0))]
theorem g70:Zd (VN tb1) rounds 6 51 p70=some r70:=by kernel_rfl
theorem s70:Spec Go.Proofs.Tryz.prog 51 p70 r70:=fact tk1 g70
def p82:List PA:=[.a [m1,m2]]
def r82:List RA:=[.c (.c bt)]
theorem g82:Zd (VN tb1) rounds 6 43 p82=some r82:=by kernel_rfl
theorem s82:Spec Go.Proofs.Tryz.prog 43 p82 r82:=fact tk1 g82
def p87:List PA:=[.a [(y 1),(i 0),(i 0),e,e,e,e,e,e]]
def r87:List RA:=[.c (.c (i 0))]
theorem g87:Zd (VN tb1) rounds 6 45 p87=some r87:=by kernel_rfl
theorem s87:Spec Go.Proofs.Tryz.prog 45 p87 r87:=fact tk1 g87
def p91:List PA:=[.a [(y 2),(i 0),(i 0),e,(l [[(i (-9223372036854775808))]]),e,e,e,e]]
def r91:List RA:=[.c (.c (i 0))]
theorem g91:Zd (VN tb1) rounds 6 45 p91=some r91:=by kernel_rfl
theorem s91:Spec Go.Proofs.Tryz.prog 45 p91 r91:=fact tk1 g91
def p95:List PA:=[.a [(y 4),(i 0),(i 0),e,(l [[(i (-9223372036854775808))]]),e,e,e,e]]
def r95:List RA:=[.c (.c (i 0))]
theorem g95:Zd (VN tb1) rounds 6 45 p95=some r95:=by kernel_rfl
theorem s95:Spec Go.Proofs.Tryz.prog 45 p95 r95:=fact tk1 g95
def p98:List PA:=[.a [(y 6),(i 0),(i 0),e,e,e,e,e,e]]
def r98:List RA:=[.c (.c (i 0))]
theorem g98:Zd (VN tb1) rounds 6 45 p98=some r98:=by kernel_rfl
theorem s98:Spec Go.Proofs.Tryz.prog 45 p98 r98:=fact tk1 g98
def tb2:List (FuncId×List PA×List RA):=[(131,p6,r6),(131,p12,r12),(163,p14,r14),(163,p16,r16),(163,p18,r18),(163,p20,r20),(163,p22,r22),(163,p24,r24),(131,p28,r28),(131,p31,r31),(131,p36,r36),(131,p39,r39),(131,p42,r42),(194,p46,r46),(216,p48,r48),(50,p68,r68),(51,p70,r70),(43,p82,r82),(45,p87,r87),(45,p91,r91),(45,p95,r95),(45,p98,r98)]++tb1
theorem tk2:TOK Go.Proofs.Tryz.prog tb2:=TOK.app (l:=[(131,p6,r6),(131,p12,r12),(163,p14,r14),(163,p16,r16),(163,p18,r18),(163,p20,r20),(163,p22,r22),(163,p24,r24),(131,p28,r28),(131,p31,r31),(131,p36,r36),(131,p39,r39),(131,p42,r42),(194,p46,r46),(216,p48,r48),(50,p68,r68),(51,p70,r70),(43,p82,r82),(45,p87,r87),(45,p91,r91),(45,p95,r95),(45,p98,r98)]) ⟨s6,s12,s14,s16,s18,s20,s22,s24,s28,s31,s36,s39,s42,s46,s48,s68,s70,s82,s87,s91,s95,s98,trivial⟩ tk1
def p15:List PA:=[.c (s [40,42,41,32,102,114,111,109,32,97,32,119,105,110,100,111,119,32,116,117,109,98,108,101,32,53])]
def r15:List RA:=[.a [.c (y 3),.c (s [40]),.c (i 0)]]
theorem g15:Zd (VN tb2) rounds 6 131 p15=some r15:=by kernel_rfl
theorem s15:Spec Go.Proofs.Tryz.prog 131 p15 r15:=fact tk2 g15
def p19:List PA:=[.c (s [42,41,32,102,114,111,109,32,97,32,119,105,110,100,111,119,32,116,117,109,98,108,101,32,53])]
def r19:List RA:=[.a [.c (y 3),.c (s [42]),.c (i 0)]]
theorem g19:Zd (VN tb2) rounds 6 131 p19=some r19:=by kernel_rfl
theorem s19:Spec Go.Proofs.Tryz.prog 131 p19 r19:=fact tk2 g19
def p23:List PA:=[.c (s [41,32,102,114,111,109,32,97,32,119,105,110,100,111,119,32,116,117,109,98,108,101,32,53])]
def r23:List RA:=[.a [.c (y 3),.c (s [41]),.c (i 0)]]
theorem g23:Zd (VN tb2) rounds 6 131 p23=some r23:=by kernel_rfl
theorem s23:Spec Go.Proofs.Tryz.prog 131 p23 r23:=fact tk2 g23
def p49:List PA:=[.c (s [53]),.c (i 10),.c (i 64)]
def r49:List RA:=[.c (.c (i 5)),.c (.e false)]
theorem g49:Zd (VN tb2) rounds 6 195 p49=some r49:=by kernel_rfl
theorem s49:Spec Go.Proofs.Tryz.prog 195 p49 r49:=fact tk2 g49
def m3:PV:=l [[(y 1),(i 0),(i 0),e,e,e,e,e,e],[(y 2),(i 0),(i 0),e,(l [[(i (-9223372036854775808))]]),e,e,e,e],[(y 4),(i 0),(i 0),e,(l [[(i (-9223372036854775808))]]),e,e,e,e],[(y 6),(i 0),(i 0),e,e,e,e,e,e]]
def m4:PV:=l [[(i 1),e],[(i 1),e],[(i 1),e]]
def p75:List PA:=[.a [(y 1),e,(l [[(i 0)]]),bf,e,(y 1),(i 5),(i 0),bf,(y 1)],.c (l [[e]]),.c (i 2),.c (i 1)]
def r75:List RA:=[.a [.c (y 1),.c e,.c (l [[(i 0)]]),.c bf,.c e,.c (y 1),.c (i 5),.c (i 0),.c bf,.c (y 1),.c m1,.c m2,.c m3,.c m4],.c (.c (i 0))]
theorem g75:Zd (VN tb2) rounds 6 32 p75=some r75:=by kernel_rfl
theorem s75:Spec Go.Proofs.Tryz.prog 32 p75 r75:=fact tk2 g75
def p83:List PA:=[.a [m1,m2]]
def r83:List RA:=[.c (.c (i 0))]
theorem g83:Zd (VN tb2) rounds 6 27 p83=some r83:=by kernel_rfl
theorem s83:Spec Go.Proofs.Tryz.prog 27 p83 r83:=fact tk2 g83
def tb3:List (FuncId×List PA×List RA):=[(131,p15,r15),(131,p19,r19),(131,p23,r23),(195,p49,r49),(32,p75,r75),(27,p83,r83)]++tb2
theorem tk3:TOK Go.Proofs.Tryz.prog tb3:=TOK.app (l:=[(131,p15,r15),(131,p19,r19),(131,p23,r23),(195,p49,r49),(32,p75,r75),(27,p83,r83)]) ⟨s15,s19,s23,s49,s75,s83,trivial⟩ tk2
def p50:List PA:=[.c (s [115,101,108,101,99,116,32,99,111,117,110,116,40,42,41,32,102,114,111,109,32,97,32,119,105,110,100,111,119,32,116,117,109,98,108,101,32,53])]
def r50:List RA:=[.c (.c (l [[(y 2),(s [115,101,108,101,99,116]),(i 0)],[(y 2),(s [99,111,117,110,116]),(i 7)],[(y 3),(s [40]),(i 12)],[(y 3),(s [42]),(i 13)],[(y 3),(s [41]),(i 14)],[(y 2),(s [102,114,111,109]),(i 16)],[(y 2),(s [97]),(i 21)],[(y 2),(s [119,105,110,100,111,119]),(i 23)],[(y 2),(s [116,117,109,98,108,101]),(i 30)],[(y 1),(s [53]),(i 37)]])),.c (.c (i 38)),.c (.c (i 0))]
theorem g50:Zd (VN tb3) rounds 6 98 p50=some r50:=by kernel_rfl
theorem s50:Spec Go.Proofs.Tryz.prog 98 p50 r50:=fact tk3 g50
def p63:List PA:=[.c (s [53])]
def r63:List RA:=[.c (.c (i 5)),.c (.c (i 0))]
theorem g63:Zd (VN tb3) rounds 6 164 p63=some r63:=by kernel_rfl
theorem s63:Spec Go.Proofs.Tryz.prog 164 p63 r63:=fact tk3 g63
def p101:List PA:=[.a [(y 1),e,(l [[(i 0)]]),bf,e,(y 1),(i 5),(i 0),bf,(y 1),m1,m2,m3,m4]]
def r101:List RA:=[.c (.c (i 0))]
theorem g101:Zd (VN tb3) rounds 6 14 p101=some r101:=by kernel_rfl
theorem s101:Spec Go.Proofs.Tryz.prog 14 p101 r101:=fact tk3 g101
def tb4:List (FuncId×List PA×List RA):=[(98,p50,r50),(164,p63,r63),(14,p101,r101)]++tb3
theorem tk4:TOK Go.Proofs.Tryz.prog tb4:=TOK.app (l:=[(98,p50,r50),(164,p63,r63),(14,p101,r101)]) ⟨s50,s63,s101,trivial⟩ tk3
def p64:List PA:=[.c (s [115,101,108,101,99,116,32,99,111,117,110,116,40,42,41,32,102,114,111,109,32,97,32,119,105,110,100,111,119,32,116,117,109,98,108,101,32,53])]
def r64:List RA:=[.a [.c (y 1),.c e,.c (l [[(i 0)]]),.c bf,.c e,.c (y 1),.c (i 5),.c (i 0),.c bf,.c (y 1)],.c (.c (i 38)),.c (.c (i 0))]
theorem g64:Zd (VN tb4) rounds 6 48 p64=some r64:=by kernel_rfl
theorem s64:Spec Go.Proofs.Tryz.prog 48 p64 r64:=fact tk4 g64
def p102:List PA:=[.a [(y 1),e,(l [[(i 0)]]),bf,e,(y 1),(i 5),(i 0),bf,(y 1),m1,m2,m3,m4]]
def r102:List RA:=[.c (.c (l [[(i 5)],[(i 3)],[(i 1)]])),.c (.c (l [[(i 3)],[(i 1)],[(i 1)]])),.c (.c (i 0))]
theorem g102:Zd (VN tb4) rounds 6 7 p102=some r102:=by kernel_rfl
theorem s102:Spec Go.Proofs.Tryz.prog 7 p102 r102:=fact tk4 g102
def tb5:List (FuncId×List PA×List RA):=[(48,p64,r64),(7,p102,r102)]++tb4
theorem tk5:TOK Go.Proofs.Tryz.prog tb5:=TOK.app (l:=[(48,p64,r64),(7,p102,r102)]) ⟨s64,s102,trivial⟩ tk4
def p66:List PA:=[.c (s [115,101,108,101,99,116,32,99,111,117,110,116,40,42,41,32,102,114,111,109,32,97,32,119,105,110,100,111,119,32,116,117,109,98,108,101,32,53])]
def r66:List RA:=[.a [.c (y 1),.c e,.c (l [[(i 0)]]),.c bf,.c e,.c (y 1),.c (i 5),.c (i 0),.c bf,.c (y 1)],.c (.c (i 38)),.c (.c (i 0))]
theorem g66:Zd (VN tb5) rounds 6 31 p66=some r66:=by kernel_rfl
theorem s66:Spec Go.Proofs.Tryz.prog 31 p66 r66:=fact tk5 g66
def p103:List PA:=[.a [(y 1),e,(l [[(i 0)]]),bf,e,(y 1),(i 5),(i 0),bf,(y 1),m1,m2,m3,m4]]
def r103:List RA:=[.c (.c (i 0)),.c (.c (i 0))]
theorem g103:Zd (VN tb5) rounds 6 8 p103=some r103:=by kernel_rfl
theorem s103:Spec Go.Proofs.Tryz.prog 8 p103 r103:=fact tk5 g103
def tb6:List (FuncId×List PA×List RA):=[(31,p66,r66),(8,p103,r103)]++tb5
theorem tk6:TOK Go.Proofs.Tryz.prog tb6:=TOK.app (l:=[(31,p66,r66),(8,p103,r103)]) ⟨s66,s103,trivial⟩ tk5
def p76:List PA:=[.c (s [115,101,108,101,99,116,32,99,111,117,110,116,40,42,41,32,102,114,111,109,32,97,32,119,105,110,100,111,119,32,116,117,109,98,108,101,32,53]),.c (l [[e]]),.c (i 2),.c (i 1)]
def r76:List RA:=[.a [.c (y 1),.c e,.c (l [[(i 0)]]),.c bf,.c e,.c (y 1),.c (i 5),.c (i 0),.c bf,.c (y 1),.c m1,.c m2,.c m3,.c m4],.c (.c (i 38)),.c (.c (i 0))]
theorem g76:Zd (VN tb6) rounds 6 18 p76=some r76:=by kernel_rfl
theorem s76:Spec Go.Proofs.Tryz.prog 18 p76 r76:=fact tk6 g76
def tb7:List (FuncId×List PA×List RA):=[(18,p76,r76)]++tb6
theorem tk7:TOK Go.Proofs.Tryz.prog tb7:=TOK.app (l:=[(18,p76,r76)]) ⟨s76,trivial⟩ tk6
def p104:List PA:=[]
def r104:List RA:=[.c (.c bt)]
theorem g104:Zd (VN tb7) rounds 6 5 p104=some r104:=by kernel_rfl
theorem s104:Spec Go.Proofs.Tryz.prog 5 p104 r104:=fact tk7 g104
theorem law:Spec Go.Proofs.Tryz.prog 5 [] [.c (.c (.bool true))]:=s104
end Tn.Al

/- The chapter's example is right: a closed fact as a contract. -/
namespace Tg
open Go.Abs
def con5:TCon:=⟨[],[.c (.p .bool)],fun _=>some (true,())⟩
theorem ok5:con5.ok Go.Proofs.Tryz.prog 5:=by intro a r h;obtain rfl:=Option.some.inj h;exact Tn.Al.law
end Tg
