import Derived.Test.YtenldcjkpgmpnaaGreatDoorTNO
/- Closed facts of one run, each by the kernel. -/
set_option linter.unusedVariables false
set_option linter.unusedSimpArgs false
namespace Tn.Al
open Go Go.Abs Tn
abbrev i (n:Int):PV:=.int .i64 n
abbrev y (n:Int):PV:=.int .u8 n
abbrev bt:PV:=.bool true
abbrev bf:PV:=.bool false
abbrev s (l:List UInt8):PV:=.str l
abbrev l (es:List (List PV)):PV:=.sl es
abbrev e:PV:=.sl []
abbrev Fx:=List (FuncId×List PA×List RA)
def rs:Fx->List (Option (List RA))
 | []=>[]
 | x::l=>some x.2.2::rs l
theorem lvl {t:Fx}(h:TOK Go.Proofs.Tryz.prog t):∀ l:Fx,l.map (fun x=>Zt8 (VN t) rounds 6 x.1 x.2.1)=rs l->TOK Go.Proofs.Tryz.prog l
 | [],_=>trivial
 | x::l,e=>⟨fact h (List.cons.inj e).1,lvl h l (List.cons.inj e).2⟩
def m0:PV:=l [[(y 1)],[(y 2)],[(y 4)],[(y 6)],[(y 7)],[(y 9)]]
def m1:PV:=l [[(y 1),(i 0)],[(y 2),(i 0)],[(y 4),(i 0)],[(y 6),(i 0)]]
def m2:PV:=l [[(i 0),(i 0),(i 1),(i 0),(i 1)],[(i 1),(i 0),(i 2),(i 0),(i 1)],[(i 2),(i 0),(i 3),(i 0),(i 1)]]
def m3:PV:=l [[(y 1),(i 0),(i 0),e,e,e,e,e,e],[(y 2),(i 0),(i 0),e,(l [[(i (-9223372036854775808))]]),e,e,e,e],[(y 4),(i 0),(i 0),e,(l [[(i (-9223372036854775808))]]),e,e,e,e],[(y 6),(i 0),(i 0),e,e,e,e,e,e]]
def m4:PV:=l [[(i 1),e],[(i 1),e],[(i 1),e]]
def n0:PA:=.c (s [115,101,108,101,99,116])
def n1:PA:=.c (s [99,111,117,110,116])
def n2:PA:=.c (s [119,105,110,100,111,119])
def n3:PA:=.c (s [116,117,109,98,108,101])
def n4:PA:=.c (s [48,49,50,51,52,53,54,55,56,57])
def n5:PA:=.q (List.replicate 48 bf++List.replicate 10 bt++List.replicate 198 bf)
def n6:PA:=.a [(y 1),e,(l [[(i 0)]]),bf,e,(y 1),(i 5),(i 0),bf,(y 1)]
def n7:PA:=.c (s [115,101,108,101,99,116,32,99,111,117,110,116,40,42,41,32,102,114,111,109,32,97,32,119,105,110,100,111,119,32,116,117,109,98,108,101,32,53])
def n8:PA:=.c (s [40,42,41,32,102,114,111,109,32,97,32,119,105,110,100,111,119,32,116,117,109,98,108,101,32,53])
def n9:PA:=.c (s [42,41,32,102,114,111,109,32,97,32,119,105,110,100,111,119,32,116,117,109,98,108,101,32,53])
def n10:PA:=.c (s [41,32,102,114,111,109,32,97,32,119,105,110,100,111,119,32,116,117,109,98,108,101,32,53])
def o11:RA:=.a [.c (y 1),.c e,.c (l [[(i 0)]]),.c bf,.c e,.c (y 1),.c (i 5),.c (i 0),.c bf,.c (y 1),.c m1,.c m2,.c m3,.c m4]
def o12:RA:=.a [.c (y 1),.c e,.c (l [[(i 0)]]),.c bf,.c e,.c (y 1),.c (i 5),.c (i 0),.c bf,.c (y 1)]
def tb0:Fx:=[]
theorem tk0:TOK Go.Proofs.Tryz.prog tb0:=trivial
def a0_0:Fx:=[(179,[.c (y 115)],[.c (.c (y 3))]),(179,[.c (y 101)],[.c (.c (y 3))]),(179,[.c (y 108)],[.c (.c (y 3))]),(179,[.c (y 99)],[.c (.c (y 3))]),(179,[.c (y 116)],[.c (.c (y 3))]),(179,[.c (y 32)],[.c (.c (y 1))]),(218,[n0],[.c (.c bt)]),(179,[.c (y 111)],[.c (.c (y 3))]),(179,[.c (y 117)],[.c (.c (y 3))]),(179,[.c (y 110)],[.c (.c (y 3))]),(179,[.c (y 40)],[.c (.c (y 4))]),(218,[n1],[.c (.c bt)]),(179,[.c (y 42)],[.c (.c (y 4))]),(179,[.c (y 41)],[.c (.c (y 4))]),(179,[.c (y 102)],[.c (.c (y 3))]),(179,[.c (y 114)],[.c (.c (y 3))]),(179,[.c (y 109)],[.c (.c (y 3))]),(218,[.c (s [102,114,111,109])],[.c (.c bt)]),(179,[.c (y 97)],[.c (.c (y 3))]),(218,[.c (s [97])],[.c (.c bt)])]
theorem b0_0:TOK Go.Proofs.Tryz.prog a0_0:=lvl tk0 _ (by kernel_rfl)
def a0_1:Fx:=[(179,[.c (y 119)],[.c (.c (y 3))]),(179,[.c (y 105)],[.c (.c (y 3))]),(179,[.c (y 100)],[.c (.c (y 3))]),(218,[n2],[.c (.c bt)]),(179,[.c (y 98)],[.c (.c (y 3))]),(218,[n3],[.c (.c bt)]),(179,[.c (y 53)],[.c (.c (y 2))]),(278,[n4],[.a (List.replicate 48 (.c bf)++List.replicate 10 (.c bt)++List.replicate 198 (.c bf)),.c (.c bt)]),(280,[.c (s [53]),n5],[.c (.c (s []))]),(279,[.c (s []),n5],[.c (.c (s []))]),(305,[.c (s [53]),.c (i 10),.c (i 64)],[.c (.c (.int .u64 5)),.c (.e false)]),(253,[.c (l [[(s [115,101,108,101,99,116])]]),n0],[.c (.c (i 0))]),(253,[.c (l [[(s [99,111,117,110,116])],[(s [115,117,109])],[(s [109,105,110])],[(s [109,97,120])]]),n1],[.c (.c (i 0))]),(253,[.c (l [[(s [40])]]),.c (s [40])],[.c (.c (i 0))]),(253,[.c (l [[(s [42])]]),.c (s [42])],[.c (.c (i 0))]),(253,[.c (l [[(s [41])]]),.c (s [41])],[.c (.c (i 0))]),(253,[.c (l [[(s [102,114,111,109])]]),.c (s [102,114,111,109])],[.c (.c (i 0))]),(253,[.c (l [[(s [97])],[(s [98])],[(s [99])],[(s [100])]]),.c (s [97])],[.c (.c (i 0))]),(253,[.c (l [[(s [106,111,105,110])]]),n2],[.c (.c (i (-1)))]),(253,[.c (l [[(s [117,110,105,111,110])]]),n2],[.c (.c (i (-1)))]),(253,[.c (l [[(s [119,104,101,114,101])]]),n2],[.c (.c (i (-1)))]),(253,[.c (l [[(s [119,105,110,100,111,119])]]),n2],[.c (.c (i 0))]),(253,[.c (l [[(s [116,117,109,98,108,101])],[(s [115,108,105,100,101])],[(s [115,101,115,115,105,111,110])]]),n3],[.c (.c (i 0))]),(15,[n6],[.c (.c (i 0)),.c (.c (i 0))]),(62,[n6],[.c (.s 5 1 [[(y 1)],[(y 2)],[(y 4)],[(y 6)],[(y 7)],[(y 9)]])]),(104,[.c m0,.c m0],[.c (.c bt)]),(21,[.c (i 0),.q [(l [[e]])]],[.a [.c (y 1),.c (i 0),.c (i 0),.c e,.c e,.c e,.s 125 5 [],.c e,.c e],.c (.c (i 0))]),(23,[.c (i 0)],[.a [.c (y 2),.c (i 0),.c (i 0),.c e,.s 2 1 [[(i (-9223372036854775808))]],.c e,.c e,.c e,.c e],.c (.c (i 0))]),(25,[.c (i 0),.q [(y 1),e,(l [[(i 0)]]),bf,e,(y 1),(i 5),(i 0),bf,(y 1)]],[.a [.c (y 4),.c (i 0),.c (i 0),.c e,.s 2 1 [[(i (-9223372036854775808))]],.c e,.c e,.c e,.c e],.c (.c (i 0))]),(28,[.c (i 0)],[.a [.c (y 6),.c (i 0),.c (i 0),.c e,.c e,.c e,.c e,.c e,.c e],.c (.c (i 0))]),(135,[.c e,.a [(i 0),(i 0)]],[.c (.c bt)]),(135,[.c (l [[(i 0)]]),.a [(i 1),(i 1)]],[.c (.c bt)]),(135,[.c (l [[(i 0)]]),.a [(i 1),(i 2)]],[.c (.c bt)]),(135,[.c (l [[(i 0)]]),.a [(i 1),(i 4)]],[.c (.c bt)]),(135,[.c (l [[(i 0)]]),.a [(i 1),(i 3)]],[.c (.c bt)])]
theorem b0_1:TOK Go.Proofs.Tryz.prog a0_1:=lvl tk0 _ (by kernel_rfl)
def a0_2:Fx:=[(52,[.a [(i 1),e]],[.c (.c (i 0))]),(139,[.c bf,.c (i 4000)],[.c (.c (i 0))]),(139,[.c bt,.c (i 60)],[.c (.c (i 60))]),(38,[.a [m1,m2],.c (i 0)],[.c (.c e)]),(72,[.a [m1,m2],.c (i 0)],[.c (.c (l [[(i 0)]]))]),(139,[.c bf,.c (i 60)],[.c (.c (i 0))]),(38,[.a [m1,m2],.c (i 1)],[.c (.c (l [[(i 0)]]))]),(72,[.a [m1,m2],.c (i 1)],[.c (.c (l [[(i 1)]]))]),(139,[.c bt,.c (i 4000)],[.c (.c (i 4000))]),(38,[.a [m1,m2],.c (i 2)],[.c (.c (l [[(i 1)]]))]),(72,[.a [m1,m2],.c (i 2)],[.c (.c (l [[(i 2)]]))]),(38,[.a [m1,m2],.c (i 3)],[.c (.c (l [[(i 2)]]))]),(72,[.a [m1,m2],.c (i 3)],[.c (.c e)])]
theorem b0_2:TOK Go.Proofs.Tryz.prog a0_2:=lvl tk0 _ (by kernel_rfl)
def tb1:Fx:=a0_2++(a0_1++(a0_0++tb0))
theorem tk1:TOK Go.Proofs.Tryz.prog tb1:=TOK.app b0_2 (TOK.app b0_1 (TOK.app b0_0 tk0))
def a1_0:Fx:=[(180,[n7],[.a [.c (y 2),.c (s [115,101,108,101,99,116]),.c (i 0)]]),(180,[.c (s [99,111,117,110,116,40,42,41,32,102,114,111,109,32,97,32,119,105,110,100,111,119,32,116,117,109,98,108,101,32,53])],[.a [.c (y 2),.c (s [99,111,117,110,116]),.c (i 0)]]),(216,[n8,.c (i 0)],[.c (.c (i 1)),.c (.c (i 0))]),(216,[.c (s [40]),.c (i 0)],[.c (.c (i 1)),.c (.c (i 0))]),(216,[n9,.c (i 0)],[.c (.c (i 1)),.c (.c (i 0))]),(216,[.c (s [42]),.c (i 0)],[.c (.c (i 1)),.c (.c (i 0))]),(216,[n10,.c (i 0)],[.c (.c (i 1)),.c (.c (i 0))]),(216,[.c (s [41]),.c (i 0)],[.c (.c (i 1)),.c (.c (i 0))]),(180,[.c (s [102,114,111,109,32,97,32,119,105,110,100,111,119,32,116,117,109,98,108,101,32,53])],[.a [.c (y 2),.c (s [102,114,111,109]),.c (i 0)]]),(180,[.c (s [97,32,119,105,110,100,111,119,32,116,117,109,98,108,101,32,53])],[.a [.c (y 2),.c (s [97]),.c (i 0)]]),(180,[.c (s [119,105,110,100,111,119,32,116,117,109,98,108,101,32,53])],[.a [.c (y 2),.c (s [119,105,110,100,111,119]),.c (i 0)]]),(180,[.c (s [116,117,109,98,108,101,32,53])],[.a [.c (y 2),.c (s [116,117,109,98,108,101]),.c (i 0)]]),(180,[.c (s [53])],[.a [.c (y 1),.c (s [53]),.c (i 0)]]),(247,[.c (s [53]),n4],[.c (.c (s []))]),(283,[.c (s [53]),.c (i 10),.c (i 64)],[.c (.c (i 5)),.c (.e false)]),(17,[n6],[.a [.c m0,.c (y 1),.c e,.c (l [[(i 0)]]),.c bf,.c e,.c (y 1),.c (i 5),.c (i 0),.c bf,.c (y 1)],.c (.c (i 0))]),(18,[.a [m0,(y 1),e,(l [[(i 0)]]),bf,e,(y 1),(i 5),(i 0),bf,(y 1)],.c (i 1),.c (i 1)],[.a [.c m1,.c m2],.c (.c (i 0))]),(92,[.a [m1,m2]],[.c (.c bt)]),(95,[.a [(y 1),(i 0),(i 0),e,e,e,e,e,e]],[.c (.c (i 0))]),(95,[.a [(y 2),(i 0),(i 0),e,(l [[(i (-9223372036854775808))]]),e,e,e,e]],[.c (.c (i 0))]),(95,[.a [(y 4),(i 0),(i 0),e,(l [[(i (-9223372036854775808))]]),e,e,e,e]],[.c (.c (i 0))]),(95,[.a [(y 6),(i 0),(i 0),e,e,e,e,e,e]],[.c (.c (i 0))])]
theorem b1_0:TOK Go.Proofs.Tryz.prog a1_0:=lvl tk1 _ (by kernel_rfl)
def tb2:Fx:=a1_0++tb1
theorem tk2:TOK Go.Proofs.Tryz.prog tb2:=TOK.app b1_0 tk1
def a2_0:Fx:=[(180,[n8],[.a [.c (y 3),.c (s [40]),.c (i 0)]]),(180,[n9],[.a [.c (y 3),.c (s [42]),.c (i 0)]]),(180,[n10],[.a [.c (y 3),.c (s [41]),.c (i 0)]]),(248,[.c (s [53]),.c (i 10),.c (i 64)],[.c (.c (i 5)),.c (.e false)]),(6,[n6,.c (l [[e]]),.c (i 1),.c (i 1)],[o11,.c (.c (i 0))]),(51,[.a [m1,m2]],[.c (.c (i 0))])]
theorem b2_0:TOK Go.Proofs.Tryz.prog a2_0:=lvl tk2 _ (by kernel_rfl)
def tb3:Fx:=a2_0++tb2
theorem tk3:TOK Go.Proofs.Tryz.prog tb3:=TOK.app b2_0 tk2
def a3_0:Fx:=[(132,[n7],[.c (.c (l [[(y 2),(s [115,101,108,101,99,116]),(i 0)],[(y 2),(s [99,111,117,110,116]),(i 7)],[(y 3),(s [40]),(i 12)],[(y 3),(s [42]),(i 13)],[(y 3),(s [41]),(i 14)],[(y 2),(s [102,114,111,109]),(i 16)],[(y 2),(s [97]),(i 21)],[(y 2),(s [119,105,110,100,111,119]),(i 23)],[(y 2),(s [116,117,109,98,108,101]),(i 30)],[(y 1),(s [53]),(i 37)]])),.c (.c (i 38)),.c (.c (i 0))]),(217,[.c (s [53])],[.c (.c (i 5)),.c (.c (i 0))]),(12,[.a [(y 1),e,(l [[(i 0)]]),bf,e,(y 1),(i 5),(i 0),bf,(y 1),m1,m2,m3,m4]],[.c (.c (i 0))])]
theorem b3_0:TOK Go.Proofs.Tryz.prog a3_0:=lvl tk3 _ (by kernel_rfl)
def tb4:Fx:=a3_0++tb3
theorem tk4:TOK Go.Proofs.Tryz.prog tb4:=TOK.app b3_0 tk3
def a4_0:Fx:=[(91,[n7],[o12,.c (.c (i 38)),.c (.c (i 0))])]
theorem b4_0:TOK Go.Proofs.Tryz.prog a4_0:=lvl tk4 _ (by kernel_rfl)
def tb5:Fx:=a4_0++tb4
theorem tk5:TOK Go.Proofs.Tryz.prog tb5:=TOK.app b4_0 tk4
def a5_0:Fx:=[(50,[n7],[o12,.c (.c (i 38)),.c (.c (i 0))])]
theorem b5_0:TOK Go.Proofs.Tryz.prog a5_0:=lvl tk5 _ (by kernel_rfl)
def tb6:Fx:=a5_0++tb5
theorem tk6:TOK Go.Proofs.Tryz.prog tb6:=TOK.app b5_0 tk5
def a6_0:Fx:=[(11,[n7,.c (l [[e]]),.c (i 1),.c (i 1)],[o11,.c (.c (i 38)),.c (.c (i 0))])]
theorem b6_0:TOK Go.Proofs.Tryz.prog a6_0:=lvl tk6 _ (by kernel_rfl)
def tb7:Fx:=a6_0++tb6
theorem tk7:TOK Go.Proofs.Tryz.prog tb7:=TOK.app b6_0 tk6
theorem law:Spec Go.Proofs.Tryz.prog 4 [] [.c (.c (.bool true))]:=fact tk7 (by kernel_rfl)
end Tn.Al

/- The chapter's example is right: a closed fact as a contract. -/
namespace Tg
open Go.Abs
def con4:TCon:=⟨[],[.c (.p .bool)],fun _=>some (true,())⟩
theorem ok4:con4.ok Go.Proofs.Tryz.prog 4:=by intro a r h;obtain rfl:=J0a h;exact Tn.Al.law
end Tg
