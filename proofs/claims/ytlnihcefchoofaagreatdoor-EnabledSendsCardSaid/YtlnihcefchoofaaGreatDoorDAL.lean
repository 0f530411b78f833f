import Derived.Test.YtlnihcefchoofaaGreatDoorDNO
set_option linter.all false
namespace Tn.Al
open Go Go.Abs Tn
abbrev i(n:Int):PV:=.int .i64 n
abbrev y(n:Int):PV:=.int .u8 n
abbrev bt:PV:=.bool true
abbrev bf:PV:=.bool false
abbrev s(l:List UInt8):PV:=.str l
abbrev l(es:List (List PV)):PV:=.sl es
abbrev e:PV:=.sl []
abbrev Fx:=List (FuncId×List PA×List RA)
def c(n k:Int):FuncId×List PA×List RA:=(200,[.c (y n)],[.c (.c (y k))])
def tx:List UInt8:=[115,101,108,101,99,116,32,99,111,117,110,116,40,42,41,32,102,114,111,109,32,97,32,119,105,110,100,111,119,32,116,117,109,98,108,101,32,53]
def w(a:Nat):PV:=s (tx.drop a)
def v(a n:Nat):PV:=s ((tx.drop a).take n)
def q:List PV:=[(y 1),e,(l [[(i 0)]]),bf,e,(y 1),(i 5),(i 0),bf,(y 1)]
def z:PV:=l [[(i (-9223372036854775808))]]
def rs:Fx->List (Option (List RA))|[]=>[]|x::l=>some x.2.2::rs l
theorem lvl{t:Fx}(h:TOK Go.Proofs.Tryz.prog t):∀l:Fx,l.map (λx=>Zv6 (VN t) rounds 6 x.1 x.2.1)=rs l->TOK Go.Proofs.Tryz.prog l|[],_=>trivial|x::l,e=>⟨fact h (List.cons.inj e).1,lvl h l (List.cons.inj e).2⟩
def m0:PV:=l [[(y 1)],[(y 2)],[(y 4)],[(y 6)],[(y 7)],[(y 9)]]
def m1:PV:=l [[bf,(i 0),(i 0),(i 1),(i 0)],[bt,(i 9),(i 0),(i 0),(i 0)]]
def m2:PV:=l [[m1]]
def m3:PV:=l [[(y 1),(i 0)],[(y 2),(i 0)],[(y 4),(i 0)],[(y 6),(i 0)]]
def m4:PV:=l [[(i 0),(i 0),(i 1),(i 0),(i 1)],[(i 1),(i 0),(i 2),(i 0),(i 1)],[(i 2),(i 0),(i 3),(i 0),(i 1)]]
def m5:PV:=l [[(y 1),(i 0),(i 0),e,e,e,m1,e,e],[(y 2),(i 0),(i 0),e,z,e,e,e,e],[(y 4),(i 0),(i 0),e,z,e,e,e,e],[(y 6),(i 0),(i 0),e,e,e,e,e,e]]
def m6:PV:=l [[(i 1),e],[(i 1),e],[(i 1),e]]
def m7:PV:=l [[(i 0),(y 1),(i 0),(i 1),(i 0),(i 0),(i 0),(i 0),(i 0),(i 0),(i 0)]]
def m8:PV:=l [[(y 1),(i 0),(i 0),m7,e,e,(l [[bt,(i 9),(i 0),(i 0),(i 0)]]),e,e],[(y 2),(i 0),(i 0),e,z,e,e,e,e],[(y 4),(i 0),(i 0),e,z,e,e,e,e],[(y 6),(i 0),(i 0),e,e,e,e,e,e]]
def tb0:Fx:=[]
theorem tk0:TOK Go.Proofs.Tryz.prog tb0:=trivial
def a0_0:Fx:=[(c 115 3),(c 101 3),(c 108 3),(c 99 3),(c 116 3),(c 32 1),(237,[.c (v 0 6)],[.c (.c bt)]),(c 111 3),(c 117 3),(c 110 3),(c 40 4),(237,[.c (v 7 5)],[.c (.c bt)]),(c 42 4),(c 41 4),(c 102 3),(c 114 3),(c 109 3),(237,[.c (v 16 4)],[.c (.c bt)]),(c 97 3),(237,[.c (s [97])],[.c (.c bt)]),(c 119 3),(c 105 3),(c 100 3),(237,[.c (v 23 6)],[.c (.c bt)]),(c 98 3),(237,[.c (v 30 6)],[.c (.c bt)]),(c 53 2),(292,[.c (s [48,49,50,51,52,53,54,55,56,57])],[.a (List.replicate 48 (.c bf)++List.replicate 10 (.c bt)++List.replicate 198 (.c bf)),.c (.c bt)]),(294,[.c (s [53]),.q [bf,bf,bf,bf,bf,bf,bf,bf,bf,bf,bf,bf,bf,bf,bf,bf,bf,bf,bf,bf,bf,bf,bf,bf,bf,bf,bf,bf,bf,bf,bf,bf,bf,bf,bf,bf,bf,bf,bf,bf,bf,bf,bf,bf,bf,bf,bf,bf,bt,bt,bt,bt,bt,bt,bt,bt,bt,bt,bf,bf,bf,bf,bf,bf,bf,bf,bf,bf,bf,bf,bf,bf,bf,bf,bf,bf,bf,bf,bf,bf,bf,bf,bf,bf,bf,bf,bf,bf,bf,bf,bf,bf,bf,bf,bf,bf,bf,bf,bf,bf,bf,bf,bf,bf,bf,bf,bf,bf,bf,bf,bf,bf,bf,bf,bf,bf,bf,bf,bf,bf,bf,bf,bf,bf,bf,bf,bf,bf,bf,bf,bf,bf,bf,bf,bf,bf,bf,bf,bf,bf,bf,bf,bf,bf,bf,bf,bf,bf,bf,bf,bf,bf,bf,bf,bf,bf,bf,bf,bf,bf,bf,bf,bf,bf,bf,bf,bf,bf,bf,bf,bf,bf,bf,bf,bf,bf,bf,bf,bf,bf,bf,bf,bf,bf,bf,bf,bf,bf,bf,bf,bf,bf,bf,bf,bf,bf,bf,bf,bf,bf,bf,bf,bf,bf,bf,bf,bf,bf,bf,bf,bf,bf,bf,bf,bf,bf,bf,bf,bf,bf,bf,bf,bf,bf,bf,bf,bf,bf,bf,bf,bf,bf,bf,bf,bf,bf,bf,bf,bf,bf,bf,bf,bf,bf,bf,bf,bf,bf,bf,bf,bf,bf,bf,bf,bf,bf]],[.c (.c (s []))]),(293,[.c (s []),.q [bf,bf,bf,bf,bf,bf,bf,bf,bf,bf,bf,bf,bf,bf,bf,bf,bf,bf,bf,bf,bf,bf,bf,bf,bf,bf,bf,bf,bf,bf,bf,bf,bf,bf,bf,bf,bf,bf,bf,bf,bf,bf,bf,bf,bf,bf,bf,bf,bt,bt,bt,bt,bt,bt,bt,bt,bt,bt,bf,bf,bf,bf,bf,bf,bf,bf,bf,bf,bf,bf,bf,bf,bf,bf,bf,bf,bf,bf,bf,bf,bf,bf,bf,bf,bf,bf,bf,bf,bf,bf,bf,bf,bf,bf,bf,bf,bf,bf,bf,bf,bf,bf,bf,bf,bf,bf,bf,bf,bf,bf,bf,bf,bf,bf,bf,bf,bf,bf,bf,bf,bf,bf,bf,bf,bf,bf,bf,bf,bf,bf,bf,bf,bf,bf,bf,bf,bf,bf,bf,bf,bf,bf,bf,bf,bf,bf,bf,bf,bf,bf,bf,bf,bf,bf,bf,bf,bf,bf,bf,bf,bf,bf,bf,bf,bf,bf,bf,bf,bf,bf,bf,bf,bf,bf,bf,bf,bf,bf,bf,bf,bf,bf,bf,bf,bf,bf,bf,bf,bf,bf,bf,bf,bf,bf,bf,bf,bf,bf,bf,bf,bf,bf,bf,bf,bf,bf,bf,bf,bf,bf,bf,bf,bf,bf,bf,bf,bf,bf,bf,bf,bf,bf,bf,bf,bf,bf,bf,bf,bf,bf,bf,bf,bf,bf,bf,bf,bf,bf,bf,bf,bf,bf,bf,bf,bf,bf,bf,bf,bf,bf,bf,bf,bf,bf,bf,bf]],[.c (.c (s []))]),(321,[.c (s [53]),.c (i 10),.c (i 64)],[.c (.c (.int .u64 5)),.c (.e false)]),(277,[.c (l [[(v 0 6)]]),.c (v 0 6)],[.c (.c (i 0))]),(277,[.c (l [[(v 7 5)],[(s [115,117,109])],[(s [109,105,110])],[(s [109,97,120])]]),.c (v 7 5)],[.c (.c (i 0))]),(277,[.c (l [[(s [40])]]),.c (s [40])],[.c (.c (i 0))]),(277,[.c (l [[(s [42])]]),.c (s [42])],[.c (.c (i 0))]),(277,[.c (l [[(s [41])]]),.c (s [41])],[.c (.c (i 0))]),(277,[.c (l [[(v 16 4)]]),.c (v 16 4)],[.c (.c (i 0))]),(277,[.c (l [[(s [97])],[(s [98])],[(s [99])],[(s [100])]]),.c (s [97])],[.c (.c (i 0))]),(277,[.c (l [[(s [106,111,105,110])]]),.c (v 23 6)],[.c (.c (i (-1)))]),(277,[.c (l [[(s [117,110,105,111,110])]]),.c (v 23 6)],[.c (.c (i (-1)))])]
theorem b0_0:TOK Go.Proofs.Tryz.prog a0_0:=lvl tk0 _ (by kernel_rfl)
def a0_1:Fx:=[(277,[.c (l [[(s [119,104,101,114,101])]]),.c (v 23 6)],[.c (.c (i (-1)))]),(277,[.c (l [[(v 23 6)]]),.c (v 23 6)],[.c (.c (i 0))]),(277,[.c (l [[(v 30 6)],[(s [115,108,105,100,101])],[(s [115,101,115,115,105,111,110])]]),.c (v 30 6)],[.c (.c (i 0))]),(30,[.a q],[.c (.c (i 0)),.c (.c (i 0))]),(160,[.a q],[.c (.s 5 1 [[(y 1)],[(y 2)],[(y 4)],[(y 6)],[(y 7)],[(y 9)]])]),(209,[.c m0,.c m0],[.c (.c bt)]),(93,[.c (i 0),.q [m2]],[.a [.c (y 1),.c (i 0),.c (i 0),.c e,.c e,.c e,.s 80 5 [[bf,(i 0),(i 0),(i 1),(i 0)],[bt,(i 9),(i 0),(i 0),(i 0)]],.c e,.c e],.c (.c (i 0))]),(95,[.c (i 0)],[.a [.c (y 2),.c (i 0),.c (i 0),.c e,.s 2 1 [[(i (-9223372036854775808))]],.c e,.c e,.c e,.c e],.c (.c (i 0))]),(97,[.c (i 0),.q q],[.a [.c (y 4),.c (i 0),.c (i 0),.c e,.s 2 1 [[(i (-9223372036854775808))]],.c e,.c e,.c e,.c e],.c (.c (i 0))]),(100,[.c (i 0)],[.a [.c (y 6),.c (i 0),.c (i 0),.c e,.c e,.c e,.c e,.c e,.c e],.c (.c (i 0))]),(124,[.c e,.a [(i 0),(i 0)]],[.c (.c bt)]),(124,[.c (l [[(i 0)]]),.a [(i 1),(i 1)]],[.c (.c bt)]),(124,[.c (l [[(i 0)]]),.a [(i 1),(i 2)]],[.c (.c bt)]),(124,[.c (l [[(i 0)]]),.a [(i 1),(i 4)]],[.c (.c bt)]),(124,[.c (l [[(i 0)]]),.a [(i 1),(i 3)]],[.c (.c bt)]),(32,[.a [(i 1),e]],[.c (.c (i 0))]),(128,[.c bf,.c (i 4000)],[.c (.c (i 0))]),(128,[.c bt,.c (i 60)],[.c (.c (i 60))]),(20,[.a [m3,m4],.c (i 0)],[.c (.c e)]),(35,[.a [m3,m4],.c (i 0)],[.c (.c (l [[(i 0)]]))]),(128,[.c bf,.c (i 60)],[.c (.c (i 0))]),(20,[.a [m3,m4],.c (i 1)],[.c (.c (l [[(i 0)]]))]),(35,[.a [m3,m4],.c (i 1)],[.c (.c (l [[(i 1)]]))]),(128,[.c bt,.c (i 4000)],[.c (.c (i 4000))]),(20,[.a [m3,m4],.c (i 2)],[.c (.c (l [[(i 1)]]))]),(35,[.a [m3,m4],.c (i 2)],[.c (.c (l [[(i 2)]]))]),(20,[.a [m3,m4],.c (i 3)],[.c (.c (l [[(i 2)]]))]),(35,[.a [m3,m4],.c (i 3)],[.c (.c e)]),(19,[.a (q++[m3,m4,m5,m6]),.c e],[.c (.c e)]),(19,[.a (q++[m3,m4,m5,m6]),.c (l [[(i 0)]])],[.c (.c (l [[(i 1),e]]))]),(19,[.a (q++[m3,m4,m5,m6]),.c (l [[(i 1)]])],[.c (.c (l [[(i 1),e]]))]),(19,[.a (q++[m3,m4,m5,m6]),.c (l [[(i 2)]])],[.c (.c (l [[(i 1),e]]))])]
theorem b0_1:TOK Go.Proofs.Tryz.prog a0_1:=lvl tk0 _ (by kernel_rfl)
def tb1:Fx:=a0_1++(a0_0++(tb0))
theorem tk1:TOK Go.Proofs.Tryz.prog tb1:=TOK.app b0_1 (TOK.app b0_0 (tk0))
def a1_0:Fx:=[(201,[.c (w 0)],[.a [.c (y 2),.c (v 0 6),.c (i 0)]]),(201,[.c (w 7)],[.a [.c (y 2),.c (v 7 5),.c (i 0)]]),(235,[.c (w 12),.c (i 0)],[.c (.c (i 1)),.c (.c (i 0))]),(235,[.c (s [40]),.c (i 0)],[.c (.c (i 1)),.c (.c (i 0))]),(235,[.c (w 13),.c (i 0)],[.c (.c (i 1)),.c (.c (i 0))]),(235,[.c (s [42]),.c (i 0)],[.c (.c (i 1)),.c (.c (i 0))]),(235,[.c (w 14),.c (i 0)],[.c (.c (i 1)),.c (.c (i 0))]),(235,[.c (s [41]),.c (i 0)],[.c (.c (i 1)),.c (.c (i 0))]),(201,[.c (w 16)],[.a [.c (y 2),.c (v 16 4),.c (i 0)]]),(201,[.c (w 21)],[.a [.c (y 2),.c (s [97]),.c (i 0)]]),(201,[.c (w 23)],[.a [.c (y 2),.c (v 23 6),.c (i 0)]]),(201,[.c (w 30)],[.a [.c (y 2),.c (v 30 6),.c (i 0)]]),(201,[.c (s [53])],[.a [.c (y 1),.c (s [53]),.c (i 0)]]),(271,[.c (s [53]),.c (s [48,49,50,51,52,53,54,55,56,57])],[.c (.c (s []))]),(297,[.c (s [53]),.c (i 10),.c (i 64)],[.c (.c (i 5)),.c (.e false)]),(89,[.a q],[.a [.c m0,.c (y 1),.c e,.c (l [[(i 0)]]),.c bf,.c e,.c (y 1),.c (i 5),.c (i 0),.c bf,.c (y 1)],.c (.c (i 0))]),(90,[.a [m0,(y 1),e,(l [[(i 0)]]),bf,e,(y 1),(i 5),(i 0),bf,(y 1)],.c (i 1),.c (i 1)],[.a [.c m3,.c m4],.c (.c (i 0))]),(59,[.a [m3,m4]],[.c (.c bt)]),(62,[.a [(y 1),(i 0),(i 0),e,e,e,m1,e,e]],[.c (.c (i 0))]),(62,[.a [(y 2),(i 0),(i 0),e,z,e,e,e,e]],[.c (.c (i 0))]),(62,[.a [(y 4),(i 0),(i 0),e,z,e,e,e,e]],[.c (.c (i 0))]),(62,[.a [(y 6),(i 0),(i 0),e,e,e,e,e,e]],[.c (.c (i 0))]),(62,[.a [(y 1),(i 0),(i 0),e,e,e,(l [[bt,(i 9),(i 0),(i 0),(i 0)]]),e,e]],[.c (.c (i 0))]),(62,[.a [(y 1),(i 0),(i 0),m7,e,e,(l [[bt,(i 9),(i 0),(i 0),(i 0)]]),e,e]],[.c (.c (i 0))])]
theorem b1_0:TOK Go.Proofs.Tryz.prog a1_0:=lvl tk1 _ (by kernel_rfl)
def tb2:Fx:=a1_0++(tb1)
theorem tk2:TOK Go.Proofs.Tryz.prog tb2:=TOK.app b1_0 (tk1)
def a2_0:Fx:=[(201,[.c (w 12)],[.a [.c (y 3),.c (s [40]),.c (i 0)]]),(201,[.c (w 13)],[.a [.c (y 3),.c (s [42]),.c (i 0)]]),(201,[.c (w 14)],[.a [.c (y 3),.c (s [41]),.c (i 0)]]),(272,[.c (s [53]),.c (i 10),.c (i 64)],[.c (.c (i 5)),.c (.e false)]),(48,[.a q,.c m2,.c (i 1),.c (i 1)],[.a (q.map .c++[.c m3,.c m4,.c m5,.c m6]),.c (.c (i 0))]),(31,[.a [m3,m4]],[.c (.c (i 0))]),(34,[.a [(y 1),(i 0),(i 0),e,e,e,m1,e,e],.c e,.c (l [[(i 1),e]])],[.c (.c bt),.c (.c (i 0))]),(34,[.a [(y 2),(i 0),(i 0),e,z,e,e,e,e],.c (l [[(i 1),e]]),.c (l [[(i 1),e]])],[.c (.c bf),.c (.c (i 0))]),(34,[.a [(y 4),(i 0),(i 0),e,z,e,e,e,e],.c (l [[(i 1),e]]),.c (l [[(i 1),e]])],[.c (.c bf),.c (.c (i 0))]),(34,[.a [(y 6),(i 0),(i 0),e,e,e,e,e,e],.c (l [[(i 1),e]]),.c e],[.c (.c bf),.c (.c (i 0))]),(69,[.a [(y 1),(i 0),(i 0),e,e,e,m1,e,e],.c e],[.a [.c (y 1),.c (i 0),.c (i 0),.s 125 11 [],.s 2 1 [],.s 152 11 [],.s 80 5 [[bf,(i 0),(i 0),(i 1),(i 0)],[bt,(i 9),(i 0),(i 0),(i 0)]],.s 109 5 [],.s 78 3 []],.c (.c (i 0))]),(69,[.a [(y 2),(i 0),(i 0),e,z,e,e,e,e],.c e],[.a [.c (y 2),.c (i 0),.c (i 0),.s 125 11 [],.s 2 1 [[(i (-9223372036854775808))]],.s 152 11 [],.s 80 5 [],.s 109 5 [],.s 78 3 []],.c (.c (i 0))]),(69,[.a [(y 4),(i 0),(i 0),e,z,e,e,e,e],.c e],[.a [.c (y 4),.c (i 0),.c (i 0),.s 125 11 [],.s 2 1 [[(i (-9223372036854775808))]],.s 152 11 [],.s 80 5 [],.s 109 5 [],.s 78 3 []],.c (.c (i 0))]),(69,[.a [(y 6),(i 0),(i 0),e,e,e,e,e,e],.c e],[.a [.c (y 6),.c (i 0),.c (i 0),.s 125 11 [],.s 2 1 [],.s 152 11 [],.s 80 5 [],.s 109 5 [],.s 78 3 []],.c (.c (i 0))])]
theorem b2_0:TOK Go.Proofs.Tryz.prog a2_0:=lvl tk2 _ (by kernel_rfl)
def tb3:Fx:=a2_0++(tb2)
theorem tk3:TOK Go.Proofs.Tryz.prog tb3:=TOK.app b2_0 (tk2)
def a3_0:Fx:=[(157,[.c (w 0)],[.c (.c (l [[(y 2),(v 0 6),(i 0)],[(y 2),(v 7 5),(i 7)],[(y 3),(s [40]),(i 12)],[(y 3),(s [42]),(i 13)],[(y 3),(s [41]),(i 14)],[(y 2),(v 16 4),(i 16)],[(y 2),(s [97]),(i 21)],[(y 2),(v 23 6),(i 23)],[(y 2),(v 30 6),(i 30)],[(y 1),(s [53]),(i 37)]])),.c (.c (i 38)),.c (.c (i 0))]),(236,[.c (s [53])],[.c (.c (i 5)),.c (.c (i 0))]),(13,[.a (q++[m3,m4,m5,m6])],[.c (.c (i 0))]),(13,[.a (q++[m3,m4,m8,m6])],[.c (.c (i 0))])]
theorem b3_0:TOK Go.Proofs.Tryz.prog a3_0:=lvl tk3 _ (by kernel_rfl)
def tb4:Fx:=a3_0++(tb3)
theorem tk4:TOK Go.Proofs.Tryz.prog tb4:=TOK.app b3_0 (tk3)
def a4_0:Fx:=[(87,[.c (w 0)],[.a (q.map .c),.c (.c (i 38)),.c (.c (i 0))]),(7,[.a (q++[m3,m4,m5,m6])],[.c (.c (l [[(i 0)]])),.c (.c (i 0))]),(6,[.a (q++[m3,m4,m5,m6])],[.a [.c (i 2),.c (i 0),.c (i 0)],.c (.c (i 0))]),(8,[.a (q++[m3,m4,m5,m6]),.c (i 0)],[.a (q.map .c++[.c m3,.c m4,.c m8,.c m6]),.c (.c (i 0))]),(6,[.a (q++[m3,m4,m8,m6])],[.a [.c (i 1),.c (i 1),.c (i 0)],.c (.c (i 0))])]
theorem b4_0:TOK Go.Proofs.Tryz.prog a4_0:=lvl tk4 _ (by kernel_rfl)
def tb5:Fx:=a4_0++(tb4)
theorem tk5:TOK Go.Proofs.Tryz.prog tb5:=TOK.app b4_0 (tk4)
def a5_0:Fx:=[(47,[.c (w 0)],[.a (q.map .c),.c (.c (i 38)),.c (.c (i 0))])]
theorem b5_0:TOK Go.Proofs.Tryz.prog a5_0:=lvl tk5 _ (by kernel_rfl)
def tb6:Fx:=a5_0++(tb5)
theorem tk6:TOK Go.Proofs.Tryz.prog tb6:=TOK.app b5_0 (tk5)
def a6_0:Fx:=[(22,[.c (w 0),.c m2,.c (i 1),.c (i 1)],[.a (q.map .c++[.c m3,.c m4,.c m5,.c m6]),.c (.c (i 38)),.c (.c (i 0))])]
theorem b6_0:TOK Go.Proofs.Tryz.prog a6_0:=lvl tk6 _ (by kernel_rfl)
def tb7:Fx:=a6_0++(tb6)
theorem tk7:TOK Go.Proofs.Tryz.prog tb7:=TOK.app b6_0 (tk6)
theorem law:Spec Go.Proofs.Tryz.prog 4 [] [.c (.c bt)]:=fact tk7 (by kernel_rfl)
end Tn.Al
namespace Tg
open Go.Abs
def con5:TCon:=⟨[],[.c (.p .bool)],λ_=>some (true,())⟩
theorem ok5:con5.ok Go.Proofs.Tryz.prog 4:=by intro a r h;obtain rfl:=J0a h;exact Tn.Al.law
end Tg
