import Derived.Test.YtdcgemfchohffaaGreatDoorMSI
import Derived.Test.YtdcgemfchohffaaGreatDoorMVb3
import Derived.Test.YtdcgemfchohffaaGreatDoorMXb6
/- Functions of the code, told plainly and checked by the kernel. -/
set_option linter.unusedVariables false
set_option linter.unusedSimpArgs false
set_option maxRecDepth 100000
namespace Tg
noncomputable section
open Go.Abs hiding fuel
open Go.Proofs.Tryz (prog)
open Int (ofNat toNat)
open Go.IntKind (wrap)
def Yel:Tb:=[(45,Ycs),(46,Yd8),(47,Yd9)]
def F29:TFun:=⟨[6],[(6,qc [qn 2,[.boxN 35 14 [.any,.any,.any,.p db,.any,.any,.any,.any,.any,.p (.int .u8),.any,.any,.any,.any]],qn 2,[.boxN 58 9 [.p (.int .u8),.any,.any,.any,.p (.sl Yq7),.any,.any,.any,.any]],qi,qi,qn 78]),(8,qc [qn 2,[.boxN 35 14 [.any,.any,.any,.p db,.any,.any,.any,.any,.any,.p (.int .u8),.any,.any,.any,.any]],qn 2,[.boxN 58 9 [.p (.int .u8),.any,.any,.any,.p (.sl Yq7),.any,.any,.any,.any]],qi,qi,qn 33,[.c (.p (.sl Yq6))],qi,qi,qn 42])],[.a Yq2,.c di],[.c (.p db)],qc [qn 4,qb,qn 81],[],[],0⟩
def Yem:=mkC Yel prog 29 F29
theorem ok29:Yem.ok prog 29:=mkO ⟨ok45,Ym2,Ym3,trivial⟩
def Zpv (a0:Yy2)(a1:Int):Option (Bool×Unit):=Yem.fn (a0,a1,())
def Zoi (n:Nat)(x0:Bool)(x1 x2:Int)(x3:Yy5)(x4 x5:Int):Option (Bool×Unit):=itr Yel prog 29 F29 n 6 (x0,x1,x2,x3,x4,x5,())
def Zeo (n:Nat)(x0:Bool)(x1 x2:Int)(x3:Yy5)(x4 x5:Int)(x6:(List (Int×Int×Int×Int×Int×Int×Int×Int×Int×Int×Int×Unit)))(x7 x8:Int):Option (Bool×Unit):=itr Yel prog 29 F29 n 8 (x0,x1,x2,x3,x4,x5,x6,x7,x8,())
theorem Z3h a0 a1:Eq (Zpv a0 a1) <| ix a0.2.2.2.2.2.2.2.2.2.2.2.2.1 a1 fun e0=>ix a0.2.2.2.2.2.2.2.2.2.2.1 a1 fun e1=>bif !(e0.1==e1.1&&(e0.2.1==e1.2.1&&true)) then some (false,()) else (Zhr e0).bind fun e2=>bif e2.1 !=0 then some (false,()) else (Zad (a0.2.2.2.2.2.2.2.2.2.2.1,a0.2.2.2.2.2.2.2.2.2.2.2.1,()) a1).bind fun e3=>(Qm (a0.2.2.2.2.2.2.2.2.2.2.1,a0.2.2.2.2.2.2.2.2.2.2.2.1,()) a1).bind fun e4=>Zeo fuel a0.2.2.2.1 a0.2.2.2.2.2.2.2.2.2.1 e0.1 e0.2.2.2.2.1 (ofNat e3.1.length) (ofNat e4.1.length) e0.2.2.2.1 (ofNat e0.2.2.2.1.length) 0:=mkE
theorem Z0o n x0 x1 x2 x3 x4 x5:Eq (Zoi (n+1) x0 x1 x2 x3 x4 x5) <| bif x2==2 then bif x1==2 then some (x5==2,()) else some (x5==1,()) else bif x2==4 then bif ofNat x3.length==x4 then some (!x0,()) else some (false,()) else bif x2==5 then bif x4==2 then some (x0,()) else some (false,()) else some (true,()):=mkI
theorem Zoj n x0 x1 x2 x3 x4 x5 x6 x7 x8:Eq (Zeo (n+1) x0 x1 x2 x3 x4 x5 x6 x7 x8) <| bif x8<x7 then ix x6 x8 fun e0=>bif e0.1≥x5 then some (false,()) else Zeo n x0 x1 x2 x3 x4 x5 x6 x7 (wrap .i64 (x8+1)) else Zoi n x0 x1 x2 x3 x4 x5:=mkI
def Z8g:Tb:=[(26,Ydv),(27,Ydz),(28,Yck),(29,Yem)]
def F14:TFun:=⟨[7],[(7,qc [qn 1,[.boxN 35 14 [.p (.int .u8),.p (.sl Yq4),.p (.sl Yq7),.p db,.p (.sl Yq4),.p (.int .u8),.p di,.p di,.p db,.p (.int .u8),.p (.sl Yq8),.p (.sl Yq5),.p (.sl Yq1),.p (.sl Yq3)]],qn 75]),(9,qc [qn 1,[.boxN 35 14 [.p (.int .u8),.p (.sl Yq4),.p (.sl Yq7),.p db,.p (.sl Yq4),.p (.int .u8),.p di,.p di,.p db,.p (.int .u8),.p (.sl Yq8),.p (.sl Yq5),.p (.sl Yq1),.p (.sl Yq3)]],qn 41,[.c (.p (.sl Yq3))],qi,qi,qn 31]),(18,qc [qn 1,[.boxN 35 14 [.p (.int .u8),.p (.sl Yq4),.p (.sl Yq7),.p db,.p (.sl Yq4),.p (.int .u8),.p di,.p di,.p db,.p (.int .u8),.p (.sl Yq8),.p (.sl Yq5),.p (.sl Yq1),.p (.sl Yq3)]],qn 66,qi,qi,qn 7])],[.a Yq2],[.c (.p di)],qc [qn 2,qi,qn 74],[],[],0⟩
def Z8h:=mkC Z8g prog 14 F14
theorem ok14:Z8h.ok prog 14:=mkO ⟨ok26,ok27,ok28,ok29,trivial⟩
def Zba (a0:Yy2):Option (Int×Unit):=Z8h.fn (a0,())
def Zmm (n:Nat)(x0:Int)(x1:Yy3)(x2:Yy5)(x3:Bool)(x4:Yy3)(x5 x6 x7:Int)(x8:Bool)(x9:Int)(x10:Yy6)(x11:Yy3)(x12:(List Yy1))(x13:Yy4):Option (Int×Unit):=itr Z8g prog 14 F14 n 7 (x0,x1,x2,x3,x4,x5,x6,x7,x8,x9,x10,x11,x12,x13,())
def Zdq (n:Nat)(x0:Int)(x1:Yy3)(x2:Yy5)(x3:Bool)(x4:Yy3)(x5 x6 x7:Int)(x8:Bool)(x9:Int)(x10:Yy6)(x11:Yy3)(x12:(List Yy1))(x13 x14:Yy4)(x15 x16:Int):Option (Int×Unit):=itr Z8g prog 14 F14 n 9 (x0,x1,x2,x3,x4,x5,x6,x7,x8,x9,x10,x11,x12,x13,x14,x15,x16,())
def Zcy (n:Nat)(x0:Int)(x1:Yy3)(x2:Yy5)(x3:Bool)(x4:Yy3)(x5 x6 x7:Int)(x8:Bool)(x9:Int)(x10:Yy6)(x11:Yy3)(x12:(List Yy1))(x13:Yy4)(x14 x15:Int):Option (Int×Unit):=itr Z8g prog 14 F14 n 18 (x0,x1,x2,x3,x4,x5,x6,x7,x8,x9,x10,x11,x12,x13,x14,x15,())
theorem Z0p a0:Eq (Zba a0) <| (Zcw (a0.1,a0.2.1,a0.2.2.1,a0.2.2.2.1,a0.2.2.2.2.1,a0.2.2.2.2.2.1,a0.2.2.2.2.2.2.1,a0.2.2.2.2.2.2.2.1,a0.2.2.2.2.2.2.2.2.1,a0.2.2.2.2.2.2.2.2.2.1,())).bind fun e0=>bif e0.2.1 !=0 then some (8,()) else (Ql (a0.2.2.2.2.2.2.2.2.2.2.1,a0.2.2.2.2.2.2.2.2.2.2.2.1,())).bind fun e1=>bif e1.1 !=0 then some (8,()) else bif ofNat a0.2.2.2.2.2.2.2.2.2.2.2.2.1.length !=ofNat a0.2.2.2.2.2.2.2.2.2.2.1.length then some (8,()) else bif ofNat a0.2.2.2.2.2.2.2.2.2.2.2.2.2.1.length !=ofNat a0.2.2.2.2.2.2.2.2.2.2.2.1.length then some (8,()) else Zdq fuel a0.1 a0.2.1 a0.2.2.1 a0.2.2.2.1 a0.2.2.2.2.1 a0.2.2.2.2.2.1 a0.2.2.2.2.2.2.1 a0.2.2.2.2.2.2.2.1 a0.2.2.2.2.2.2.2.2.1 a0.2.2.2.2.2.2.2.2.2.1 a0.2.2.2.2.2.2.2.2.2.2.1 a0.2.2.2.2.2.2.2.2.2.2.2.1 a0.2.2.2.2.2.2.2.2.2.2.2.2.1 a0.2.2.2.2.2.2.2.2.2.2.2.2.2.1 a0.2.2.2.2.2.2.2.2.2.2.2.2.2.1 (ofNat a0.2.2.2.2.2.2.2.2.2.2.2.2.2.1.length) 0:=mkE
theorem Zwq n x0 x1 x2 x3 x4 x5 x6 x7 x8 x9 x10 x11 x12 x13:Eq (Zmm (n+1) x0 x1 x2 x3 x4 x5 x6 x7 x8 x9 x10 x11 x12 x13) <| Zcy n x0 x1 x2 x3 x4 x5 x6 x7 x8 x9 x10 x11 x12 x13 (ofNat x12.length) 0:=mkI
theorem Zmn n x0 x1 x2 x3 x4 x5 x6 x7 x8 x9 x10 x11 x12 x13 x14 x15 x16:Eq (Zdq (n+1) x0 x1 x2 x3 x4 x5 x6 x7 x8 x9 x10 x11 x12 x13 x14 x15 x16) <| bif x16<x15 then ix x14 x16 fun e0=>ix x11 x16 fun e1=>bif e0.1 !=e1.2.2.2.2.1 then some (8,()) else (Zgl e0).bind fun e2=>bif e2.1 !=0 then some (8,()) else Zdq n x0 x1 x2 x3 x4 x5 x6 x7 x8 x9 x10 x11 x12 x13 x14 x15 (wrap .i64 (x16+1)) else Zmm n x0 x1 x2 x3 x4 x5 x6 x7 x8 x9 x10 x11 x12 x13:=mkI
theorem Zk6 n x0 x1 x2 x3 x4 x5 x6 x7 x8 x9 x10 x11 x12 x13 x14 x15:Eq (Zcy (n+1) x0 x1 x2 x3 x4 x5 x6 x7 x8 x9 x10 x11 x12 x13 x14 x15) <| bif x15<x14 then (Zpv (x0,x1,x2,x3,x4,x5,x6,x7,x8,x9,x10,x11,x12,x13,()) x15).bind fun e0=>bif !e0.1 then some (8,()) else Zcy n x0 x1 x2 x3 x4 x5 x6 x7 x8 x9 x10 x11 x12 x13 x14 (wrap .i64 (x15+1)) else some (0,()):=mkI
def tab9:Tb:=[(14,Z8h)]
def F9:TFun:=⟨[7],[(7,qc [qn 1,[.boxN 35 14 [.any,.any,.any,.any,.any,.any,.any,.any,.any,.any,.any,.any,.any,.p (.sl Yq3)]],[.boxN 48 3 [.any,.any,.any]],qn 2,[.boxN 48 3 [.p di,.p di,.p di]],qn 48]),(9,qc [qn 1,[.boxN 35 14 [.any,.any,.any,.any,.any,.any,.any,.any,.any,.any,.any,.any,.any,.p (.sl Yq3)]],[.boxN 48 3 [.any,.any,.any]],qn 2,[.boxN 48 3 [.p di,.p di,.p di]],qn 11,[.c (.p (.sl Yq1))],qi,qi,qn 34]),(17,qc [qn 2,[.boxN 48 3 [.any,.any,.any]],qn 2,[.boxN 48 3 [.p di,.p di,.p di]],qn 33,[.c (.p (.sl Yq3))],qi,qi,qn 12])],[.a Yq2],[.a [.p di,.p di,.p di],.c (.p di)],qc [qn 2,[.boxN 48 3 [.p di,.p di,.p di]],qi,qn 50],[],[],0⟩
def con9:=mkC tab9 prog 9 F9
theorem ok9:con9.ok prog 9:=mkO ⟨ok14,trivial⟩
def Zhz (a0:Yy2):Option ((Int×Int×Int×Unit)×Int×Unit):=con9.fn (a0,())
def Zeb (n:Nat)(x0:Yy4)(x1 x2 x3:Int):Option ((Int×Int×Int×Unit)×Int×Unit):=itr tab9 prog 9 F9 n 7 (x0,x1,x2,x3,())
def Zbz (n:Nat)(x0:Yy4)(x1 x2 x3:Int)(x4:(List Yy1))(x5 x6:Int):Option ((Int×Int×Int×Unit)×Int×Unit):=itr tab9 prog 9 F9 n 9 (x0,x1,x2,x3,x4,x5,x6,())
def Zbh (n:Nat)(x0 x1 x2:Int)(x3:Yy4)(x4 x5:Int):Option ((Int×Int×Int×Unit)×Int×Unit):=itr tab9 prog 9 F9 n 17 (x0,x1,x2,x3,x4,x5,())
theorem Zuy a0:Eq (Zhz a0) <| (Zba a0).bind fun e0=>bif e0.1 !=0 then some (((0,0,0,()),e0.1,())) else Zbz fuel a0.2.2.2.2.2.2.2.2.2.2.2.2.2.1 0 0 0 a0.2.2.2.2.2.2.2.2.2.2.2.2.1 (ofNat a0.2.2.2.2.2.2.2.2.2.2.2.2.1.length) 0:=mkE
theorem Zrb n x0 x1 x2 x3:Eq (Zeb (n+1) x0 x1 x2 x3) <| Zbh n x1 x2 x3 x0 (ofNat x0.length) 0:=mkI
theorem Zik n x0 x1 x2 x3 x4 x5 x6:Eq (Zbz (n+1) x0 x1 x2 x3 x4 x5 x6) <| bif x6<x5 then ix x4 x6 fun e0=>Zbz n x0 (wrap .i64 (x1+ofNat e0.2.2.2.2.2.2.1.length)) (wrap .i64 (x2+ofNat e0.2.2.2.1.length)) x3 x4 x5 (wrap .i64 (x6+1)) else Zeb n x0 x1 x2 x3:=mkI
theorem Zg4 n x0 x1 x2 x3 x4 x5:Eq (Zbh (n+1) x0 x1 x2 x3 x4 x5) <| bif x5<x4 then ix x3 x5 fun e0=>Zbh n x0 x1 (wrap .i64 (x2+ofNat e0.2.1.length)) x3 x4 (wrap .i64 (x5+1)) else some (((x0,x1,x2,()),0,())):=mkI
end
end Tg
