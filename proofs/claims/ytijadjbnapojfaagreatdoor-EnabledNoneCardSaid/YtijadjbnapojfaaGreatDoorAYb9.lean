import Derived.Test.YtijadjbnapojfaaGreatDoorASI
import Derived.Test.YtijadjbnapojfaaGreatDoorAVb3
import Derived.Test.YtijadjbnapojfaaGreatDoorAXb6
/- Functions of the code, told plainly and checked by the kernel. -/
set_option linter.unusedVariables false
set_option linter.unusedSimpArgs false
set_option maxRecDepth 100000
namespace Tg
noncomputable section
open Go.Abs hiding fuel
open Go.Proofs.Tryz (prog)
open Int (ofNat toNat)
open Go.IntKind (wrap)
def Yiv:Tb:=[]
def F22:TFun:=⟨[],[(4,qc [qn 2,[.boxN 35 14 [.any,.any,.any,.any,.any,.any,.any,.any,.any,.any,.any,.any,.any,.p (.sl Yq3)]],qn 2,[.c (.rowN 69 2 Yq3)],qn 2,[.c (.p (.sl Yq7))],qi,qi,qn 13])],[.a Yq1,.c (.sl Yq7)],[.c (.s 69 2 Yq3)],qc [qn 4,[.c (.rowN 69 2 Yq3)],qn 19],[],[],0⟩
def Z3f:=mkC Yiv prog 22 F22
theorem ok22:Z3f.ok prog 22:=mkO trivial
def Ye1:TCon:=⟨Z3f.args,[.c (.p (.sl Yq3))],Z3f.fn⟩
theorem Ynq:Ye1.ok prog 22:=TCon.frz (c:=Z3f) ok22 rfl
def Zf1 (a0:Yy1)(a1:Yy6):Option (List Yy3×Unit):=Z3f.fn (a0,a1,())
def Zcs (n:Nat)(x0 x1:(List Yy3))(x2:Yy6)(x3 x4:Int):Option (List Yy3×Unit):=itr Yiv prog 22 F22 n 4 (x0,x1,x2,x3,x4,())
theorem Zwa a0 a1:Eq (Zf1 a0 a1) <| Zcs fuel a0.2.2.2.2.2.2.2.2.2.2.2.2.2.1 ([]) a1 (ofNat a1.length) 0:=mkE
theorem Zkt n x0 x1 x2 x3 x4:Eq (Zcs (n+1) x0 x1 x2 x3 x4) <| bif x4<x3 then ix x2 x4 fun e0=>ix x0 e0.1 fun e1=>bif Zl (x1.length+List.length [e1]) 32 then Zcs n x0 (x1++[e1]) x2 x3 (wrap .i64 (x4+1)) else none else some (x1,()):=mkI
def Ye2:Tb:=[(64,Yc8),(23,Z6f),(37,Z6g)]
def F35:TFun:=⟨[6],[(6,qc [qn 2,[.boxN 35 14 [.any,.any,.any,.p db,.any,.any,.any,.any,.any,.p (.int .u8),.any,.any,.any,.any]],qn 2,[.boxN 66 9 [.p (.int .u8),.any,.any,.any,.p (.sl Yq7),.any,.any,.any,.any]],qi,qi,qn 78]),(8,qc [qn 2,[.boxN 35 14 [.any,.any,.any,.p db,.any,.any,.any,.any,.any,.p (.int .u8),.any,.any,.any,.any]],qn 2,[.boxN 66 9 [.p (.int .u8),.any,.any,.any,.p (.sl Yq7),.any,.any,.any,.any]],qi,qi,qn 33,[.c (.p (.sl Yq6))],qi,qi,qn 42])],[.a Yq1,.c di],[.c (.p db)],qc [qn 4,qb,qn 81],[],[],0⟩
def Ye3:=mkC Ye2 prog 35 F35
theorem ok35:Ye3.ok prog 35:=mkO ⟨ok64,Yip,Yiq,trivial⟩
def Zpc (a0:Yy1)(a1:Int):Option (Bool×Unit):=Ye3.fn (a0,a1,())
def Zn1 (n:Nat)(x0:Bool)(x1 x2:Int)(x3:Yy6)(x4 x5:Int):Option (Bool×Unit):=itr Ye2 prog 35 F35 n 6 (x0,x1,x2,x3,x4,x5,())
def Zeg (n:Nat)(x0:Bool)(x1 x2:Int)(x3:Yy6)(x4 x5:Int)(x6:Yy5)(x7 x8:Int):Option (Bool×Unit):=itr Ye2 prog 35 F35 n 8 (x0,x1,x2,x3,x4,x5,x6,x7,x8,())
theorem Z3g a0 a1:Eq (Zpc a0 a1) <| ix a0.2.2.2.2.2.2.2.2.2.2.2.2.1 a1 fun e0=>ix a0.2.2.2.2.2.2.2.2.2.2.1 a1 fun e1=>bif !(e0.1==e1.1&&(e0.2.1==e1.2.1&&true)) then some (false,()) else (Zbv e0).bind fun e2=>bif e2.1 !=0 then some (false,()) else (Xm (a0.2.2.2.2.2.2.2.2.2.2.1,a0.2.2.2.2.2.2.2.2.2.2.2.1,()) a1).bind fun e3=>(Yu (a0.2.2.2.2.2.2.2.2.2.2.1,a0.2.2.2.2.2.2.2.2.2.2.2.1,()) a1).bind fun e4=>Zeg fuel a0.2.2.2.1 a0.2.2.2.2.2.2.2.2.2.1 e0.1 e0.2.2.2.2.1 (ofNat e3.1.length) (ofNat e4.1.length) e0.2.2.2.1 (ofNat e0.2.2.2.1.length) 0:=mkE
theorem Z0i n x0 x1 x2 x3 x4 x5:Eq (Zn1 (n+1) x0 x1 x2 x3 x4 x5) <| bif x2==2 then bif x1==2 then some (x5==2,()) else some (x5==1,()) else bif x2==4 then bif ofNat x3.length==x4 then some (!x0,()) else some (false,()) else bif x2==5 then bif x4==2 then some (x0,()) else some (false,()) else some (true,()):=mkI
theorem Zn2 n x0 x1 x2 x3 x4 x5 x6 x7 x8:Eq (Zeg (n+1) x0 x1 x2 x3 x4 x5 x6 x7 x8) <| bif x8<x7 then ix x6 x8 fun e0=>bif e0.1≥x5 then some (false,()) else Zeg n x0 x1 x2 x3 x4 x5 x6 x7 (wrap .i64 (x8+1)) else Zn1 n x0 x1 x2 x3 x4 x5:=mkI
def Z80:Tb:=[(32,Yd5),(33,Yio),(34,Z8h),(35,Ye3)]
def F16:TFun:=⟨[7],[(7,qc [qn 1,[.boxN 35 14 [.p (.int .u8),.p (.sl Yq4),.p (.sl Yq7),.p db,.p (.sl Yq4),.p (.int .u8),.p di,.p di,.p db,.p (.int .u8),.p (.sl Yq8),.p (.sl Yq5),.p (.sl Yq2),.p (.sl Yq3)]],qn 75]),(9,qc [qn 1,[.boxN 35 14 [.p (.int .u8),.p (.sl Yq4),.p (.sl Yq7),.p db,.p (.sl Yq4),.p (.int .u8),.p di,.p di,.p db,.p (.int .u8),.p (.sl Yq8),.p (.sl Yq5),.p (.sl Yq2),.p (.sl Yq3)]],qn 41,[.c (.p (.sl Yq3))],qi,qi,qn 31]),(18,qc [qn 1,[.boxN 35 14 [.p (.int .u8),.p (.sl Yq4),.p (.sl Yq7),.p db,.p (.sl Yq4),.p (.int .u8),.p di,.p di,.p db,.p (.int .u8),.p (.sl Yq8),.p (.sl Yq5),.p (.sl Yq2),.p (.sl Yq3)]],qn 66,qi,qi,qn 7])],[.a Yq1],[.c (.p di)],qc [qn 2,qi,qn 74],[],[],0⟩
def Z3h:=mkC Z80 prog 16 F16
theorem ok16:Z3h.ok prog 16:=mkO ⟨ok32,ok33,ok34,ok35,trivial⟩
def Zfg (a0:Yy1):Option (Int×Unit):=Z3h.fn (a0,())
def Zl6 (n:Nat)(x0:Int)(x1:Yy4)(x2:Yy6)(x3:Bool)(x4:Yy4)(x5 x6 x7:Int)(x8:Bool)(x9:Int)(x10:Yy7)(x11:Yy4)(x12:(List Yy2))(x13:(List Yy3)):Option (Int×Unit):=itr Z80 prog 16 F16 n 7 (x0,x1,x2,x3,x4,x5,x6,x7,x8,x9,x10,x11,x12,x13,())
def Zdm (n:Nat)(x0:Int)(x1:Yy4)(x2:Yy6)(x3:Bool)(x4:Yy4)(x5 x6 x7:Int)(x8:Bool)(x9:Int)(x10:Yy7)(x11:Yy4)(x12:(List Yy2))(x13 x14:(List Yy3))(x15 x16:Int):Option (Int×Unit):=itr Z80 prog 16 F16 n 9 (x0,x1,x2,x3,x4,x5,x6,x7,x8,x9,x10,x11,x12,x13,x14,x15,x16,())
def Zct (n:Nat)(x0:Int)(x1:Yy4)(x2:Yy6)(x3:Bool)(x4:Yy4)(x5 x6 x7:Int)(x8:Bool)(x9:Int)(x10:Yy7)(x11:Yy4)(x12:(List Yy2))(x13:(List Yy3))(x14 x15:Int):Option (Int×Unit):=itr Z80 prog 16 F16 n 18 (x0,x1,x2,x3,x4,x5,x6,x7,x8,x9,x10,x11,x12,x13,x14,x15,())
theorem Z0j a0:Eq (Zfg a0) <| (Zcq (a0.1,a0.2.1,a0.2.2.1,a0.2.2.2.1,a0.2.2.2.2.1,a0.2.2.2.2.2.1,a0.2.2.2.2.2.2.1,a0.2.2.2.2.2.2.2.1,a0.2.2.2.2.2.2.2.2.1,a0.2.2.2.2.2.2.2.2.2.1,())).bind fun e0=>bif e0.2.1 !=0 then some (8,()) else (Zaw (a0.2.2.2.2.2.2.2.2.2.2.1,a0.2.2.2.2.2.2.2.2.2.2.2.1,())).bind fun e1=>bif e1.1 !=0 then some (8,()) else bif ofNat a0.2.2.2.2.2.2.2.2.2.2.2.2.1.length !=ofNat a0.2.2.2.2.2.2.2.2.2.2.1.length then some (8,()) else bif ofNat a0.2.2.2.2.2.2.2.2.2.2.2.2.2.1.length !=ofNat a0.2.2.2.2.2.2.2.2.2.2.2.1.length then some (8,()) else Zdm fuel a0.1 a0.2.1 a0.2.2.1 a0.2.2.2.1 a0.2.2.2.2.1 a0.2.2.2.2.2.1 a0.2.2.2.2.2.2.1 a0.2.2.2.2.2.2.2.1 a0.2.2.2.2.2.2.2.2.1 a0.2.2.2.2.2.2.2.2.2.1 a0.2.2.2.2.2.2.2.2.2.2.1 a0.2.2.2.2.2.2.2.2.2.2.2.1 a0.2.2.2.2.2.2.2.2.2.2.2.2.1 a0.2.2.2.2.2.2.2.2.2.2.2.2.2.1 a0.2.2.2.2.2.2.2.2.2.2.2.2.2.1 (ofNat a0.2.2.2.2.2.2.2.2.2.2.2.2.2.1.length) 0:=mkE
theorem Zwb n x0 x1 x2 x3 x4 x5 x6 x7 x8 x9 x10 x11 x12 x13:Eq (Zl6 (n+1) x0 x1 x2 x3 x4 x5 x6 x7 x8 x9 x10 x11 x12 x13) <| Zct n x0 x1 x2 x3 x4 x5 x6 x7 x8 x9 x10 x11 x12 x13 (ofNat x12.length) 0:=mkI
theorem Zl7 n x0 x1 x2 x3 x4 x5 x6 x7 x8 x9 x10 x11 x12 x13 x14 x15 x16:Eq (Zdm (n+1) x0 x1 x2 x3 x4 x5 x6 x7 x8 x9 x10 x11 x12 x13 x14 x15 x16) <| bif x16<x15 then ix x14 x16 fun e0=>ix x11 x16 fun e1=>bif e0.1 !=e1.2.2.2.2.1 then some (8,()) else (Xh e0).bind fun e2=>bif e2.1 !=0 then some (8,()) else Zdm n x0 x1 x2 x3 x4 x5 x6 x7 x8 x9 x10 x11 x12 x13 x14 x15 (wrap .i64 (x16+1)) else Zl6 n x0 x1 x2 x3 x4 x5 x6 x7 x8 x9 x10 x11 x12 x13:=mkI
theorem Zku n x0 x1 x2 x3 x4 x5 x6 x7 x8 x9 x10 x11 x12 x13 x14 x15:Eq (Zct (n+1) x0 x1 x2 x3 x4 x5 x6 x7 x8 x9 x10 x11 x12 x13 x14 x15) <| bif x15<x14 then (Zpc (x0,x1,x2,x3,x4,x5,x6,x7,x8,x9,x10,x11,x12,x13,()) x15).bind fun e0=>bif !e0.1 then some (8,()) else Zct n x0 x1 x2 x3 x4 x5 x6 x7 x8 x9 x10 x11 x12 x13 x14 (wrap .i64 (x15+1)) else some (0,()):=mkI
def Ynr:Tb:=[(16,Z3h)]
def F17:TFun:=⟨[],[],[.a Yq1,.c di],[.c (.p di)],qc [qn 4,qi,qn 15],[],[],0⟩
def Ye4:=mkC Ynr prog 17 F17
theorem ok17:Ye4.ok prog 17:=mkO ⟨ok16,trivial⟩
def Zug (a0:Yy1)(a1:Int):Option (Int×Unit):=Ye4.fn (a0,a1,())
theorem Z0k a0 a1:Eq (Zug a0 a1) <| (Zfg a0).bind fun e0=>bif e0.1 !=0 then some (e0.1,()) else bif a1<0 then some (51,()) else bif a1≥ofNat a0.2.2.2.2.2.2.2.2.2.2.2.2.1.length then some (51,()) else some (0,()):=mkE
def tab8:Tb:=[(16,Z3h)]
def F8:TFun:=⟨[7],[(7,qc [qn 1,[.boxN 35 14 [.any,.any,.any,.any,.any,.any,.any,.any,.any,.any,.any,.any,.any,.p (.sl Yq3)]],[.boxN 42 3 [.any,.any,.any]],qn 2,[.boxN 42 3 [.p di,.p di,.p di]],qn 48]),(9,qc [qn 1,[.boxN 35 14 [.any,.any,.any,.any,.any,.any,.any,.any,.any,.any,.any,.any,.any,.p (.sl Yq3)]],[.boxN 42 3 [.any,.any,.any]],qn 2,[.boxN 42 3 [.p di,.p di,.p di]],qn 11,[.c (.p (.sl Yq2))],qi,qi,qn 34]),(17,qc [qn 2,[.boxN 42 3 [.any,.any,.any]],qn 2,[.boxN 42 3 [.p di,.p di,.p di]],qn 33,[.c (.p (.sl Yq3))],qi,qi,qn 12])],[.a Yq1],[.a [.p di,.p di,.p di],.c (.p di)],qc [qn 2,[.boxN 42 3 [.p di,.p di,.p di]],qi,qn 50],[],[],0⟩
def con8:=mkC tab8 prog 8 F8
theorem ok8:con8.ok prog 8:=mkO ⟨ok16,trivial⟩
def Zho (a0:Yy1):Option ((Int×Int×Int×Unit)×Int×Unit):=con8.fn (a0,())
def Zd4 (n:Nat)(x0:(List Yy3))(x1 x2 x3:Int):Option ((Int×Int×Int×Unit)×Int×Unit):=itr tab8 prog 8 F8 n 7 (x0,x1,x2,x3,())
def Zbm (n:Nat)(x0:(List Yy3))(x1 x2 x3:Int)(x4:(List Yy2))(x5 x6:Int):Option ((Int×Int×Int×Unit)×Int×Unit):=itr tab8 prog 8 F8 n 9 (x0,x1,x2,x3,x4,x5,x6,())
def Za5 (n:Nat)(x0 x1 x2:Int)(x3:(List Yy3))(x4 x5:Int):Option ((Int×Int×Int×Unit)×Int×Unit):=itr tab8 prog 8 F8 n 17 (x0,x1,x2,x3,x4,x5,())
theorem Zuh a0:Eq (Zho a0) <| (Zfg a0).bind fun e0=>bif e0.1 !=0 then some (((0,0,0,()),e0.1,())) else Zbm fuel a0.2.2.2.2.2.2.2.2.2.2.2.2.2.1 0 0 0 a0.2.2.2.2.2.2.2.2.2.2.2.2.1 (ofNat a0.2.2.2.2.2.2.2.2.2.2.2.2.1.length) 0:=mkE
theorem Zqr n x0 x1 x2 x3:Eq (Zd4 (n+1) x0 x1 x2 x3) <| Za5 n x1 x2 x3 x0 (ofNat x0.length) 0:=mkI
theorem Zid n x0 x1 x2 x3 x4 x5 x6:Eq (Zbm (n+1) x0 x1 x2 x3 x4 x5 x6) <| bif x6<x5 then ix x4 x6 fun e0=>Zbm n x0 (wrap .i64 (x1+ofNat e0.2.2.2.2.2.2.1.length)) (wrap .i64 (x2+ofNat e0.2.2.2.1.length)) x3 x4 x5 (wrap .i64 (x6+1)) else Zd4 n x0 x1 x2 x3:=mkI
theorem Zgu n x0 x1 x2 x3 x4 x5:Eq (Za5 (n+1) x0 x1 x2 x3 x4 x5) <| bif x5<x4 then ix x3 x5 fun e0=>Za5 n x0 x1 (wrap .i64 (x2+ofNat e0.2.1.length)) x3 x4 (wrap .i64 (x5+1)) else some (((x0,x1,x2,()),0,())):=mkI
end
end Tg
