import Derived.Test.YtmkhomfchbmkfaaGreatDoorVSI
import Derived.Test.YtmkhomfchbmkfaaGreatDoorVVb3
import Derived.Test.YtmkhomfchbmkfaaGreatDoorVXb6
/- Functions of the code, told plainly and checked by the kernel. -/
set_option linter.unusedVariables false
set_option linter.unusedSimpArgs false
set_option maxRecDepth 100000
namespace Tg
noncomputable section
open Go.Abs hiding fuel
open Go.Proofs.Tryz (prog)
open Int (ofNat toNat)
open Go.IntKind (wrap)
def Yp2:Tb:=[]
def F85:TFun:=⟨[],[(4,qc [qn 2,[.boxN 38 14 [.any,.any,.any,.any,.any,.any,.any,.any,.any,.any,.any,.any,.any,.p (.sl Yq3)]],qn 2,[.c (.rowN 59 2 Yq3)],qn 2,[.c (.p (.sl Yq7))],qi,qi,qn 13])],[.a Yq1,.c (.sl Yq7)],[.c (.s 59 2 Yq3)],qc [qn 4,[.c (.rowN 59 2 Yq3)],qn 19],[],[],0⟩
def Z75:=mkC Yp2 prog 85 F85
theorem ok85:Z75.ok prog 85:=mkO trivial
def Ykw:TCon:=⟨Z75.args,[.c (.p (.sl Yq3))],Z75.fn⟩
theorem Yvt:Ykw.ok prog 85:=TCon.frz (c:=Z75) ok85 rfl
def Zhz (a0:Yy1)(a1:Yy6):Option (List Yy3×Unit):=Z75.fn (a0,a1,())
def Zdw (n:Nat)(x0 x1:(List Yy3))(x2:Yy6)(x3 x4:Int):Option (List Yy3×Unit):=itr Yp2 prog 85 F85 n 4 (x0,x1,x2,x3,x4,())
theorem Zzs a0 a1:Eq (Zhz a0 a1) <| Zdw fuel a0.2.2.2.2.2.2.2.2.2.2.2.2.2.1 ([]) a1 (ofNat a1.length) 0:=mkE
theorem Zm9 n x0 x1 x2 x3 x4:Eq (Zdw (n+1) x0 x1 x2 x3 x4) <| bif x4<x3 then ix x2 x4 fun e0=>ix x0 e0.1 fun e1=>bif Zb (x1.length+List.length [e1]) 32 then Zdw n x0 (x1++[e1]) x2 x3 (wrap .i64 (x4+1)) else none else some (x1,()):=mkI
def Ykx:Tb:=[(76,Yi3),(77,Ybf),(78,Ybg)]
def F48:TFun:=⟨[6],[(6,qc [qn 2,[.boxN 38 14 [.any,.any,.any,.p db,.any,.any,.any,.any,.any,.p (.int .u8),.any,.any,.any,.any]],qn 2,[.boxN 69 9 [.p (.int .u8),.any,.any,.any,.p (.sl Yq7),.any,.any,.any,.any]],qi,qi,qn 78]),(8,qc [qn 2,[.boxN 38 14 [.any,.any,.any,.p db,.any,.any,.any,.any,.any,.p (.int .u8),.any,.any,.any,.any]],qn 2,[.boxN 69 9 [.p (.int .u8),.any,.any,.any,.p (.sl Yq7),.any,.any,.any,.any]],qi,qi,qn 33,[.c (.p (.sl Yq5))],qi,qi,qn 42])],[.a Yq1,.c di],[.c (.p db)],qc [qn 4,qb,qn 81],[],[],0⟩
def Yky:=mkC Ykx prog 48 F48
theorem ok48:Yky.ok prog 48:=mkO ⟨ok76,Ypx,Ypy,trivial⟩
def Zsd (a0:Yy1)(a1:Int):Option (Bool×Unit):=Yky.fn (a0,a1,())
def Zq2 (n:Nat)(x0:Bool)(x1 x2:Int)(x3:Yy6)(x4 x5:Int):Option (Bool×Unit):=itr Ykx prog 48 F48 n 6 (x0,x1,x2,x3,x4,x5,())
def Zf1 (n:Nat)(x0:Bool)(x1 x2:Int)(x3:Yy6)(x4 x5:Int)(x6:Yy5)(x7 x8:Int):Option (Bool×Unit):=itr Ykx prog 48 F48 n 8 (x0,x1,x2,x3,x4,x5,x6,x7,x8,())
theorem Z76 a0 a1:Eq (Zsd a0 a1) <| ix a0.2.2.2.2.2.2.2.2.2.2.2.2.1 a1 fun e0=>ix a0.2.2.2.2.2.2.2.2.2.2.1 a1 fun e1=>bif !(e0.1==e1.1&&(e0.2.1==e1.2.1&&true)) then some (false,()) else (Zcy e0).bind fun e2=>bif e2.1 !=0 then some (false,()) else (Qe (a0.2.2.2.2.2.2.2.2.2.2.1,a0.2.2.2.2.2.2.2.2.2.2.2.1,()) a1).bind fun e3=>(Xj (a0.2.2.2.2.2.2.2.2.2.2.1,a0.2.2.2.2.2.2.2.2.2.2.2.1,()) a1).bind fun e4=>Zf1 fuel a0.2.2.2.1 a0.2.2.2.2.2.2.2.2.2.1 e0.1 e0.2.2.2.2.1 (ofNat e3.1.length) (ofNat e4.1.length) e0.2.2.2.1 (ofNat e0.2.2.2.1.length) 0:=mkE
theorem Z4k n x0 x1 x2 x3 x4 x5:Eq (Zq2 (n+1) x0 x1 x2 x3 x4 x5) <| bif x2==2 then bif x1==2 then some (x5==2,()) else some (x5==1,()) else bif x2==4 then bif ofNat x3.length==x4 then some (!x0,()) else some (false,()) else bif x2==5 then bif x4==2 then some (x0,()) else some (false,()) else some (true,()):=mkI
theorem Zq3 n x0 x1 x2 x3 x4 x5 x6 x7 x8:Eq (Zf1 (n+1) x0 x1 x2 x3 x4 x5 x6 x7 x8) <| bif x8<x7 then ix x6 x8 fun e0=>bif e0.1>=x5 then some (false,()) else Zf1 n x0 x1 x2 x3 x4 x5 x6 x7 (wrap .i64 (x8+1)) else Zq2 n x0 x1 x2 x3 x4 x5:=mkI
def Yek:Tb:=[(19,Z10),(46,Ypw),(47,Ydw),(48,Yky)]
def F11:TFun:=⟨[7],[(7,qc [qn 1,[.boxN 38 14 [.p (.int .u8),.p (.sl Yq4),.p (.sl Yq7),.p db,.p (.sl Yq4),.p (.int .u8),.p di,.p di,.p db,.p (.int .u8),.p (.sl Yq8),.p (.sl Yq6),.p (.sl Yq2),.p (.sl Yq3)]],qn 75]),(9,qc [qn 1,[.boxN 38 14 [.p (.int .u8),.p (.sl Yq4),.p (.sl Yq7),.p db,.p (.sl Yq4),.p (.int .u8),.p di,.p di,.p db,.p (.int .u8),.p (.sl Yq8),.p (.sl Yq6),.p (.sl Yq2),.p (.sl Yq3)]],qn 41,[.c (.p (.sl Yq3))],qi,qi,qn 31]),(18,qc [qn 1,[.boxN 38 14 [.p (.int .u8),.p (.sl Yq4),.p (.sl Yq7),.p db,.p (.sl Yq4),.p (.int .u8),.p di,.p di,.p db,.p (.int .u8),.p (.sl Yq8),.p (.sl Yq6),.p (.sl Yq2),.p (.sl Yq3)]],qn 66,qi,qi,qn 7])],[.a Yq1],[.c (.p di)],qc [qn 2,qi,qn 74],[],[],0⟩
def Z17:=mkC Yek prog 11 F11
theorem ok11:Z17.ok prog 11:=mkO ⟨ok19,ok46,ok47,ok48,trivial⟩
def Zcz (a0:Yy1):Option (Int×Unit):=Z17.fn (a0,())
def Zoz (n:Nat)(x0:Int)(x1:Yy4)(x2:Yy6)(x3:Bool)(x4:Yy4)(x5 x6 x7:Int)(x8:Bool)(x9:Int)(x10:Yy7)(x11:Yy4)(x12:(List Yy2))(x13:(List Yy3)):Option (Int×Unit):=itr Yek prog 11 F11 n 7 (x0,x1,x2,x3,x4,x5,x6,x7,x8,x9,x10,x11,x12,x13,())
def Zez (n:Nat)(x0:Int)(x1:Yy4)(x2:Yy6)(x3:Bool)(x4:Yy4)(x5 x6 x7:Int)(x8:Bool)(x9:Int)(x10:Yy7)(x11:Yy4)(x12:(List Yy2))(x13 x14:(List Yy3))(x15 x16:Int):Option (Int×Unit):=itr Yek prog 11 F11 n 9 (x0,x1,x2,x3,x4,x5,x6,x7,x8,x9,x10,x11,x12,x13,x14,x15,x16,())
def Zdx (n:Nat)(x0:Int)(x1:Yy4)(x2:Yy6)(x3:Bool)(x4:Yy4)(x5 x6 x7:Int)(x8:Bool)(x9:Int)(x10:Yy7)(x11:Yy4)(x12:(List Yy2))(x13:(List Yy3))(x14 x15:Int):Option (Int×Unit):=itr Yek prog 11 F11 n 18 (x0,x1,x2,x3,x4,x5,x6,x7,x8,x9,x10,x11,x12,x13,x14,x15,())
theorem Z4l a0:Eq (Zcz a0) <| (Q7 (a0.1,a0.2.1,a0.2.2.1,a0.2.2.2.1,a0.2.2.2.2.1,a0.2.2.2.2.2.1,a0.2.2.2.2.2.2.1,a0.2.2.2.2.2.2.2.1,a0.2.2.2.2.2.2.2.2.1,a0.2.2.2.2.2.2.2.2.2.1,())).bind fun e0=>bif e0.2.1 !=0 then some (8,()) else (Zbu (a0.2.2.2.2.2.2.2.2.2.2.1,a0.2.2.2.2.2.2.2.2.2.2.2.1,())).bind fun e1=>bif e1.1 !=0 then some (8,()) else bif ofNat a0.2.2.2.2.2.2.2.2.2.2.2.2.1.length !=ofNat a0.2.2.2.2.2.2.2.2.2.2.1.length then some (8,()) else bif ofNat a0.2.2.2.2.2.2.2.2.2.2.2.2.2.1.length !=ofNat a0.2.2.2.2.2.2.2.2.2.2.2.1.length then some (8,()) else Zez fuel a0.1 a0.2.1 a0.2.2.1 a0.2.2.2.1 a0.2.2.2.2.1 a0.2.2.2.2.2.1 a0.2.2.2.2.2.2.1 a0.2.2.2.2.2.2.2.1 a0.2.2.2.2.2.2.2.2.1 a0.2.2.2.2.2.2.2.2.2.1 a0.2.2.2.2.2.2.2.2.2.2.1 a0.2.2.2.2.2.2.2.2.2.2.2.1 a0.2.2.2.2.2.2.2.2.2.2.2.2.1 a0.2.2.2.2.2.2.2.2.2.2.2.2.2.1 a0.2.2.2.2.2.2.2.2.2.2.2.2.2.1 (ofNat a0.2.2.2.2.2.2.2.2.2.2.2.2.2.1.length) 0:=mkE
theorem Zzt n x0 x1 x2 x3 x4 x5 x6 x7 x8 x9 x10 x11 x12 x13:Eq (Zoz (n+1) x0 x1 x2 x3 x4 x5 x6 x7 x8 x9 x10 x11 x12 x13) <| Zdx n x0 x1 x2 x3 x4 x5 x6 x7 x8 x9 x10 x11 x12 x13 (ofNat x12.length) 0:=mkI
theorem Zo0 n x0 x1 x2 x3 x4 x5 x6 x7 x8 x9 x10 x11 x12 x13 x14 x15 x16:Eq (Zez (n+1) x0 x1 x2 x3 x4 x5 x6 x7 x8 x9 x10 x11 x12 x13 x14 x15 x16) <| bif x16<x15 then ix x14 x16 fun e0=>ix x11 x16 fun e1=>bif e0.1 !=e1.2.2.2.2.1 then some (8,()) else (X9 e0).bind fun e2=>bif e2.1 !=0 then some (8,()) else Zez n x0 x1 x2 x3 x4 x5 x6 x7 x8 x9 x10 x11 x12 x13 x14 x15 (wrap .i64 (x16+1)) else Zoz n x0 x1 x2 x3 x4 x5 x6 x7 x8 x9 x10 x11 x12 x13:=mkI
theorem Zna n x0 x1 x2 x3 x4 x5 x6 x7 x8 x9 x10 x11 x12 x13 x14 x15:Eq (Zdx (n+1) x0 x1 x2 x3 x4 x5 x6 x7 x8 x9 x10 x11 x12 x13 x14 x15) <| bif x15<x14 then (Zsd (x0,x1,x2,x3,x4,x5,x6,x7,x8,x9,x10,x11,x12,x13,()) x15).bind fun e0=>bif !e0.1 then some (8,()) else Zdx n x0 x1 x2 x3 x4 x5 x6 x7 x8 x9 x10 x11 x12 x13 x14 (wrap .i64 (x15+1)) else some (0,()):=mkI
def Yvu:Tb:=[(11,Z17)]
def F53:TFun:=⟨[],[],[.a Yq1,.c di],[.c (.p di)],qc [qn 4,qi,qn 15],[],[],0⟩
def Ykz:=mkC Yvu prog 53 F53
theorem ok53:Ykz.ok prog 53:=mkO ⟨ok11,trivial⟩
def Zxj (a0:Yy1)(a1:Int):Option (Int×Unit):=Ykz.fn (a0,a1,())
theorem Z4m a0 a1:Eq (Zxj a0 a1) <| (Zcz a0).bind fun e0=>bif e0.1 !=0 then some (e0.1,()) else bif a1<0 then some (51,()) else bif a1>=ofNat a0.2.2.2.2.2.2.2.2.2.2.2.2.1.length then some (51,()) else some (0,()):=mkE
end
end Tg
