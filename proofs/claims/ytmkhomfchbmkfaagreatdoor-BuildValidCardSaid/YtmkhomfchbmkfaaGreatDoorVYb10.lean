import Derived.Test.YtmkhomfchbmkfaaGreatDoorVYb9
import Derived.Test.YtmkhomfchbmkfaaGreatDoorVCC
/- Functions of the code, told plainly and checked by the kernel. -/
set_option linter.unusedVariables false
set_option linter.unusedSimpArgs false
set_option maxRecDepth 100000
namespace Tg
noncomputable section
open Go.Abs hiding fuel
open Go.Proofs.Tryz (prog)
open Int (ofNat toNat)
open Go.IntKind (wrap)
def Ysv:Tb:=[(47,Ydw)]
def F125:TFun:=⟨[],[],[.a Yq3],[.c (.p di),.c (.p di)],qc [qn 2,qi,qi,qn 12],[],[],0⟩
def Ybp:=mkC Ysv prog 125 F125
theorem Yvv:Ybp.ok prog 125:=mkO ⟨ok47,trivial⟩
def Zjr (a0:Yy3):Option (Int×Int×Unit):=Ybp.fn (a0,())
theorem Zxk a0:Eq (Zjr a0) <| (X9 a0).bind fun e0=>bif e0.1 !=0 then some (0,e0.1,()) else some (wrap .i64 (a0.1 - ofNat a0.2.1.length),0,()):=mkE
def Ybq:Tb:=[]
def F126:TFun:=⟨[1],[(1,qc [qi,[.c (.p (.sl Yq3))],qn 29]),(5,qc [qi,[.c (.p (.sl Yq3))],qn 10,qi,qi,qn 17])],[.c di,.c (.sl Yq3)],[.c (.p di)],qc [qn 4,qi,qn 26],[],[],0⟩
def Ybr:=mkC Ybq prog 126 F126
theorem Yvw:Ybr.ok prog 126:=mkO trivial
def Zps (a0:Int)(a1:(List Yy3)):Option (Int×Unit):=Ybr.fn (a0,a1,())
def Zbd (n:Nat)(x0:Int)(x1:(List Yy3)):Option (Int×Unit):=itr Ybq prog 126 F126 n 1 (x0,x1,())
def Ze0 (n:Nat)(x0:Int)(x1:(List Yy3))(x2 x3:Int):Option (Int×Unit):=itr Ybq prog 126 F126 n 5 (x0,x1,x2,x3,())
theorem Z4o a0 a1:Eq (Zps a0 a1) <| bif a0>=ofNat a1.length then Zbd fuel 0 a1 else Zbd fuel a0 a1:=mkE
theorem Zzu n x0 x1:Eq (Zbd (n+1) x0 x1) <| Ze0 n x0 x1 (ofNat x1.length) 0:=mkI
theorem Zo1 n x0 x1 x2 x3:Eq (Ze0 (n+1) x0 x1 x2 x3) <| bif x3<x2 then bif ofNat x1.length=0 then none else ix x1 (Int.tmod (wrap .i64 (x0+x3)) (ofNat x1.length)) fun e0=>bif ofNat e0.2.1.length>0 then some ((Int.tmod (wrap .i64 (x0+x3)) (ofNat x1.length),())) else Ze0 n x0 x1 x2 (wrap .i64 (x3+1)) else some ((-1),()):=mkI
def Yk2:Tb:=[(124,Ykl),(125,Ybp),(126,Ybr)]
def F84:TFun:=⟨[6],[(6,qc [qn 1,[.c (.p (.sl Yq3))],[.c (.p (.sl Yq3))],[.boxN 69 9 [.p (.int .u8),.any,.any,.p (.sl Yq5),.any,.any,.p (.sl [.bool,.int .i64,.int .i64,.int .i64,.int .i64]),.any,.any]],qn 60]),(8,qc [qn 1,[.c (.p (.sl Yq3))],[.c (.p (.sl Yq3))],[.boxN 69 9 [.p (.int .u8),.any,.any,.p (.sl Yq5),.any,.any,.p (.sl [.bool,.int .i64,.int .i64,.int .i64,.int .i64]),.any,.any]],qn 17,[.c (.p (.sl Yq5))],qi,qi,qn 40])],[.a Yq2,.c (.sl Yq3),.c (.sl Yq3)],[.c (.p db),.c (.p di)],qc [qn 6,qb,qi,qn 56],[],[],0⟩
def Yk3:=mkC Yk2 prog 84 F84
theorem ok84:Yk3.ok prog 84:=mkO ⟨Yvp,Yvv,Yvw,trivial⟩
def Zjs (a0:Yy2)(a1 a2:(List Yy3)):Option (Bool×Int×Unit):=Yk3.fn (a0,a1,a2,())
def Zfp (n:Nat)(x0 x1:(List Yy3))(x2:Int)(x3:Yy5)(x4:(List (Bool×Int×Int×Int×Int×Unit))):Option (Bool×Int×Unit):=itr Yk2 prog 84 F84 n 6 (x0,x1,x2,x3,x4,())
def Zcn (n:Nat)(x0 x1:(List Yy3))(x2:Int)(x3:Yy5)(x4:(List (Bool×Int×Int×Int×Int×Unit)))(x5:Yy5)(x6 x7:Int):Option (Bool×Int×Unit):=itr Yk2 prog 84 F84 n 8 (x0,x1,x2,x3,x4,x5,x6,x7,())
theorem Zxl a0 a1 a2:Eq (Zjs a0 a1 a2) <| (Zep a0 a1 a2).bind fun e0=>bif e0.1 !=0 then some (false,e0.1,()) else Zcn fuel a1 a2 a0.1 a0.2.2.2.1 a0.2.2.2.2.2.2.1 a0.2.2.2.1 (ofNat a0.2.2.2.1.length) 0:=mkE
theorem Ztv n x0 x1 x2 x3 x4:Eq (Zfp (n+1) x0 x1 x2 x3 x4) <| bif ofNat x3.length>0 then (x3[0]?).bind fun e0=>ix x1 e0.1 fun e1=>(Zjr e1).bind fun e2=>some (decide (e2.1>0),0,()) else bif x2==1 then some (decide (ofNat x4.length>0),0,()) else (Zps 0 x0).bind fun e0=>some (decide (e0.1>=0),0,()):=mkI
theorem Zkt n x0 x1 x2 x3 x4 x5 x6 x7:Eq (Zcn (n+1) x0 x1 x2 x3 x4 x5 x6 x7) <| bif x7<x6 then ix x5 x7 fun e0=>bif e0.1>=ofNat x1.length then some (false,2,()) else Zcn n x0 x1 x2 x3 x4 x5 x6 (wrap .i64 (x7+1)) else Zfp n x0 x1 x2 x3 x4:=mkI
def Yvx:Tb:=[(77,Ybf),(85,Ykw),(78,Ybg),(84,Yk3)]
def F54:TFun:=⟨[],[],[.a Yq1,.c di],[.c (.p db)],qc [qn 4,qb,qn 24],[],[],0⟩
def Yk4:=mkC Yvx prog 54 F54
theorem ok54:Yk4.ok prog 54:=mkO ⟨Ypx,Yvt,Ypy,ok84,trivial⟩
def Zjt (a0:Yy1)(a1:Int):Option (Bool×Unit):=Yk4.fn (a0,a1,())
theorem Zxm a0 a1:Eq (Zjt a0 a1) <| ix a0.2.2.2.2.2.2.2.2.2.2.2.2.1 a1 fun e0=>(Qe (a0.2.2.2.2.2.2.2.2.2.2.1,a0.2.2.2.2.2.2.2.2.2.2.2.1,()) a1).bind fun e1=>(Zhz a0 e1.1).bind fun e2=>(Xj (a0.2.2.2.2.2.2.2.2.2.2.1,a0.2.2.2.2.2.2.2.2.2.2.2.1,()) a1).bind fun e3=>(Zhz a0 e3.1).bind fun e4=>(Zjs e0 e2.1 e4.1).bind fun e5=>some (e5.1,()):=mkE
def Yvy:Tb:=[(53,Ykz),(54,Yk4)]
def F15:TFun:=⟨[],[],[.a Yq1,.c di],[.c (.p db),.c (.p di)],qc [qn 4,qb,qi,qn 10],[],[],0⟩
def Yk5:=mkC Yvy prog 15 F15
theorem ok15:Yk5.ok prog 15:=mkO ⟨ok53,ok54,trivial⟩
def Zb4 (a0:Yy1)(a1:Int):Option (Bool×Int×Unit):=Yk5.fn (a0,a1,())
theorem Zxn a0 a1:Eq (Zb4 a0 a1) <| (Zxj a0 a1).bind fun e0=>bif e0.1 !=0 then some (false,e0.1,()) else (Zjt a0 a1).bind fun e1=>some (e1.1,0,()):=mkE
end
end Tg
