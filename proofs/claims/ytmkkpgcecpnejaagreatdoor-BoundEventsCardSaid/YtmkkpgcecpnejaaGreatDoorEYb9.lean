import Derived.Test.YtmkkpgcecpnejaaGreatDoorESP
import Derived.Test.YtmkkpgcecpnejaaGreatDoorEVb3
import Derived.Test.YtmkkpgcecpnejaaGreatDoorEXb6
/- The reference's list of an operator's channels. -/
set_option linter.unusedVariables false
set_option linter.unusedSimpArgs false
namespace Tg
open Go
open Go.Abs (Zc Zh tmm)
end Tg

/- Functions of the code, told plainly and checked by the kernel. -/
set_option maxRecDepth 100000
namespace Tg
noncomputable section
open Go.Abs hiding fuel
open Go.Proofs.Tryz (prog)
open Int (ofNat toNat)
open Go.IntKind (wrap)
def Yd6:Tb:=[(76,Yc3),(77,Yd2),(78,Yd3)]
def F58:TFun:=⟨[6],[(6,qc [qn 2,[.boxN 44 14 [.any,.any,.any,.p db,.any,.any,.any,.any,.any,.p (.int .u8),.any,.any,.any,.any]],qn 2,[.boxN 81 9 [.p (.int .u8),.any,.any,.any,.p (.sl [.int .i64]),.any,.any,.any,.any]],qi,qi,qn 78]),(8,qc [qn 2,[.boxN 44 14 [.any,.any,.any,.p db,.any,.any,.any,.any,.any,.p (.int .u8),.any,.any,.any,.any]],qn 2,[.boxN 81 9 [.p (.int .u8),.any,.any,.any,.p (.sl [.int .i64]),.any,.any,.any,.any]],qi,qi,qn 33,[.c (.p (.sl [.int .i64,.int .u8,.int .i64,.int .i64,.int .i64,.int .i64,.int .i64,.int .i64,.int .i64,.int .i64,.int .i64]))],qi,qi,qn 42])],[.a Yq2,.c di],[.c (.p db)],qc [qn 4,qb,qn 81],[],[],0⟩
def Yd7:=mkC Yd6 prog 58 F58
theorem ok58:Yd7.ok prog 58:=mkO ⟨ok76,Ymy,Ymz,trivial⟩
def Zpc (a0:Yy2)(a1:Int):Option (Bool×Unit):=Yd7.fn (a0,a1,())
def Zny (n:Nat)(x0:Bool)(x1 x2:Int)(x3:(List (Int×Unit)))(x4 x5:Int):Option (Bool×Unit):=itr Yd6 prog 58 F58 n 6 (x0,x1,x2,x3,x4,x5,())
def Zek (n:Nat)(x0:Bool)(x1 x2:Int)(x3:(List (Int×Unit)))(x4 x5:Int)(x6:(List (Int×Int×Int×Int×Int×Int×Int×Int×Int×Int×Int×Unit)))(x7 x8:Int):Option (Bool×Unit):=itr Yd6 prog 58 F58 n 8 (x0,x1,x2,x3,x4,x5,x6,x7,x8,())
theorem Z28 a0 a1:Eq (Zpc a0 a1) <| ix a0.2.2.2.2.2.2.2.2.2.2.2.2.1 a1 fun e0=>ix a0.2.2.2.2.2.2.2.2.2.2.1 a1 fun e1=>bif !(e0.1==e1.1&&(e0.2.1==e1.2.1&&true)) then some (false,()) else (Zhm e0).bind fun e2=>bif e2.1 !=0 then some (false,()) else (Zag (a0.2.2.2.2.2.2.2.2.2.2.1,a0.2.2.2.2.2.2.2.2.2.2.2.1,()) a1).bind fun e3=>(Qq (a0.2.2.2.2.2.2.2.2.2.2.1,a0.2.2.2.2.2.2.2.2.2.2.2.1,()) a1).bind fun e4=>Zek fuel a0.2.2.2.1 a0.2.2.2.2.2.2.2.2.2.1 e0.1 e0.2.2.2.2.1 (ofNat e3.1.length) (ofNat e4.1.length) e0.2.2.2.1 (ofNat e0.2.2.2.1.length) 0:=mkE
theorem Zzu n x0 x1 x2 x3 x4 x5:Eq (Zny (n+1) x0 x1 x2 x3 x4 x5) <| bif x2==2 then bif x1==2 then some (x5==2,()) else some (x5==1,()) else bif x2==4 then bif ofNat x3.length==x4 then some (!x0,()) else some (false,()) else bif x2==5 then bif x4==2 then some (x0,()) else some (false,()) else some (true,()):=mkI
theorem Znz n x0 x1 x2 x3 x4 x5 x6 x7 x8:Eq (Zek (n+1) x0 x1 x2 x3 x4 x5 x6 x7 x8) <| bif x8<x7 then ix x6 x8 fun e0=>bif e0.1>=x5 then some (false,()) else Zek n x0 x1 x2 x3 x4 x5 x6 x7 (wrap .i64 (x8+1)) else Zny n x0 x1 x2 x3 x4 x5:=mkI
def Z8o:Tb:=[(15,Zxo),(56,Ydt),(57,Ycv),(58,Yd7)]
def F33:TFun:=⟨[7],[(7,qc [qn 1,[.boxN 44 14 [.p (.int .u8),.p (.sl Yq4),.p (.sl [.int .i64]),.p db,.p (.sl Yq4),.p (.int .u8),.p di,.p di,.p db,.p (.int .u8),.p (.sl [.int .u8,.int .i64]),.p (.sl Yq5),.p (.sl Yq1),.p (.sl Yq3)]],qn 75]),(9,qc [qn 1,[.boxN 44 14 [.p (.int .u8),.p (.sl Yq4),.p (.sl [.int .i64]),.p db,.p (.sl Yq4),.p (.int .u8),.p di,.p di,.p db,.p (.int .u8),.p (.sl [.int .u8,.int .i64]),.p (.sl Yq5),.p (.sl Yq1),.p (.sl Yq3)]],qn 41,[.c (.p (.sl Yq3))],qi,qi,qn 31]),(18,qc [qn 1,[.boxN 44 14 [.p (.int .u8),.p (.sl Yq4),.p (.sl [.int .i64]),.p db,.p (.sl Yq4),.p (.int .u8),.p di,.p di,.p db,.p (.int .u8),.p (.sl [.int .u8,.int .i64]),.p (.sl Yq5),.p (.sl Yq1),.p (.sl Yq3)]],qn 66,qi,qi,qn 7])],[.a Yq2],[.c (.p di)],qc [qn 2,qi,qn 74],[],[],0⟩
def Yd8:=mkC Z8o prog 33 F33
theorem ok33:Yd8.ok prog 33:=mkO ⟨ok15,ok56,ok57,ok58,trivial⟩
def Zc8 (a0:Yy2):Option (Int×Unit):=Yd8.fn (a0,())
def Zlz (n:Nat)(x0:Int)(x1:Yy3)(x2:(List (Int×Unit)))(x3:Bool)(x4:Yy3)(x5 x6 x7:Int)(x8:Bool)(x9:Int)(x10:(List (Int×Int×Unit)))(x11:Yy3)(x12:(List Yy1))(x13:Yy4):Option (Int×Unit):=itr Z8o prog 33 F33 n 7 (x0,x1,x2,x3,x4,x5,x6,x7,x8,x9,x10,x11,x12,x13,())
def Zdl (n:Nat)(x0:Int)(x1:Yy3)(x2:(List (Int×Unit)))(x3:Bool)(x4:Yy3)(x5 x6 x7:Int)(x8:Bool)(x9:Int)(x10:(List (Int×Int×Unit)))(x11:Yy3)(x12:(List Yy1))(x13 x14:Yy4)(x15 x16:Int):Option (Int×Unit):=itr Z8o prog 33 F33 n 9 (x0,x1,x2,x3,x4,x5,x6,x7,x8,x9,x10,x11,x12,x13,x14,x15,x16,())
def Zcj (n:Nat)(x0:Int)(x1:Yy3)(x2:(List (Int×Unit)))(x3:Bool)(x4:Yy3)(x5 x6 x7:Int)(x8:Bool)(x9:Int)(x10:(List (Int×Int×Unit)))(x11:Yy3)(x12:(List Yy1))(x13:Yy4)(x14 x15:Int):Option (Int×Unit):=itr Z8o prog 33 F33 n 18 (x0,x1,x2,x3,x4,x5,x6,x7,x8,x9,x10,x11,x12,x13,x14,x15,())
theorem Zzv a0:Eq (Zc8 a0) <| (Qo (a0.1,a0.2.1,a0.2.2.1,a0.2.2.2.1,a0.2.2.2.2.1,a0.2.2.2.2.2.1,a0.2.2.2.2.2.2.1,a0.2.2.2.2.2.2.2.1,a0.2.2.2.2.2.2.2.2.1,a0.2.2.2.2.2.2.2.2.2.1,())).bind fun e0=>bif e0.2.1 !=0 then some (8,()) else (Qp (a0.2.2.2.2.2.2.2.2.2.2.1,a0.2.2.2.2.2.2.2.2.2.2.2.1,())).bind fun e1=>bif e1.1 !=0 then some (8,()) else bif ofNat a0.2.2.2.2.2.2.2.2.2.2.2.2.1.length !=ofNat a0.2.2.2.2.2.2.2.2.2.2.1.length then some (8,()) else bif ofNat a0.2.2.2.2.2.2.2.2.2.2.2.2.2.1.length !=ofNat a0.2.2.2.2.2.2.2.2.2.2.2.1.length then some (8,()) else Zdl fuel a0.1 a0.2.1 a0.2.2.1 a0.2.2.2.1 a0.2.2.2.2.1 a0.2.2.2.2.2.1 a0.2.2.2.2.2.2.1 a0.2.2.2.2.2.2.2.1 a0.2.2.2.2.2.2.2.2.1 a0.2.2.2.2.2.2.2.2.2.1 a0.2.2.2.2.2.2.2.2.2.2.1 a0.2.2.2.2.2.2.2.2.2.2.2.1 a0.2.2.2.2.2.2.2.2.2.2.2.2.1 a0.2.2.2.2.2.2.2.2.2.2.2.2.2.1 a0.2.2.2.2.2.2.2.2.2.2.2.2.2.1 (ofNat a0.2.2.2.2.2.2.2.2.2.2.2.2.2.1.length) 0:=mkE
theorem Zvp n x0 x1 x2 x3 x4 x5 x6 x7 x8 x9 x10 x11 x12 x13:Eq (Zlz (n+1) x0 x1 x2 x3 x4 x5 x6 x7 x8 x9 x10 x11 x12 x13) <| Zcj n x0 x1 x2 x3 x4 x5 x6 x7 x8 x9 x10 x11 x12 x13 (ofNat x12.length) 0:=mkI
theorem Zl0 n x0 x1 x2 x3 x4 x5 x6 x7 x8 x9 x10 x11 x12 x13 x14 x15 x16:Eq (Zdl (n+1) x0 x1 x2 x3 x4 x5 x6 x7 x8 x9 x10 x11 x12 x13 x14 x15 x16) <| bif x16<x15 then ix x14 x16 fun e0=>ix x11 x16 fun e1=>bif e0.1 !=e1.2.2.2.2.1 then some (8,()) else (Zgk e0).bind fun e2=>bif e2.1 !=0 then some (8,()) else Zdl n x0 x1 x2 x3 x4 x5 x6 x7 x8 x9 x10 x11 x12 x13 x14 x15 (wrap .i64 (x16+1)) else Zlz n x0 x1 x2 x3 x4 x5 x6 x7 x8 x9 x10 x11 x12 x13:=mkI
theorem Zke n x0 x1 x2 x3 x4 x5 x6 x7 x8 x9 x10 x11 x12 x13 x14 x15:Eq (Zcj (n+1) x0 x1 x2 x3 x4 x5 x6 x7 x8 x9 x10 x11 x12 x13 x14 x15) <| bif x15<x14 then (Zpc (x0,x1,x2,x3,x4,x5,x6,x7,x8,x9,x10,x11,x12,x13,()) x15).bind fun e0=>bif !e0.1 then some (8,()) else Zcj n x0 x1 x2 x3 x4 x5 x6 x7 x8 x9 x10 x11 x12 x13 x14 (wrap .i64 (x15+1)) else some (0,()):=mkI
end
end Tg
