import Derived.Test.YtenldcjkpgmpnaaGreatDoorTSP
import Derived.Test.YtenldcjkpgmpnaaGreatDoorTVb3
import Derived.Test.YtenldcjkpgmpnaaGreatDoorTXb6
/- The reference's list of an operator's channels. -/
set_option linter.unusedVariables false
set_option linter.unusedSimpArgs false
namespace Tg
open Go
open Go.Abs (Zb Zf tmm)
end Tg

/- Functions of the code, told plainly and checked by the kernel. -/
set_option maxRecDepth 100000
namespace Tg
noncomputable section
open Go.Abs hiding fuel
open Go.Proofs.Tryz (prog)
open Int (ofNat toNat)
open Go.IntKind (wrap)
def Ynl:Tb:=[]
def F37:TFun:=⟨[],[(4,qc [qn 2,[.boxN 38 14 [.any,.any,.any,.any,.any,.any,.any,.any,.any,.any,.any,.any,.any,.p (.sl Yq2)]],qn 2,[.c (.rowN 88 2 Yq2)],qn 2,[.c (.p (.sl [.int .i64]))],qi,qi,qn 13])],[.a Yq1,.c (.sl [.int .i64])],[.c (.s 88 2 Yq2)],qc [qn 4,[.c (.rowN 88 2 Yq2)],qn 19],[],[],0⟩
def Z6a:=mkC Ynl prog 37 F37
theorem ok37:Z6a.ok prog 37:=mkO trivial
def Z2q:TCon:=⟨Z6a.args,[.c (.p (.sl Yq2))],Z6a.fn⟩
theorem Yhy:Z2q.ok prog 37:=TCon.frz (c:=Z6a) ok37 rfl
def Zcp (a0:Yy1)(a1:(List (Int×Unit))):Option (List Yy3×Unit):=Z6a.fn (a0,a1,())
def Zdd (n:Nat)(x0 x1:(List Yy3))(x2:(List (Int×Unit)))(x3 x4:Int):Option (List Yy3×Unit):=itr Ynl prog 37 F37 n 4 (x0,x1,x2,x3,x4,())
theorem Zxz a0 a1:Eq (Zcp a0 a1) <| Zdd fuel a0.2.2.2.2.2.2.2.2.2.2.2.2.2.1 ([]) a1 (ofNat a1.length) 0:=mkE
theorem Zlu n x0 x1 x2 x3 x4:Eq (Zdd (n+1) x0 x1 x2 x3 x4) <| bif x4<x3 then ix x2 x4 fun e0=>ix x0 e0.1 fun e1=>bif Zb (x1.length+List.length [e1]) 32 then Zdd n x0 (x1++[e1]) x2 x3 (wrap .i64 (x4+1)) else none else some (x1,()):=mkI
def Yhz:Tb:=[(95,Z5w),(38,Z2k),(72,Z2l)]
def F53:TFun:=⟨[6],[(6,qc [qn 2,[.boxN 38 14 [.any,.any,.any,.p db,.any,.any,.any,.any,.any,.p (.int .u8),.any,.any,.any,.any]],qn 2,[.boxN 61 9 [.p (.int .u8),.any,.any,.any,.p (.sl [.int .i64]),.any,.any,.any,.any]],qi,qi,qn 78]),(8,qc [qn 2,[.boxN 38 14 [.any,.any,.any,.p db,.any,.any,.any,.any,.any,.p (.int .u8),.any,.any,.any,.any]],qn 2,[.boxN 61 9 [.p (.int .u8),.any,.any,.any,.p (.sl [.int .i64]),.any,.any,.any,.any]],qi,qi,qn 33,[.c (.p (.sl Yq4))],qi,qi,qn 42])],[.a Yq1,.c di],[.c (.p db)],qc [qn 4,qb,qn 81],[],[],0⟩
def Yh0:=mkC Yhz prog 53 F53
theorem ok53:Yh0.ok prog 53:=mkO ⟨ok95,Yhp,Yhq,trivial⟩
def Zrf (a0:Yy1)(a1:Int):Option (Bool×Unit):=Yh0.fn (a0,a1,())
def Zp1 (n:Nat)(x0:Bool)(x1 x2:Int)(x3:(List (Int×Unit)))(x4 x5:Int):Option (Bool×Unit):=itr Yhz prog 53 F53 n 6 (x0,x1,x2,x3,x4,x5,())
def Zfi (n:Nat)(x0:Bool)(x1 x2:Int)(x3:(List (Int×Unit)))(x4 x5:Int)(x6:Yy5)(x7 x8:Int):Option (Bool×Unit):=itr Yhz prog 53 F53 n 8 (x0,x1,x2,x3,x4,x5,x6,x7,x8,())
theorem Z6b a0 a1:Eq (Zrf a0 a1) <| ix a0.2.2.2.2.2.2.2.2.2.2.2.2.1 a1 fun e0=>ix a0.2.2.2.2.2.2.2.2.2.2.1 a1 fun e1=>bif !(e0.1==e1.1&&(e0.2.1==e1.2.1&&true)) then some (false,()) else (Zar e0).bind fun e2=>bif e2.1 !=0 then some (false,()) else (Xl (a0.2.2.2.2.2.2.2.2.2.2.1,a0.2.2.2.2.2.2.2.2.2.2.2.1,()) a1).bind fun e3=>(Yy (a0.2.2.2.2.2.2.2.2.2.2.1,a0.2.2.2.2.2.2.2.2.2.2.2.1,()) a1).bind fun e4=>Zfi fuel a0.2.2.2.1 a0.2.2.2.2.2.2.2.2.2.1 e0.1 e0.2.2.2.2.1 (ofNat e3.1.length) (ofNat e4.1.length) e0.2.2.2.1 (ofNat e0.2.2.2.1.length) 0:=mkE
theorem Z2r n x0 x1 x2 x3 x4 x5:Eq (Zp1 (n+1) x0 x1 x2 x3 x4 x5) <| bif x2==2 then bif x1==2 then some (x5==2,()) else some (x5==1,()) else bif x2==4 then bif ofNat x3.length==x4 then some (!x0,()) else some (false,()) else bif x2==5 then bif x4==2 then some (x0,()) else some (false,()) else some (true,()):=mkI
theorem Zp2 n x0 x1 x2 x3 x4 x5 x6 x7 x8:Eq (Zfi (n+1) x0 x1 x2 x3 x4 x5 x6 x7 x8) <| bif x8<x7 then ix x6 x8 fun e0=>bif e0.1>=x5 then some (false,()) else Zfi n x0 x1 x2 x3 x4 x5 x6 x7 (wrap .i64 (x8+1)) else Zp1 n x0 x1 x2 x3 x4 x5:=mkI
def Ycd:Tb:=[(15,Zz6),(51,Yni),(52,Ybx),(53,Yh0)]
def F12:TFun:=⟨[7],[(7,qc [qn 1,[.boxN 38 14 [.p (.int .u8),.p (.sl Yq5),.p (.sl [.int .i64]),.p db,.p (.sl Yq5),.p (.int .u8),.p di,.p di,.p db,.p (.int .u8),.p (.sl [.int .u8,.int .i64]),.p (.sl Yq6),.p (.sl Yq3),.p (.sl Yq2)]],qn 75]),(9,qc [qn 1,[.boxN 38 14 [.p (.int .u8),.p (.sl Yq5),.p (.sl [.int .i64]),.p db,.p (.sl Yq5),.p (.int .u8),.p di,.p di,.p db,.p (.int .u8),.p (.sl [.int .u8,.int .i64]),.p (.sl Yq6),.p (.sl Yq3),.p (.sl Yq2)]],qn 41,[.c (.p (.sl Yq2))],qi,qi,qn 31]),(18,qc [qn 1,[.boxN 38 14 [.p (.int .u8),.p (.sl Yq5),.p (.sl [.int .i64]),.p db,.p (.sl Yq5),.p (.int .u8),.p di,.p di,.p db,.p (.int .u8),.p (.sl [.int .u8,.int .i64]),.p (.sl Yq6),.p (.sl Yq3),.p (.sl Yq2)]],qn 66,qi,qi,qn 7])],[.a Yq1],[.c (.p di)],qc [qn 2,qi,qn 74],[],[],0⟩
def Z6c:=mkC Ycd prog 12 F12
theorem ok12:Z6c.ok prog 12:=mkO ⟨ok15,ok51,ok52,ok53,trivial⟩
def Zd7 (a0:Yy1):Option (Int×Unit):=Z6c.fn (a0,())
def Znq (n:Nat)(x0:Int)(x1:Yy4)(x2:(List (Int×Unit)))(x3:Bool)(x4:Yy4)(x5 x6 x7:Int)(x8:Bool)(x9:Int)(x10:(List (Int×Int×Unit)))(x11:Yy4)(x12:(List Yy2))(x13:(List Yy3)):Option (Int×Unit):=itr Ycd prog 12 F12 n 7 (x0,x1,x2,x3,x4,x5,x6,x7,x8,x9,x10,x11,x12,x13,())
def Zej (n:Nat)(x0:Int)(x1:Yy4)(x2:(List (Int×Unit)))(x3:Bool)(x4:Yy4)(x5 x6 x7:Int)(x8:Bool)(x9:Int)(x10:(List (Int×Int×Unit)))(x11:Yy4)(x12:(List Yy2))(x13 x14:(List Yy3))(x15 x16:Int):Option (Int×Unit):=itr Ycd prog 12 F12 n 9 (x0,x1,x2,x3,x4,x5,x6,x7,x8,x9,x10,x11,x12,x13,x14,x15,x16,())
def Zde (n:Nat)(x0:Int)(x1:Yy4)(x2:(List (Int×Unit)))(x3:Bool)(x4:Yy4)(x5 x6 x7:Int)(x8:Bool)(x9:Int)(x10:(List (Int×Int×Unit)))(x11:Yy4)(x12:(List Yy2))(x13:(List Yy3))(x14 x15:Int):Option (Int×Unit):=itr Ycd prog 12 F12 n 18 (x0,x1,x2,x3,x4,x5,x6,x7,x8,x9,x10,x11,x12,x13,x14,x15,())
theorem Z2s a0:Eq (Zd7 a0) <| (Qv (a0.1,a0.2.1,a0.2.2.1,a0.2.2.2.1,a0.2.2.2.2.1,a0.2.2.2.2.2.1,a0.2.2.2.2.2.2.1,a0.2.2.2.2.2.2.2.1,a0.2.2.2.2.2.2.2.2.1,a0.2.2.2.2.2.2.2.2.2.1,())).bind fun e0=>bif e0.2.1 !=0 then some (8,()) else (Zbk (a0.2.2.2.2.2.2.2.2.2.2.1,a0.2.2.2.2.2.2.2.2.2.2.2.1,())).bind fun e1=>bif e1.1 !=0 then some (8,()) else bif ofNat a0.2.2.2.2.2.2.2.2.2.2.2.2.1.length !=ofNat a0.2.2.2.2.2.2.2.2.2.2.1.length then some (8,()) else bif ofNat a0.2.2.2.2.2.2.2.2.2.2.2.2.2.1.length !=ofNat a0.2.2.2.2.2.2.2.2.2.2.2.1.length then some (8,()) else Zej fuel a0.1 a0.2.1 a0.2.2.1 a0.2.2.2.1 a0.2.2.2.2.1 a0.2.2.2.2.2.1 a0.2.2.2.2.2.2.1 a0.2.2.2.2.2.2.2.1 a0.2.2.2.2.2.2.2.2.1 a0.2.2.2.2.2.2.2.2.2.1 a0.2.2.2.2.2.2.2.2.2.2.1 a0.2.2.2.2.2.2.2.2.2.2.2.1 a0.2.2.2.2.2.2.2.2.2.2.2.2.1 a0.2.2.2.2.2.2.2.2.2.2.2.2.2.1 a0.2.2.2.2.2.2.2.2.2.2.2.2.2.1 (ofNat a0.2.2.2.2.2.2.2.2.2.2.2.2.2.1.length) 0:=mkE
theorem Zx0 n x0 x1 x2 x3 x4 x5 x6 x7 x8 x9 x10 x11 x12 x13:Eq (Znq (n+1) x0 x1 x2 x3 x4 x5 x6 x7 x8 x9 x10 x11 x12 x13) <| Zde n x0 x1 x2 x3 x4 x5 x6 x7 x8 x9 x10 x11 x12 x13 (ofNat x12.length) 0:=mkI
theorem Znr n x0 x1 x2 x3 x4 x5 x6 x7 x8 x9 x10 x11 x12 x13 x14 x15 x16:Eq (Zej (n+1) x0 x1 x2 x3 x4 x5 x6 x7 x8 x9 x10 x11 x12 x13 x14 x15 x16) <| bif x16<x15 then ix x14 x16 fun e0=>ix x11 x16 fun e1=>bif e0.1 !=e1.2.2.2.2.1 then some (8,()) else (X4 e0).bind fun e2=>bif e2.1 !=0 then some (8,()) else Zej n x0 x1 x2 x3 x4 x5 x6 x7 x8 x9 x10 x11 x12 x13 x14 x15 (wrap .i64 (x16+1)) else Znq n x0 x1 x2 x3 x4 x5 x6 x7 x8 x9 x10 x11 x12 x13:=mkI
theorem Zlv n x0 x1 x2 x3 x4 x5 x6 x7 x8 x9 x10 x11 x12 x13 x14 x15:Eq (Zde (n+1) x0 x1 x2 x3 x4 x5 x6 x7 x8 x9 x10 x11 x12 x13 x14 x15) <| bif x15<x14 then (Zrf (x0,x1,x2,x3,x4,x5,x6,x7,x8,x9,x10,x11,x12,x13,()) x15).bind fun e0=>bif !e0.1 then some (8,()) else Zde n x0 x1 x2 x3 x4 x5 x6 x7 x8 x9 x10 x11 x12 x13 x14 (wrap .i64 (x15+1)) else some (0,()):=mkI
def Ysz:Tb:=[(12,Z6c)]
def F33:TFun:=⟨[],[],[.a Yq1,.c di],[.c (.p di)],qc [qn 4,qi,qn 15],[],[],0⟩
def Yh1:=mkC Ysz prog 33 F33
theorem ok33:Yh1.ok prog 33:=mkO ⟨ok12,trivial⟩
def Ziz (a0:Yy1)(a1:Int):Option (Int×Unit):=Yh1.fn (a0,a1,())
theorem Zp3 a0 a1:Eq (Ziz a0 a1) <| (Zd7 a0).bind fun e0=>bif e0.1 !=0 then some (e0.1,()) else bif a1<0 then some (51,()) else bif a1>=ofNat a0.2.2.2.2.2.2.2.2.2.2.2.2.1.length then some (51,()) else some (0,()):=mkE
end
end Tg
