import Derived.Test.YtmkhomfchbmkfaaGreatDoorVQz1
import Derived.Test.YtmkhomfchbmkfaaGreatDoorVAL
import Derived.Test.YtmkhomfchbmkfaaGreatDoorVYb10
import Derived.Test.YtmkhomfchbmkfaaGreatDoorVYb8
/- Functions of the code, told plainly and checked by the kernel. -/
set_option linter.unusedVariables false
set_option linter.unusedSimpArgs false
set_option maxRecDepth 100000
namespace Tg
noncomputable section
open Go.Abs hiding fuel
open Go.Proofs.Tryz (prog)
open Int (ofNat toNat)
open Go.IntKind (wrap)
def Yqf:Tb:=[]
def F39:TFun:=⟨[],[(6,qc [[.c (.p (.sl [.int .u8,.int .i64]))],[.c (.p (.sl [.int .u8,.int .i64]))],qn 10,qi,qi,qn 12])],[.c (.sl [.int .u8,.int .i64]),.c (.sl [.int .u8,.int .i64])],[.c (.p db)],qc [qn 4,qb,qn 21],[],[],0⟩
def Yl8:=mkC Yqf prog 39 F39
theorem ok39:Yl8.ok prog 39:=mkO trivial
def Yk (a0 a1:(List (Int×Int×Unit))):Option (Bool×Unit):=Yl8.fn (a0,a1,())
def Yd (n:Nat)(x0 x1:(List (Int×Int×Unit)))(x2 x3:Int):Option (Bool×Unit):=itr Yqf prog 39 F39 n 6 (x0,x1,x2,x3,())
theorem Zd7 a0 a1:Eq (Yk a0 a1) <| bif ofNat a0.length !=ofNat a1.length then some (false,()) else Yd fuel a0 a1 (ofNat a0.length) 0:=mkE
theorem Q9 n x0 x1 x2 x3:Eq (Yd (n+1) x0 x1 x2 x3) <| bif x3<x2 then ix x0 x3 fun e0=>ix x1 x3 fun e1=>bif !(e0.1==e1.1&&(e0.2.1==e1.2.1&&true)) then some (false,()) else Yd n x0 x1 x2 (wrap .i64 (x3+1)) else some (true,()):=mkI
def Yqg:Tb:=[]
def F40:TFun:=⟨[],[(6,qc [[.c (.p (.sl Nq6))],[.c (.p (.sl Nq6))],qn 10,qi,qi,qn 12])],[.c (.sl Nq6),.c (.sl Nq6)],[.c (.p db)],qc [qn 4,qb,qn 21],[],[],0⟩
def Yl9:=mkC Yqg prog 40 F40
theorem ok40:Yl9.ok prog 40:=mkO trivial
def Zp (a0 a1:Ny6):Option (Bool×Unit):=Yl9.fn (a0,a1,())
def Zm (n:Nat)(x0 x1:Ny6)(x2 x3:Int):Option (Bool×Unit):=itr Yqg prog 40 F40 n 6 (x0,x1,x2,x3,())
theorem Zba a0 a1:Eq (Zp a0 a1) <| bif ofNat a0.length !=ofNat a1.length then some (false,()) else Zm fuel a0 a1 (ofNat a0.length) 0:=mkE
theorem Y0 n x0 x1 x2 x3:Eq (Zm (n+1) x0 x1 x2 x3) <| bif x3<x2 then ix x0 x3 fun e0=>ix x1 x3 fun e1=>bif !(e0.1==e1.1&&(e0.2.1==e1.2.1&&(e0.2.2.1==e1.2.2.1&&(e0.2.2.2.1==e1.2.2.2.1&&(e0.2.2.2.2.1==e1.2.2.2.2.1&&true))))) then some (false,()) else Zm n x0 x1 x2 (wrap .i64 (x3+1)) else some (true,()):=mkI
def Yqh:Tb:=[]
def F70:TFun:=⟨[],[(6,qc [[.c (.p (.sl [.int .i64]))],[.c (.p (.sl [.int .i64]))],qn 10,qi,qi,qn 12])],[.c (.sl [.int .i64]),.c (.sl [.int .i64])],[.c (.p db)],qc [qn 4,qb,qn 21],[],[],0⟩
def Yma:=mkC Yqh prog 70 F70
theorem ok70:Yma.ok prog 70:=mkO trivial
def X6 (a0 a1:(List (Int×Unit))):Option (Bool×Unit):=Yma.fn (a0,a1,())
def Yg (n:Nat)(x0 x1:(List (Int×Unit)))(x2 x3:Int):Option (Bool×Unit):=itr Yqh prog 70 F70 n 6 (x0,x1,x2,x3,())
theorem Zff a0 a1:Eq (X6 a0 a1) <| bif ofNat a0.length !=ofNat a1.length then some (false,()) else Yg fuel a0 a1 (ofNat a0.length) 0:=mkE
theorem Zaz n x0 x1 x2 x3:Eq (Yg (n+1) x0 x1 x2 x3) <| bif x3<x2 then ix x0 x3 fun e0=>ix x1 x3 fun e1=>bif e0.1 !=e1.1 then some (false,()) else Yg n x0 x1 x2 (wrap .i64 (x3+1)) else some (true,()):=mkI
def Yqi:Tb:=[]
def F71:TFun:=⟨[],[(6,qc [[.c (.p (.sl Nq3))],[.c (.p (.sl Nq3))],qn 10,qi,qi,qn 12])],[.c (.sl Nq3),.c (.sl Nq3)],[.c (.p db)],qc [qn 4,qb,qn 21],[],[],0⟩
def Ymb:=mkC Yqi prog 71 F71
theorem ok71:Ymb.ok prog 71:=mkO trivial
def Yo (a0 a1:(List Ny7)):Option (Bool×Unit):=Ymb.fn (a0,a1,())
def Zw (n:Nat)(x0 x1:(List Ny7))(x2 x3:Int):Option (Bool×Unit):=itr Yqi prog 71 F71 n 6 (x0,x1,x2,x3,())
theorem Zb5 a0 a1:Eq (Yo a0 a1) <| bif ofNat a0.length !=ofNat a1.length then some (false,()) else Zw fuel a0 a1 (ofNat a0.length) 0:=mkE
theorem Xo n x0 x1 x2 x3:Eq (Zw (n+1) x0 x1 x2 x3) <| bif x3<x2 then ix x0 x3 fun e0=>ix x1 x3 fun e1=>bif !(e0.1==e1.1&&(e0.2.1==e1.2.1&&(e0.2.2.1==e1.2.2.1&&(e0.2.2.2.1==e1.2.2.2.1&&(e0.2.2.2.2.1==e1.2.2.2.2.1&&true))))) then some (false,()) else Zw n x0 x1 x2 (wrap .i64 (x3+1)) else some (true,()):=mkI
def Ywp:Tb:=[(70,Yma),(71,Ymb)]
def F43:TFun:=⟨[],[],[.a Nq1,.a Nq1],[.c (.p db)],qc [qn 4,qb,qn 44],[],[],0⟩
def Ymc:=mkC Ywp prog 43 F43
theorem ok43:Ymc.ok prog 43:=mkO ⟨ok70,ok71,trivial⟩
def Zng (a0 a1:Ny1):Option (Bool×Unit):=Ymc.fn (a0,a1,())
theorem Zz7 a0 a1:Eq (Zng a0 a1) <| let k1:=some (false,());bif a0.1==a1.1&&(a0.2.1==a1.2.1&&true) then bif a0.2.2.1==a1.2.2.1 then bif wrap .i64 (wrap .i64 (wrap .i64 (ofNat a0.2.2.2.1.length+ofNat a0.2.2.2.2.2.1.length)+ofNat a0.2.2.2.2.2.2.2.1.length)+ofNat a0.2.2.2.2.2.2.2.2.1.length)==0 then (X6 a0.2.2.2.2.1 a1.2.2.2.2.1).bind fun e0=>bif e0.1 then (Yo a0.2.2.2.2.2.2.1 a1.2.2.2.2.2.2.1).bind fun e1=>some (e1.1,()) else k1 else k1 else k1 else k1:=mkE
def Yqj:Tb:=[(67,Ylo)]
def F38:TFun:=⟨[],[(4,qc [qn 3,[.c (.rowN 65 1 [.sl Nq3])],qn 3,[.c (.p (.sl Nq1))],qi,qi,qn 15])],[.a Nq2],[.c (.s 65 1 [.sl Nq3])],qc [qn 2,[.c (.rowN 65 1 [.sl Nq3])],qn 22],[],[],0⟩
def Z8s:=mkC Yqj prog 38 F38
theorem ok38:Z8s.ok prog 38:=mkO ⟨Yv4,trivial⟩
def Yb9:TCon:=⟨Z8s.args,[.c (.p (.sl [.sl Nq3]))],Z8s.fn⟩
theorem Yqk:Yb9.ok prog 38:=TCon.frz (c:=Z8s) ok38 rfl
def Zfg (a0:Ny2):Option (List Ny4×Unit):=Z8s.fn (a0,())
def Zbw (n:Nat)(x0:(List Ny4))(x1:(List Ny1))(x2 x3:Int):Option (List Ny4×Unit):=itr Yqj prog 38 F38 n 4 (x0,x1,x2,x3,())
theorem Zz8 a0:Eq (Zfg a0) <| Zbw fuel ([]) a0.2.2.2.2.2.2.2.2.2.2.2.2.1 (ofNat a0.2.2.2.2.2.2.2.2.2.2.2.2.1.length) 0:=mkE
theorem Znh n x0 x1 x2 x3:Eq (Zbw (n+1) x0 x1 x2 x3) <| bif x3<x2 then ix x1 x3 fun e0=>bif e0.1==1 then (Zf 40 e0.2.2.2.2.2.2.1).bind fun e1=>bif Zb (x0.length+List.length [(e1.1,())]) 24 then Zbw n (x0++[(e1.1,())]) x1 x2 (wrap .i64 (x3+1)) else none else Zbw n x0 x1 x2 (wrap .i64 (x3+1)) else some (x0,()):=mkI
def Ywq:Tb:=[(11,Z17),(38,Yb9)]
def F10:TFun:=⟨[],[],[.a Nq2],[.c (.p (.sl [.sl Nq3])),.c (.p di)],qc [qn 2,[.c (.p (.sl [.sl Nq3]))],qi,qn 8],[],[],0⟩
def Ymd:=mkC Ywq prog 10 F10
theorem ok10:Ymd.ok prog 10:=mkO ⟨ok11,Yqk,trivial⟩
def Zni (a0:Ny2):Option (List Ny4×Int×Unit):=Ymd.fn (a0,())
theorem Zz9 a0:Eq (Zni a0) <| (Zcz a0).bind fun e0=>bif e0.1 !=0 then some ([],e0.1,()) else (Zfg a0).bind fun e1=>some (e1.1,0,()):=mkE
def Yme:Tb:=[]
def F13:TFun:=⟨[],[(6,qc [[.c (.p (.sl [.sl Nq3]))],[.c (.p (.sl [.sl Nq3]))],qn 3,qi,qn 47]),(14,qc [[.c (.p (.sl [.sl Nq3]))],[.c (.p (.sl [.sl Nq3]))],qn 3,qi,qi,qn 46])],[.c (.sl [.sl Nq3]),.c (.sl [.sl Nq3])],[.c (.p db)],qc [qn 4,qb,qn 48],[],[],0⟩
def Ymf:=mkC Yme prog 13 F13
theorem ok13:Ymf.ok prog 13:=mkO trivial
def Zco (a0 a1:(List Ny4)):Option (Bool×Unit):=Ymf.fn (a0,a1,())
def Qn (n:Nat)(x0 x1:(List Ny4))(x2:Int):Option (Bool×Unit):=itr Yme prog 13 F13 n 6 (x0,x1,x2,())
def Zak (n:Nat)(x0 x1:(List Ny4))(x2 x3:Int):Option (Bool×Unit):=itr Yme prog 13 F13 n 14 (x0,x1,x2,x3,())
theorem Zrd a0 a1:Eq (Zco a0 a1) <| bif ofNat a0.length !=ofNat a1.length then some (false,()) else Qn fuel a0 a1 0:=mkE
theorem Zhc n x0 x1 x2:Eq (Qn (n+1) x0 x1 x2) <| bif x2<ofNat x0.length then ix x0 x2 fun e0=>ix x1 x2 fun e1=>bif ofNat e0.1.length !=ofNat e1.1.length then some (false,()) else Zak n x0 x1 x2 0 else some (true,()):=mkI
theorem Zft n x0 x1 x2 x3:Eq (Zak (n+1) x0 x1 x2 x3) <| ix x0 x2 fun e0=>bif x3<ofNat e0.1.length then ix x0 x2 fun e1=>ix e1.1 x3 fun e2=>ix x1 x2 fun e3=>ix e3.1 x3 fun e4=>bif !(e2.1==e4.1&&(e2.2.1==e4.2.1&&(e2.2.2.1==e4.2.2.1&&(e2.2.2.2.1==e4.2.2.2.1&&(e2.2.2.2.2.1==e4.2.2.2.2.1&&true))))) then some (false,()) else Zak n x0 x1 x2 (wrap .i64 (x3+1)) else Qn n x0 x1 (wrap .i64 (x2+1)):=mkI
def tab9:Tb:=[(11,Z17),(38,Yb9),(6,Yl2),(39,Yl8),(40,Yl9),(43,Ymc)]
def F9:TFun:=⟨[22],[(8,qc [qn 1,[.boxN 38 14 [.p (.int .u8),.p (.sl Nq7),.p (.sl [.int .i64]),.p db,.p (.sl Nq7),.p (.int .u8),.p di,.p di,.p db,.p (.int .u8),.p (.sl [.int .u8,.int .i64]),.p (.sl Nq6),.p (.sl Nq1),.p (.sl Nq5)]],qn 3,qi,qn 58]),(13,qc [qn 1,[.boxN 38 14 [.p (.int .u8),.p (.sl Nq7),.p (.sl [.int .i64]),.p db,.p (.sl Nq7),.p (.int .u8),.p di,.p di,.p db,.p (.int .u8),.p (.sl [.int .u8,.int .i64]),.p (.sl Nq6),.p (.sl Nq1),.p (.sl Nq5)]],qn 3,qi,qi,qn 57]),(22,qc [qn 1,[.boxN 38 14 [.any,.any,.any,.any,.any,.any,.any,.any,.any,.any,.any,.any,.any,.p (.sl Nq5)]],qn 62]),(31,qc [qn 1,[.c (.p (.sl Nq1))],[.c (.fn 42 [])],qn 12,[.c (.p (.sl Nq1))],qi,qi,qn 15,[.boxN 38 14 [.any,.any,.any,.any,.any,.any,.any,.any,.any,.any,.any,.any,.any,.p (.sl Nq5)]],qn 62]),(53,qc [[.c (.p (.sl Nq5))],[.c (.fn 45 [])],qn 5,qi,qi,qn 83])],[.a Nq2],[.c (.p db),.c (.p di)],qc [qn 2,qb,qi,qn 60],[(59,[45]),(49,[72]),(46,[44]),(38,[42]),(24,[41])],[(31,[64]),(53,[9,64])],8⟩
def con9:=mkC tab9 prog 9 F9
theorem ok9:con9.ok prog 9:=mkO ⟨ok11,Yqk,ok6p,ok39,ok40,ok43,trivial⟩
def Zh3 (a0:Ny2):Option (Bool×Int×Unit):=con9.fn (a0,())
def Zbx (n:Nat)(x0:Int)(x1:Ny6)(x2:(List (Int×Unit)))(x3:Bool)(x4:Ny6)(x5 x6 x7:Int)(x8:Bool)(x9:Int)(x10:(List (Int×Int×Unit)))(x11:Ny6)(x12:(List Ny1))(x13:Ny5)(x14:Int):Option (Bool×Int×Unit):=itr tab9 prog 9 F9 n 8 (x0,x1,x2,x3,x4,x5,x6,x7,x8,x9,x10,x11,x12,x13,x14,())
def Zbb (n:Nat)(x0:Int)(x1:Ny6)(x2:(List (Int×Unit)))(x3:Bool)(x4:Ny6)(x5 x6 x7:Int)(x8:Bool)(x9:Int)(x10:(List (Int×Int×Unit)))(x11:Ny6)(x12:(List Ny1))(x13:Ny5)(x14 x15:Int):Option (Bool×Int×Unit):=itr tab9 prog 9 F9 n 13 (x0,x1,x2,x3,x4,x5,x6,x7,x8,x9,x10,x11,x12,x13,x14,x15,())
def Zfq (n:Nat)(x0:Ny5):Option (Bool×Int×Unit):=itr tab9 prog 9 F9 n 22 (x0,())
def Zbc (n:Nat)(x0 x1:(List Ny1))(x2 x3:Int)(x4:Ny5):Option (Bool×Int×Unit):=itr tab9 prog 9 F9 n 31 (x0,x1,x2,x3,x4,())
def Zcp (n:Nat)(x0:Ny5)(x1 x2:Int):Option (Bool×Int×Unit):=itr tab9 prog 9 F9 n 53 (x0,x1,x2,())
theorem Z0a a0:Eq (Zh3 a0) <| (Zcz a0).bind fun e0=>bif e0.1 !=0 then some (false,e0.1,()) else Zbx fuel a0.1 a0.2.1 a0.2.2.1 a0.2.2.2.1 a0.2.2.2.2.1 a0.2.2.2.2.2.1 a0.2.2.2.2.2.2.1 a0.2.2.2.2.2.2.2.1 a0.2.2.2.2.2.2.2.2.1 a0.2.2.2.2.2.2.2.2.2.1 a0.2.2.2.2.2.2.2.2.2.2.1 a0.2.2.2.2.2.2.2.2.2.2.2.1 a0.2.2.2.2.2.2.2.2.2.2.2.2.1 a0.2.2.2.2.2.2.2.2.2.2.2.2.2.1 1:=mkE
theorem Znj n x0 x1 x2 x3 x4 x5 x6 x7 x8 x9 x10 x11 x12 x13 x14:Eq (Zbx (n+1) x0 x1 x2 x3 x4 x5 x6 x7 x8 x9 x10 x11 x12 x13 x14) <| bif x14<=3 then Zbb n x0 x1 x2 x3 x4 x5 x6 x7 x8 x9 x10 x11 x12 x13 x14 1 else some (false,0,()):=mkI
theorem Zcq n x0 x1 x2 x3 x4 x5 x6 x7 x8 x9 x10 x11 x12 x13 x14 x15:Eq (Zbb (n+1) x0 x1 x2 x3 x4 x5 x6 x7 x8 x9 x10 x11 x12 x13 x14 x15) <| bif x15<=8 then (Zfg (x0,x1,x2,x3,x4,x5,x6,x7,x8,x9,x10,x11,x12,x13,())).bind fun e0=>(Zc5 (x0,x1,x2,x3,x4,x5,x6,x7,x8,x9,()) e0.1 x14 x15).bind fun e1=>let k1:=Zbb n x0 x1 x2 x3 x4 x5 x6 x7 x8 x9 x10 x11 x12 x13 x14 (wrap .i64 (x15+1));bif e1.2.1 !=0 then k1 else (Yk e1.1.2.2.2.2.2.2.2.2.2.2.1 x10).bind fun e2=>bif !e2.1 then k1 else (Zp e1.1.2.2.2.2.2.2.2.2.2.2.2.1 x11).bind fun e3=>bif !e3.1 then k1 else bif ofNat e1.1.2.2.2.2.2.2.2.2.2.2.2.2.1.length !=ofNat x12.length then some (false,0,()) else Zbc n x12 e1.1.2.2.2.2.2.2.2.2.2.2.2.2.1 (ofNat e1.1.2.2.2.2.2.2.2.2.2.2.2.2.1.length) 0 x13 else Zbx n x0 x1 x2 x3 x4 x5 x6 x7 x8 x9 x10 x11 x12 x13 (wrap .i64 (x14+1)):=mkI
theorem Ztz n x0:Eq (Zfq (n+1) x0) <| Zcp n x0 (ofNat x0.length) 0:=mkI
theorem Zky n x0 x1 x2 x3 x4:Eq (Zbc (n+1) x0 x1 x2 x3 x4) <| bif x3<x2 then ix x1 x3 fun e0=>ix x0 x3 fun e1=>(Zng e1 e0).bind fun e2=>bif !e2.1 then some (false,0,()) else Zbc n x0 x1 x2 (wrap .i64 (x3+1)) x4 else Zfq n x4:=mkI
theorem Zkz n x0 x1 x2:Eq (Zcp (n+1) x0 x1 x2) <| bif x2<x1 then ix x0 x2 fun e0=>bif ofNat e0.2.1.length>0 then some (!decide (x2>=0),0,()) else Zcp n x0 x1 (wrap .i64 (x2+1)) else some (true,0,()):=mkI
end
end Tg

/- Functions of the code, told plainly and checked by the kernel. -/
namespace Tg
noncomputable section
open Go.Abs hiding fuel
open Go.Proofs.Tryz (prog)
open Int (ofNat toNat)
open Go.IntKind (wrap)
def Ywr:Tb:=[]
def F87:TFun:=⟨[],[],[.c (.sl Nq7)],[.c (.p db)],qc [qn 2,qb,qn 3],[],[],0⟩
def Ymg:=mkC Ywr prog 87 F87
theorem ok87:Ymg.ok prog 87:=mkO trivial
def Znk (a0:Ny6):Option (Bool×Unit):=Ymg.fn (a0,())
theorem Zcf a0:Eq (Znk a0) <| some (decide (ofNat a0.length>70),()):=mkE
def Yws:Tb:=[(87,Ymg)]
def F56:TFun:=⟨[],[],[.a Nq4],[.c (.p db)],qc [qn 2,qb,qn 14],[],[],0⟩
def Ymh:=mkC Yws prog 56 F56
theorem ok56:Ymh.ok prog 56:=mkO ⟨ok87,trivial⟩
def Znl (a0:Ny3):Option (Bool×Unit):=Ymh.fn (a0,())
theorem Z0b a0:Eq (Znl a0) <| (Znk a0.2.1).bind fun e0=>bif e0.1 then some (true,()) else (Znk a0.2.2.2.2.1).bind fun e1=>bif e1.1 then some (true,()) else some (decide (ofNat a0.2.2.1.length>10),()):=mkE
def Yql:Tb:=[(56,Ymh)]
def F17:TFun:=⟨[],[(7,qc [qn 1,[.c (.p (.sl [.sl Nq3]))],qn 3,qi,qn 19])],[.a Nq4,.c (.sl [.sl Nq3])],[.c (.p db)],qc [qn 4,qb,qn 20],[],[],0⟩
def Ymi:=mkC Yql prog 17 F17
theorem ok17:Ymi.ok prog 17:=mkO ⟨ok56,trivial⟩
def Znm (a0:Ny3)(a1:(List Ny4)):Option (Bool×Unit):=Ymi.fn (a0,a1,())
def Zd3 (n:Nat)(x0:(List Ny4))(x1:Int):Option (Bool×Unit):=itr Yql prog 17 F17 n 7 (x0,x1,())
theorem Z0c a0 a1:Eq (Znm a0 a1) <| (Znl a0).bind fun e0=>bif e0.1 then some (true,()) else bif ofNat a1.length>6 then some (true,()) else Zd3 fuel a1 0:=mkE
theorem Znn n x0 x1:Eq (Zd3 (n+1) x0 x1) <| bif x1<ofNat x0.length then ix x0 x1 fun e0=>bif ofNat e0.1.length>70 then some (true,()) else Zd3 n x0 (wrap .i64 (x1+1)) else some (false,()):=mkI
def Ytc:Tb:=[]
def F133:TFun:=⟨[],[],[.c di,.c di],[.c (.p di)],qc [qn 4,qi,qn 12],[],[],0⟩
def Yca:=mkC Ytc prog 133 F133
theorem Ywt:Yca.ok prog 133:=mkO trivial
def Zh4 (a0 a1:Int):Option (Int×Unit):=Yca.fn (a0,a1,())
theorem Z0d a0 a1:Eq (Zh4 a0 a1) <| bif a1<1 then some (2,()) else bif a1>1073741824 then some (2,()) else bif a0<(-1099511627776) then some (16,()) else bif a0>1099511627776 then some (16,()) else some (0,()):=mkE
def Ywu:Tb:=[(133,Yca)]
def F90:TFun:=⟨[],[],[.a Nq3],[.c (.p db)],qc [qn 2,qb,qn 27],[],[],0⟩
def Ymj:=mkC Ywu prog 90 F90
theorem ok90:Ymj.ok prog 90:=mkO ⟨Ywt,trivial⟩
def Zno (a0:Ny7):Option (Bool×Unit):=Ymj.fn (a0,())
theorem Z0e a0:Eq (Zno a0) <| bif a0.1 then bif a0.2.2.1==0&&(a0.2.2.2.1==0&&(a0.2.2.2.2.1==0&&true)) then bif a0.2.1==9223372036854775807 then some (true,()) else (Zh4 a0.2.1 1).bind fun e0=>some (e0.1==0,()) else some (false,()) else bif a0.2.1==0 then (Zh4 a0.2.2.2.1 1).bind fun e0=>some (e0.1==0,()) else some (false,()):=mkE
def Yqm:Tb:=[(90,Ymj)]
def F58:TFun:=⟨[],[(6,qc [[.c (.p (.sl Nq3))],qn 2,qi,qn 15])],[.c (.sl Nq3)],[.c (.p di)],qc [qn 2,qi,qn 16],[],[],0⟩
def Ymk:=mkC Yqm prog 58 F58
theorem ok58:Ymk.ok prog 58:=mkO ⟨ok90,trivial⟩
def Znp (a0:(List Ny7)):Option (Int×Unit):=Ymk.fn (a0,())
def Zd4 (n:Nat)(x0:(List Ny7))(x1:Int):Option (Int×Unit):=itr Yqm prog 58 F58 n 6 (x0,x1,())
theorem Z0f a0:Eq (Znp a0) <| bif ofNat a0.length>60 then some (4,()) else Zd4 fuel a0 0:=mkE
theorem Znq n x0 x1:Eq (Zd4 (n+1) x0 x1) <| bif x1<ofNat x0.length then ix x0 x1 fun e0=>(Zno e0).bind fun e1=>bif !e1.1 then some (8,()) else Zd4 n x0 (wrap .i64 (x1+1)) else some (0,()):=mkI
def Yml:Tb:=[(57,Ydz),(58,Ymk)]
def F18:TFun:=⟨[9],[(9,qc [qn 2,qi,qi,qn 51]),(11,qc [qn 1,[.c (.p (.sl [.sl Nq3]))],qi,qi,qn 7,qi,qn 43])],[.a Nq4,.c (.sl [.sl Nq3]),.c di,.c di],[.c (.p di)],qc [qn 8,qi,qn 46],[],[],0⟩
def Ymm:=mkC Yml prog 18 F18
theorem ok18:Ymm.ok prog 18:=mkO ⟨ok57,ok58,trivial⟩
def Znr (a0:Ny3)(a1:(List Ny4))(a2 a3:Int):Option (Int×Unit):=Ymm.fn (a0,a1,a2,a3,())
def Zhd (n:Nat)(x0 x1:Int):Option (Int×Unit):=itr Yml prog 18 F18 n 9 (x0,x1,())
def Zcr (n:Nat)(x0:(List Ny4))(x1 x2 x3:Int):Option (Int×Unit):=itr Yml prog 18 F18 n 11 (x0,x1,x2,x3,())
theorem Z0g a0 a1 a2 a3:Eq (Znr a0 a1 a2 a3) <| (Zht a0).bind fun e0=>bif e0.2.1 !=0 then some (e0.2.1,()) else bif ofNat a1.length !=ofNat a0.2.2.1.length then some (2,()) else Zcr fuel a1 a2 a3 0:=mkE
theorem Zx5 n x0 x1:Eq (Zhd (n+1) x0 x1) <| bif x0<1 then some (2,()) else bif x0>3 then some (2,()) else bif x1<1 then some (2,()) else bif x1>8 then some (2,()) else some (0,()):=mkI
theorem Zk0 n x0 x1 x2 x3:Eq (Zcr (n+1) x0 x1 x2 x3) <| bif x3<ofNat x0.length then ix x0 x3 fun e0=>(Znp e0.1).bind fun e1=>bif e1.1 !=0 then some (e1.1,()) else Zcr n x0 x1 x2 (wrap .i64 (x3+1)) else Zhd n x1 x2:=mkI
def tab5:Tb:=[(17,Ymi),(18,Ymm)]
def F5:TFun:=⟨[],[],[.a Nq4,.c (.sl [.sl Nq3]),.c di,.c di],[.c (.p db)],qc [qn 8,qb,qn 12],[],[],0⟩
def con5:=mkC tab5 prog 5 F5
theorem ok5:con5.ok prog 5:=mkO ⟨ok17,ok18,trivial⟩
def Zsi (a0:Ny3)(a1:(List Ny4))(a2 a3:Int):Option (Bool×Unit):=con5.fn (a0,a1,a2,a3,())
theorem Z8t a0 a1 a2 a3:Eq (Zsi a0 a1 a2 a3) <| (Znm a0 a1).bind fun e0=>bif !e0.1 then (Znr a0 a1 a2 a3).bind fun e1=>some (e1.1==0,()) else some (false,()):=mkE
end
end Tg

/- Functions of the code, told plainly and checked by the kernel. -/
namespace Tg
noncomputable section
open Go.Abs hiding fuel
open Go.Proofs.Tryz (prog)
open Int (ofNat toNat)
open Go.IntKind (wrap)
def tab3:Tb:=[(4,con4),(5,con5),(6,Yl2),(7,con7),(8,Yln),(9,con9),(10,Ymd),(11,Z17),(12,Yku),(13,Ymf),(14,Ylx),(15,Yk5)]
def F3:TFun:=⟨[24],[(24,qc [qn 9,qb,[.boxN 38 14 [.p (.int .u8),.p (.sl Wq2),.p (.sl [.int .i64]),.p db,.p (.sl Wq2),.p (.int .u8),.p di,.p di,.p db,.p (.int .u8),.p (.sl [.int .u8,.int .i64]),.p (.sl Wq4),.p (.sl Wq1),.p (.sl Wq3)]],qn 191]),(26,qc [qn 3,qi,qn 5,qb,[.boxN 38 14 [.p (.int .u8),.p (.sl Wq2),.p (.sl [.int .i64]),.p db,.p (.sl Wq2),.p (.int .u8),.p di,.p di,.p db,.p (.int .u8),.p (.sl [.int .u8,.int .i64]),.p (.sl Wq4),.p (.sl Wq1),.p (.sl Wq3)]],qn 9,qi,qn 181]),(34,qc [qn 9,qb,[.boxN 38 14 [.p (.int .u8),.p (.sl Wq2),.p (.sl [.int .i64]),.p db,.p (.sl Wq2),.p (.int .u8),.p di,.p di,.p db,.p (.int .u8),.p (.sl [.int .u8,.int .i64]),.p (.sl Wq4),.p (.sl Wq1),.p (.sl Wq3)]],qn 10,qi,qn 180])],[.a [.int .u8,.sl Wq2,.sl [.int .i64],.bool,.sl Wq2,.int .u8,.int .i64,.int .i64,.bool,.int .u8],.c (.sl [.sl [.bool,.int .i64,.int .i64,.int .i64,.int .i64]]),.c di,.c di],[.c (.p db)],qc [qn 8,qb,qn 193],[],[],0⟩
def con3:=mkC tab3 prog 3 F3
theorem ok3:con3.ok prog 3:=mkO ⟨ok4,ok5,ok6p,ok7,ok8p,ok9,ok10,ok11,ok12,ok13,ok14,ok15,trivial⟩
def Ziy (a0:(Int×List Wy2×List (Int×Unit)×Bool×List Wy2×Int×Int×Int×Bool×Int×Unit))(a1:(List (List (Bool×Int×Int×Int×Int×Unit)×Unit)))(a2 a3:Int):Option (Bool×Unit):=con3.fn (a0,a1,a2,a3,())
def Zfh (n:Nat)(x0:Bool)(x1:Int)(x2:(List Wy2))(x3:(List (Int×Unit)))(x4:Bool)(x5:(List Wy2))(x6 x7 x8:Int)(x9:Bool)(x10:Int)(x11:(List (Int×Int×Unit)))(x12:(List Wy2))(x13:Wy1)(x14:Wy3):Option (Bool×Unit):=itr tab3 prog 3 F3 n 24 (x0,x1,x2,x3,x4,x5,x6,x7,x8,x9,x10,x11,x12,x13,x14,())
def Xp (n:Nat)(x0:Int)(x1:Bool)(x2:Int)(x3:(List Wy2))(x4:(List (Int×Unit)))(x5:Bool)(x6:(List Wy2))(x7 x8 x9:Int)(x10:Bool)(x11:Int)(x12:(List (Int×Int×Unit)))(x13:(List Wy2))(x14:Wy1)(x15:Wy3)(x16:Int):Option (Bool×Unit):=itr tab3 prog 3 F3 n 26 (x0,x1,x2,x3,x4,x5,x6,x7,x8,x9,x10,x11,x12,x13,x14,x15,x16,())
def Xq (n:Nat)(x0:Bool)(x1:Int)(x2:(List Wy2))(x3:(List (Int×Unit)))(x4:Bool)(x5:(List Wy2))(x6 x7 x8:Int)(x9:Bool)(x10:Int)(x11:(List (Int×Int×Unit)))(x12:(List Wy2))(x13:Wy1)(x14:Wy3)(x15:Int):Option (Bool×Unit):=itr tab3 prog 3 F3 n 34 (x0,x1,x2,x3,x4,x5,x6,x7,x8,x9,x10,x11,x12,x13,x14,x15,())
theorem Zpw a0 a1 a2 a3:Eq (Ziy a0 a1 a2 a3) <| (Zsi a0 a1 a2 a3).bind fun e0=>bif !e0.1 then some (true,()) else (Zc5 a0 a1 a2 a3).bind fun e1=>(Zra a0).bind fun e2=>(Ziv e2.1 a2 a3).bind fun e3=>(Zh3 e1.1).bind fun e4=>(Zni e1.1).bind fun e5=>let k1:=some (false,());bif e1.2.1 !=0 then k1 else bif e2.2.1 !=0 then k1 else bif e3.2.1 !=0 then k1 else bif e4.2.1 !=0 then k1 else bif e5.2.1 !=0 then k1 else (Zcz e1.1).bind fun e6=>bif e6.1 !=0 then k1 else (Zm6 e1.1).bind fun e7=>bif e7.1 !=0 then k1 else bif !e4.1 then k1 else (Zco e5.1 a1).bind fun e8=>bif !e8.1 then k1 else (Zj2 e3.1 (e1.1.2.2.2.2.2.2.2.2.2.2.1,e1.1.2.2.2.2.2.2.2.2.2.2.2.1,())).bind fun e9=>bif !e9.1 then k1 else bif ofNat e1.1.2.2.2.2.2.2.2.2.2.2.2.2.1.length !=ofNat e3.1.1.length then k1 else bif ofNat e1.1.2.2.2.2.2.2.2.2.2.2.2.2.2.1.length !=ofNat e3.1.2.1.length then k1 else Xp fuel a3 true e1.1.1 e1.1.2.1 e1.1.2.2.1 e1.1.2.2.2.1 e1.1.2.2.2.2.1 e1.1.2.2.2.2.2.1 e1.1.2.2.2.2.2.2.1 e1.1.2.2.2.2.2.2.2.1 e1.1.2.2.2.2.2.2.2.2.1 e1.1.2.2.2.2.2.2.2.2.2.1 e1.1.2.2.2.2.2.2.2.2.2.2.1 e1.1.2.2.2.2.2.2.2.2.2.2.2.1 e1.1.2.2.2.2.2.2.2.2.2.2.2.2.1 e1.1.2.2.2.2.2.2.2.2.2.2.2.2.2.1 0:=mkE
theorem Zns n x0 x1 x2 x3 x4 x5 x6 x7 x8 x9 x10 x11 x12 x13 x14:Eq (Zfh (n+1) x0 x1 x2 x3 x4 x5 x6 x7 x8 x9 x10 x11 x12 x13 x14) <| Xq n x0 x1 x2 x3 x4 x5 x6 x7 x8 x9 x10 x11 x12 x13 x14 0:=mkI
theorem Zfi n x0 x1 x2 x3 x4 x5 x6 x7 x8 x9 x10 x11 x12 x13 x14 x15 x16:Eq (Xp (n+1) x0 x1 x2 x3 x4 x5 x6 x7 x8 x9 x10 x11 x12 x13 x14 x15 x16) <| bif x16<ofNat x15.length then ix x15 x16 fun e0=>bif ofNat e0.2.1.length>0 then some (false,()) else ix x15 x16 fun e1=>bif e1.1 !=x0 then some (false,()) else Xp n x0 x1 x2 x3 x4 x5 x6 x7 x8 x9 x10 x11 x12 x13 x14 x15 (wrap .i64 (x16+1)) else Zfh n x1 x2 x3 x4 x5 x6 x7 x8 x9 x10 x11 x12 x13 x14 x15:=mkI
theorem Zfj n x0 x1 x2 x3 x4 x5 x6 x7 x8 x9 x10 x11 x12 x13 x14 x15:Eq (Xq (n+1) x0 x1 x2 x3 x4 x5 x6 x7 x8 x9 x10 x11 x12 x13 x14 x15) <| bif x15<ofNat x13.length then ix x13 x15 fun e0=>(Zb4 (x1,x2,x3,x4,x5,x6,x7,x8,x9,x10,x11,x12,x13,x14,()) x15).bind fun e1=>bif e1.2.1 !=0 then some (false,()) else bif ofNat e0.2.2.2.1.length>0 then some (false,()) else bif ofNat e0.2.2.2.2.2.1.length>0 then some (false,()) else let k1:=Xq n x0 x1 x2 x3 x4 x5 x6 x7 x8 x9 x10 x11 x12 x13 x14 (wrap .i64 (x15+1));bif e0.1==1 then bif !e1.1==decide (ofNat e0.2.2.2.2.2.2.1.length>0) then some (false,()) else k1 else bif !e1.1==false then some (false,()) else k1 else some (x0,()):=mkI
end
end Tg
