import Derived.Test.YtenldcjkpgmpnaaGreatDoorTQz1
import Derived.Test.YtenldcjkpgmpnaaGreatDoorTYb9
import Derived.Test.YtenldcjkpgmpnaaGreatDoorTVb4
/- Functions of the code, told plainly and checked by the kernel. -/
set_option linter.unusedVariables false
set_option linter.unusedSimpArgs false
set_option maxRecDepth 100000
namespace Tg
noncomputable section
open Go.Abs hiding fuel
open Go.Proofs.Tryz (prog)
open Int (ofNat toNat)
open Go.IntKind (wrap)
def Ynx:Tb:=[]
def F43:TFun:=⟨[],[(6,qc [[.c (.p (.sl [.int .u8,.int .i64]))],[.c (.p (.sl [.int .u8,.int .i64]))],qn 10,qi,qi,qn 12])],[.c (.sl [.int .u8,.int .i64]),.c (.sl [.int .u8,.int .i64])],[.c (.p db)],qc [qn 4,qb,qn 21],[],[],0⟩
def Yi9:=mkC Ynx prog 43 F43
theorem ok43:Yi9.ok prog 43:=mkO trivial
def Yj (a0 a1:(List (Int×Int×Unit))):Option (Bool×Unit):=Yi9.fn (a0,a1,())
def Yc (n:Nat)(x0 x1:(List (Int×Int×Unit)))(x2 x3:Int):Option (Bool×Unit):=itr Ynx prog 43 F43 n 6 (x0,x1,x2,x3,())
theorem Zdq a0 a1:Eq (Yj a0 a1) <| bif ofNat a0.length !=ofNat a1.length then some (false,()) else Yc fuel a0 a1 (ofNat a0.length) 0:=mkE
theorem Qx n x0 x1 x2 x3:Eq (Yc (n+1) x0 x1 x2 x3) <| bif x3<x2 then ix x0 x3 fun e0=>ix x1 x3 fun e1=>bif !(e0.1==e1.1&&(e0.2.1==e1.2.1&&true)) then some (false,()) else Yc n x0 x1 x2 (wrap .i64 (x3+1)) else some (true,()):=mkI
def Yny:Tb:=[]
def F44:TFun:=⟨[],[(6,qc [[.c (.p (.sl Nq7))],[.c (.p (.sl Nq7))],qn 10,qi,qi,qn 12])],[.c (.sl Nq7),.c (.sl Nq7)],[.c (.p db)],qc [qn 4,qb,qn 21],[],[],0⟩
def Yja:=mkC Yny prog 44 F44
theorem ok44:Yja.ok prog 44:=mkO trivial
def Zo (a0 a1:Ny6):Option (Bool×Unit):=Yja.fn (a0,a1,())
def Zm (n:Nat)(x0 x1:Ny6)(x2 x3:Int):Option (Bool×Unit):=itr Yny prog 44 F44 n 6 (x0,x1,x2,x3,())
theorem Zax a0 a1:Eq (Zo a0 a1) <| bif ofNat a0.length !=ofNat a1.length then some (false,()) else Zm fuel a0 a1 (ofNat a0.length) 0:=mkE
theorem Yz n x0 x1 x2 x3:Eq (Zm (n+1) x0 x1 x2 x3) <| bif x3<x2 then ix x0 x3 fun e0=>ix x1 x3 fun e1=>bif !(e0.1==e1.1&&(e0.2.1==e1.2.1&&(e0.2.2.1==e1.2.2.1&&(e0.2.2.2.1==e1.2.2.2.1&&(e0.2.2.2.2.1==e1.2.2.2.2.1&&true))))) then some (false,()) else Zm n x0 x1 x2 (wrap .i64 (x3+1)) else some (true,()):=mkI
def Ynz:Tb:=[]
def F88:TFun:=⟨[],[(6,qc [[.c (.p (.sl [.int .i64]))],[.c (.p (.sl [.int .i64]))],qn 10,qi,qi,qn 12])],[.c (.sl [.int .i64]),.c (.sl [.int .i64])],[.c (.p db)],qc [qn 4,qb,qn 21],[],[],0⟩
def Yjb:=mkC Ynz prog 88 F88
theorem ok88:Yjb.ok prog 88:=mkO trivial
def Xy (a0 a1:(List (Int×Unit))):Option (Bool×Unit):=Yjb.fn (a0,a1,())
def Yf (n:Nat)(x0 x1:(List (Int×Unit)))(x2 x3:Int):Option (Bool×Unit):=itr Ynz prog 88 F88 n 6 (x0,x1,x2,x3,())
theorem Ze0 a0 a1:Eq (Xy a0 a1) <| bif ofNat a0.length !=ofNat a1.length then some (false,()) else Yf fuel a0 a1 (ofNat a0.length) 0:=mkE
theorem Zam n x0 x1 x2 x3:Eq (Yf (n+1) x0 x1 x2 x3) <| bif x3<x2 then ix x0 x3 fun e0=>ix x1 x3 fun e1=>bif e0.1 !=e1.1 then some (false,()) else Yf n x0 x1 x2 (wrap .i64 (x3+1)) else some (true,()):=mkI
def Yn0:Tb:=[]
def F89:TFun:=⟨[],[(6,qc [[.c (.p (.sl Nq4))],[.c (.p (.sl Nq4))],qn 10,qi,qi,qn 12])],[.c (.sl Nq4),.c (.sl Nq4)],[.c (.p db)],qc [qn 4,qb,qn 21],[],[],0⟩
def Yjc:=mkC Yn0 prog 89 F89
theorem ok89:Yjc.ok prog 89:=mkO trivial
def Yn (a0 a1:(List Ny4)):Option (Bool×Unit):=Yjc.fn (a0,a1,())
def Zv (n:Nat)(x0 x1:(List Ny4))(x2 x3:Int):Option (Bool×Unit):=itr Yn0 prog 89 F89 n 6 (x0,x1,x2,x3,())
theorem Zbx a0 a1:Eq (Yn a0 a1) <| bif ofNat a0.length !=ofNat a1.length then some (false,()) else Zv fuel a0 a1 (ofNat a0.length) 0:=mkE
theorem Xm n x0 x1 x2 x3:Eq (Zv (n+1) x0 x1 x2 x3) <| bif x3<x2 then ix x0 x3 fun e0=>ix x1 x3 fun e1=>bif !(e0.1==e1.1&&(e0.2.1==e1.2.1&&(e0.2.2.1==e1.2.2.1&&(e0.2.2.2.1==e1.2.2.2.1&&(e0.2.2.2.2.1==e1.2.2.2.2.1&&true))))) then some (false,()) else Zv n x0 x1 x2 (wrap .i64 (x3+1)) else some (true,()):=mkI
def Ytx:Tb:=[(88,Yjb),(89,Yjc)]
def F47:TFun:=⟨[],[],[.a Nq1,.a Nq1],[.c (.p db)],qc [qn 4,qb,qn 44],[],[],0⟩
def Yjd:=mkC Ytx prog 47 F47
theorem ok47:Yjd.ok prog 47:=mkO ⟨ok88,ok89,trivial⟩
def Zl1 (a0 a1:Ny1):Option (Bool×Unit):=Yjd.fn (a0,a1,())
theorem Zye a0 a1:Eq (Zl1 a0 a1) <| let k1:=some (false,());bif a0.1==a1.1&&(a0.2.1==a1.2.1&&true) then bif a0.2.2.1==a1.2.2.1 then bif wrap .i64 (wrap .i64 (wrap .i64 (ofNat a0.2.2.2.1.length+ofNat a0.2.2.2.2.2.1.length)+ofNat a0.2.2.2.2.2.2.2.1.length)+ofNat a0.2.2.2.2.2.2.2.2.1.length)==0 then (Xy a0.2.2.2.2.1 a1.2.2.2.2.1).bind fun e0=>bif e0.1 then (Yn a0.2.2.2.2.2.2.1 a1.2.2.2.2.2.2.1).bind fun e1=>some (e1.1,()) else k1 else k1 else k1 else k1:=mkE
def Yn1:Tb:=[(69,Z9z)]
def F32:TFun:=⟨[],[(4,qc [qn 3,[.c (.rowN 57 1 [.sl Nq4])],qn 3,[.c (.p (.sl Nq1))],qi,qi,qn 15])],[.a Nq2],[.c (.s 57 1 [.sl Nq4])],qc [qn 2,[.c (.rowN 57 1 [.sl Nq4])],qn 22],[],[],0⟩
def Z60:=mkC Yn1 prog 32 F32
theorem ok32:Z60.ok prog 32:=mkO ⟨Ynt,trivial⟩
def Z97:TCon:=⟨Z60.args,[.c (.p (.sl [.sl Nq4]))],Z60.fn⟩
theorem Yn2:Z97.ok prog 32:=TCon.frz (c:=Z60) ok32 rfl
def Ze1 (a0:Ny2):Option (List (List Ny4×Unit)×Unit):=Z60.fn (a0,())
def Zbn (n:Nat)(x0:(List (List Ny4×Unit)))(x1:(List Ny1))(x2 x3:Int):Option (List (List Ny4×Unit)×Unit):=itr Yn1 prog 32 F32 n 4 (x0,x1,x2,x3,())
theorem Zyf a0:Eq (Ze1 a0) <| Zbn fuel ([]) a0.2.2.2.2.2.2.2.2.2.2.2.2.1 (ofNat a0.2.2.2.2.2.2.2.2.2.2.2.2.1.length) 0:=mkE
theorem Zl2 n x0 x1 x2 x3:Eq (Zbn (n+1) x0 x1 x2 x3) <| bif x3<x2 then ix x1 x3 fun e0=>bif e0.1==1 then (Zf 40 e0.2.2.2.2.2.2.1).bind fun e1=>bif Zb (x0.length+List.length [(e1.1,())]) 24 then Zbn n (x0++[(e1.1,())]) x1 x2 (wrap .i64 (x3+1)) else none else Zbn n x0 x1 x2 (wrap .i64 (x3+1)) else some (x0,()):=mkI
def tab7:Tb:=[(12,Z6c),(32,Z97)]
def F7:TFun:=⟨[],[],[.a Nq2],[.c (.p (.sl [.sl Nq4])),.c (.p di)],qc [qn 2,[.c (.p (.sl [.sl Nq4]))],qi,qn 8],[],[],0⟩
def con7:=mkC tab7 prog 7 F7
theorem ok7:con7.ok prog 7:=mkO ⟨ok12,Yn2,trivial⟩
def Zl3 (a0:Ny2):Option (List (List Ny4×Unit)×Int×Unit):=con7.fn (a0,())
theorem Zyg a0:Eq (Zl3 a0) <| (Zd7 a0).bind fun e0=>bif e0.1 !=0 then some ([],e0.1,()) else (Ze1 a0).bind fun e1=>some (e1.1,0,()):=mkE
def Z0m:Tb:=[(12,Z6c),(32,Z97),(6,Yi2),(43,Yi9),(44,Yja),(47,Yjd)]
def F10:TFun:=⟨[22],[(8,qc [qn 1,[.boxN 38 14 [.p (.int .u8),.p (.sl Nq6),.p (.sl [.int .i64]),.p db,.p (.sl Nq6),.p (.int .u8),.p di,.p di,.p db,.p (.int .u8),.p (.sl [.int .u8,.int .i64]),.p (.sl Nq7),.p (.sl Nq1),.p (.sl Nq5)]],qn 3,qi,qn 58]),(13,qc [qn 1,[.boxN 38 14 [.p (.int .u8),.p (.sl Nq6),.p (.sl [.int .i64]),.p db,.p (.sl Nq6),.p (.int .u8),.p di,.p di,.p db,.p (.int .u8),.p (.sl [.int .u8,.int .i64]),.p (.sl Nq7),.p (.sl Nq1),.p (.sl Nq5)]],qn 3,qi,qi,qn 57]),(22,qc [qn 1,[.boxN 38 14 [.any,.any,.any,.any,.any,.any,.any,.any,.any,.any,.any,.any,.any,.p (.sl Nq5)]],qn 62]),(31,qc [qn 1,[.c (.p (.sl Nq1))],[.c (.fn 46 [])],qn 12,[.c (.p (.sl Nq1))],qi,qi,qn 15,[.boxN 38 14 [.any,.any,.any,.any,.any,.any,.any,.any,.any,.any,.any,.any,.any,.p (.sl Nq5)]],qn 62]),(53,qc [[.c (.p (.sl Nq5))],[.c (.fn 49 [])],qn 5,qi,qi,qn 83])],[.a Nq2],[.c (.p db),.c (.p di)],qc [qn 2,qb,qi,qn 60],[(59,[49]),(49,[90]),(46,[48]),(38,[46]),(24,[45])],[(31,[64]),(53,[9,64])],8⟩
def Yje:=mkC Z0m prog 10 F10
theorem ok10:Yje.ok prog 10:=mkO ⟨ok12,Yn2,ok6p,ok43,ok44,ok47,trivial⟩
def Zha (a0:Ny2):Option (Bool×Int×Unit):=Yje.fn (a0,())
def Zbo (n:Nat)(x0:Int)(x1:Ny6)(x2:(List (Int×Unit)))(x3:Bool)(x4:Ny6)(x5 x6 x7:Int)(x8:Bool)(x9:Int)(x10:(List (Int×Int×Unit)))(x11:Ny6)(x12:(List Ny1))(x13:Ny5)(x14:Int):Option (Bool×Int×Unit):=itr Z0m prog 10 F10 n 8 (x0,x1,x2,x3,x4,x5,x6,x7,x8,x9,x10,x11,x12,x13,x14,())
def Zay (n:Nat)(x0:Int)(x1:Ny6)(x2:(List (Int×Unit)))(x3:Bool)(x4:Ny6)(x5 x6 x7:Int)(x8:Bool)(x9:Int)(x10:(List (Int×Int×Unit)))(x11:Ny6)(x12:(List Ny1))(x13:Ny5)(x14 x15:Int):Option (Bool×Int×Unit):=itr Z0m prog 10 F10 n 13 (x0,x1,x2,x3,x4,x5,x6,x7,x8,x9,x10,x11,x12,x13,x14,x15,())
def Zfa (n:Nat)(x0:Ny5):Option (Bool×Int×Unit):=itr Z0m prog 10 F10 n 22 (x0,())
def Zaz (n:Nat)(x0 x1:(List Ny1))(x2 x3:Int)(x4:Ny5):Option (Bool×Int×Unit):=itr Z0m prog 10 F10 n 31 (x0,x1,x2,x3,x4,())
def Zcc (n:Nat)(x0:Ny5)(x1 x2:Int):Option (Bool×Int×Unit):=itr Z0m prog 10 F10 n 53 (x0,x1,x2,())
theorem Zyh a0:Eq (Zha a0) <| (Zd7 a0).bind fun e0=>bif e0.1 !=0 then some (false,e0.1,()) else Zbo fuel a0.1 a0.2.1 a0.2.2.1 a0.2.2.2.1 a0.2.2.2.2.1 a0.2.2.2.2.2.1 a0.2.2.2.2.2.2.1 a0.2.2.2.2.2.2.2.1 a0.2.2.2.2.2.2.2.2.1 a0.2.2.2.2.2.2.2.2.2.1 a0.2.2.2.2.2.2.2.2.2.2.1 a0.2.2.2.2.2.2.2.2.2.2.2.1 a0.2.2.2.2.2.2.2.2.2.2.2.2.1 a0.2.2.2.2.2.2.2.2.2.2.2.2.2.1 1:=mkE
theorem Zl4 n x0 x1 x2 x3 x4 x5 x6 x7 x8 x9 x10 x11 x12 x13 x14:Eq (Zbo (n+1) x0 x1 x2 x3 x4 x5 x6 x7 x8 x9 x10 x11 x12 x13 x14) <| bif x14<=3 then Zay n x0 x1 x2 x3 x4 x5 x6 x7 x8 x9 x10 x11 x12 x13 x14 1 else some (false,0,()):=mkI
theorem Zcd n x0 x1 x2 x3 x4 x5 x6 x7 x8 x9 x10 x11 x12 x13 x14 x15:Eq (Zay (n+1) x0 x1 x2 x3 x4 x5 x6 x7 x8 x9 x10 x11 x12 x13 x14 x15) <| bif x15<=8 then (Ze1 (x0,x1,x2,x3,x4,x5,x6,x7,x8,x9,x10,x11,x12,x13,())).bind fun e0=>(Zan (x0,x1,x2,x3,x4,x5,x6,x7,x8,x9,()) e0.1 x14 x15).bind fun e1=>let k1:=Zay n x0 x1 x2 x3 x4 x5 x6 x7 x8 x9 x10 x11 x12 x13 x14 (wrap .i64 (x15+1));bif e1.2.1 !=0 then k1 else (Yj e1.1.2.2.2.2.2.2.2.2.2.2.1 x10).bind fun e2=>bif !e2.1 then k1 else (Zo e1.1.2.2.2.2.2.2.2.2.2.2.2.1 x11).bind fun e3=>bif !e3.1 then k1 else bif ofNat e1.1.2.2.2.2.2.2.2.2.2.2.2.2.1.length !=ofNat x12.length then some (false,0,()) else Zaz n x12 e1.1.2.2.2.2.2.2.2.2.2.2.2.2.1 (ofNat e1.1.2.2.2.2.2.2.2.2.2.2.2.2.1.length) 0 x13 else Zbo n x0 x1 x2 x3 x4 x5 x6 x7 x8 x9 x10 x11 x12 x13 (wrap .i64 (x14+1)):=mkI
theorem Zsw n x0:Eq (Zfa (n+1) x0) <| Zcc n x0 (ofNat x0.length) 0:=mkI
theorem Zjv n x0 x1 x2 x3 x4:Eq (Zaz (n+1) x0 x1 x2 x3 x4) <| bif x3<x2 then ix x1 x3 fun e0=>ix x0 x3 fun e1=>(Zl1 e1 e0).bind fun e2=>bif !e2.1 then some (false,0,()) else Zaz n x0 x1 x2 (wrap .i64 (x3+1)) x4 else Zfa n x4:=mkI
theorem Zjw n x0 x1 x2:Eq (Zcc (n+1) x0 x1 x2) <| bif x2<x1 then ix x0 x2 fun e0=>bif ofNat e0.2.1.length>0 then some (!decide (x2>=0),0,()) else Zcc n x0 x1 (wrap .i64 (x2+1)) else some (true,0,()):=mkI
end
end Tg

/- Functions of the code, told plainly and checked by the kernel. -/
namespace Tg
noncomputable section
open Go.Abs hiding fuel
open Go.Proofs.Tryz (prog)
open Int (ofNat toNat)
open Go.IntKind (wrap)
def Yty:Tb:=[]
def F96:TFun:=⟨[],[],[.c (.sl Nq6)],[.c (.p db)],qc [qn 2,qb,qn 3],[],[],0⟩
def Yjf:=mkC Yty prog 96 F96
theorem ok96:Yjf.ok prog 96:=mkO trivial
def Zl5 (a0:Ny6):Option (Bool×Unit):=Yjf.fn (a0,())
theorem Zb8 a0:Eq (Zl5 a0) <| some (decide (ofNat a0.length>70),()):=mkE
def Ytz:Tb:=[(96,Yjf)]
def F54:TFun:=⟨[],[],[.a Nq3],[.c (.p db)],qc [qn 2,qb,qn 14],[],[],0⟩
def Yjg:=mkC Ytz prog 54 F54
theorem ok54:Yjg.ok prog 54:=mkO ⟨ok96,trivial⟩
def Zl6 (a0:Ny3):Option (Bool×Unit):=Yjg.fn (a0,())
theorem Zyi a0:Eq (Zl6 a0) <| (Zl5 a0.2.1).bind fun e0=>bif e0.1 then some (true,()) else (Zl5 a0.2.2.2.2.1).bind fun e1=>bif e1.1 then some (true,()) else some (decide (ofNat a0.2.2.1.length>10),()):=mkE
def Yn3:Tb:=[(54,Yjg)]
def F13:TFun:=⟨[],[(7,qc [qn 1,[.c (.p (.sl [.sl Nq4]))],qn 3,qi,qn 19])],[.a Nq3,.c (.sl [.sl Nq4])],[.c (.p db)],qc [qn 4,qb,qn 20],[],[],0⟩
def Yjh:=mkC Yn3 prog 13 F13
theorem ok13:Yjh.ok prog 13:=mkO ⟨ok54,trivial⟩
def Zl7 (a0:Ny3)(a1:(List (List Ny4×Unit))):Option (Bool×Unit):=Yjh.fn (a0,a1,())
def Zdk (n:Nat)(x0:(List (List Ny4×Unit)))(x1:Int):Option (Bool×Unit):=itr Yn3 prog 13 F13 n 7 (x0,x1,())
theorem Zyj a0 a1:Eq (Zl7 a0 a1) <| (Zl6 a0).bind fun e0=>bif e0.1 then some (true,()) else bif ofNat a1.length>6 then some (true,()) else Zdk fuel a1 0:=mkE
theorem Zl8 n x0 x1:Eq (Zdk (n+1) x0 x1) <| bif x1<ofNat x0.length then ix x0 x1 fun e0=>bif ofNat e0.1.length>70 then some (true,()) else Zdk n x0 (wrap .i64 (x1+1)) else some (false,()):=mkI
def Yqr:Tb:=[]
def F147:TFun:=⟨[],[],[.c di,.c di],[.c (.p di)],qc [qn 4,qi,qn 12],[],[],0⟩
def Z98:=mkC Yqr prog 147 F147
theorem Yt0:Z98.ok prog 147:=mkO trivial
def Zhb (a0 a1:Int):Option (Int×Unit):=Z98.fn (a0,a1,())
theorem Zyk a0 a1:Eq (Zhb a0 a1) <| bif a1<1 then some (2,()) else bif a1>1073741824 then some (2,()) else bif a0<(-1099511627776) then some (16,()) else bif a0>1099511627776 then some (16,()) else some (0,()):=mkE
def Yt1:Tb:=[(147,Z98)]
def F99:TFun:=⟨[],[],[.a Nq4],[.c (.p db)],qc [qn 2,qb,qn 27],[],[],0⟩
def Yji:=mkC Yt1 prog 99 F99
theorem ok99:Yji.ok prog 99:=mkO ⟨Yt0,trivial⟩
def Zl9 (a0:Ny4):Option (Bool×Unit):=Yji.fn (a0,())
theorem Zyl a0:Eq (Zl9 a0) <| bif a0.1 then bif a0.2.2.1==0&&(a0.2.2.2.1==0&&(a0.2.2.2.2.1==0&&true)) then bif a0.2.1==9223372036854775807 then some (true,()) else (Zhb a0.2.1 1).bind fun e0=>some (e0.1==0,()) else some (false,()) else bif a0.2.1==0 then (Zhb a0.2.2.2.1 1).bind fun e0=>some (e0.1==0,()) else some (false,()):=mkE
def Yn4:Tb:=[(99,Yji)]
def F56:TFun:=⟨[],[(6,qc [[.c (.p (.sl Nq4))],qn 2,qi,qn 15])],[.c (.sl Nq4)],[.c (.p di)],qc [qn 2,qi,qn 16],[],[],0⟩
def Yjj:=mkC Yn4 prog 56 F56
theorem ok56:Yjj.ok prog 56:=mkO ⟨ok99,trivial⟩
def Zma (a0:(List Ny4)):Option (Int×Unit):=Yjj.fn (a0,())
def Zdl (n:Nat)(x0:(List Ny4))(x1:Int):Option (Int×Unit):=itr Yn4 prog 56 F56 n 6 (x0,x1,())
theorem Zym a0:Eq (Zma a0) <| bif ofNat a0.length>60 then some (4,()) else Zdl fuel a0 0:=mkE
theorem Zmb n x0 x1:Eq (Zdl (n+1) x0 x1) <| bif x1<ofNat x0.length then ix x0 x1 fun e0=>(Zl9 e0).bind fun e1=>bif !e1.1 then some (8,()) else Zdl n x0 (wrap .i64 (x1+1)) else some (0,()):=mkI
def Yjk:Tb:=[(55,Yg2),(56,Yjj)]
def F14:TFun:=⟨[9],[(9,qc [qn 2,qi,qi,qn 51]),(11,qc [qn 1,[.c (.p (.sl [.sl Nq4]))],qi,qi,qn 7,qi,qn 43])],[.a Nq3,.c (.sl [.sl Nq4]),.c di,.c di],[.c (.p di)],qc [qn 8,qi,qn 46],[],[],0⟩
def Yjl:=mkC Yjk prog 14 F14
theorem ok14:Yjl.ok prog 14:=mkO ⟨ok55,ok56,trivial⟩
def Zmc (a0:Ny3)(a1:(List (List Ny4×Unit)))(a2 a3:Int):Option (Int×Unit):=Yjl.fn (a0,a1,a2,a3,())
def Zgp (n:Nat)(x0 x1:Int):Option (Int×Unit):=itr Yjk prog 14 F14 n 9 (x0,x1,())
def Zce (n:Nat)(x0:(List (List Ny4×Unit)))(x1 x2 x3:Int):Option (Int×Unit):=itr Yjk prog 14 F14 n 11 (x0,x1,x2,x3,())
theorem Zyn a0 a1 a2 a3:Eq (Zmc a0 a1 a2 a3) <| (Zlm a0).bind fun e0=>bif e0.2.1 !=0 then some (e0.2.1,()) else bif ofNat a1.length !=ofNat a0.2.2.1.length then some (2,()) else Zce fuel a1 a2 a3 0:=mkE
theorem Zwr n x0 x1:Eq (Zgp (n+1) x0 x1) <| bif x0<1 then some (2,()) else bif x0>3 then some (2,()) else bif x1<1 then some (2,()) else bif x1>8 then some (2,()) else some (0,()):=mkI
theorem Zjx n x0 x1 x2 x3:Eq (Zce (n+1) x0 x1 x2 x3) <| bif x3<ofNat x0.length then ix x0 x3 fun e0=>(Zma e0.1).bind fun e1=>bif e1.1 !=0 then some (e1.1,()) else Zce n x0 x1 x2 (wrap .i64 (x3+1)) else Zgp n x1 x2:=mkI
def Yn5:Tb:=[]
def F84:TFun:=⟨[],[(6,qc [[.c (.p (.sl Nq6))],[.c (.p (.sl Nq6))],qn 3,qi,qn 26])],[.c (.sl Nq6),.c (.sl Nq6)],[.c (.p db)],qc [qn 4,qb,qn 27],[],[],0⟩
def Yjm:=mkC Yn5 prog 84 F84
theorem ok84:Yjm.ok prog 84:=mkO trivial
def Zhc (a0 a1:Ny6):Option (Bool×Unit):=Yjm.fn (a0,a1,())
def Zdm (n:Nat)(x0 x1:Ny6)(x2:Int):Option (Bool×Unit):=itr Yn5 prog 84 F84 n 6 (x0,x1,x2,())
theorem Zyo a0 a1:Eq (Zhc a0 a1) <| bif ofNat a0.length !=ofNat a1.length then some (false,()) else Zdm fuel a0 a1 0:=mkE
theorem Zmd n x0 x1 x2:Eq (Zdm (n+1) x0 x1 x2) <| bif x2<ofNat x0.length then ix x0 x2 fun e0=>ix x1 x2 fun e1=>bif !(e0.1==e1.1&&(e0.2.1==e1.2.1&&(e0.2.2.1==e1.2.2.1&&(e0.2.2.2.1==e1.2.2.2.1&&true)))) then some (false,()) else Zdm n x0 x1 (wrap .i64 (x2+1)) else some (true,()):=mkI
def Yn6:Tb:=[]
def F85:TFun:=⟨[],[(6,qc [[.c (.p (.sl [.int .i64]))],[.c (.p (.sl [.int .i64]))],qn 3,qi,qn 20])],[.c (.sl [.int .i64]),.c (.sl [.int .i64])],[.c (.p db)],qc [qn 4,qb,qn 21],[],[],0⟩
def Yjn:=mkC Yn6 prog 85 F85
theorem ok85:Yjn.ok prog 85:=mkO trivial
def Zdn (a0 a1:(List (Int×Unit))):Option (Bool×Unit):=Yjn.fn (a0,a1,())
def Qy (n:Nat)(x0 x1:(List (Int×Unit)))(x2:Int):Option (Bool×Unit):=itr Yn6 prog 85 F85 n 6 (x0,x1,x2,())
theorem Zm2 a0 a1:Eq (Zdn a0 a1) <| bif ofNat a0.length !=ofNat a1.length then some (false,()) else Qy fuel a0 a1 0:=mkE
theorem Ze2 n x0 x1 x2:Eq (Qy (n+1) x0 x1 x2) <| bif x2<ofNat x0.length then ix x0 x2 fun e0=>ix x1 x2 fun e1=>bif e0.1 !=e1.1 then some (false,()) else Qy n x0 x1 (wrap .i64 (x2+1)) else some (true,()):=mkI
def Yt2:Tb:=[(84,Yjm),(85,Yjn)]
def F40:TFun:=⟨[],[],[.a Nq3,.a Nq3],[.c (.p db)],qc [qn 4,qb,qn 54],[],[],0⟩
def Yjo:=mkC Yt2 prog 40 F40
theorem ok40:Yjo.ok prog 40:=mkO ⟨ok84,ok85,trivial⟩
def Zhd (a0 a1:Ny3):Option (Bool×Unit):=Yjo.fn (a0,a1,())
theorem Zyp a0 a1:Eq (Zhd a0 a1) <| let k1:=some (false,());bif a0.1==a1.1 then (Zhc a0.2.1 a1.2.1).bind fun e0=>bif e0.1 then (Zdn a0.2.2.1 a1.2.2.1).bind fun e1=>bif e1.1 then bif a0.2.2.2.1==a1.2.2.2.1 then (Zhc a0.2.2.2.2.1 a1.2.2.2.2.1).bind fun e2=>bif e2.1 then bif a0.2.2.2.2.2.1==a1.2.2.2.2.2.1&&(a0.2.2.2.2.2.2.1==a1.2.2.2.2.2.2.1&&(a0.2.2.2.2.2.2.2.1==a1.2.2.2.2.2.2.2.1&&true)) then bif a0.2.2.2.2.2.2.2.2.1==a1.2.2.2.2.2.2.2.2.1 then some (a0.2.2.2.2.2.2.2.2.2.1==a1.2.2.2.2.2.2.2.2.2.1,()) else k1 else k1 else k1 else k1 else k1 else k1 else k1:=mkE
def tab9:Tb:=[(40,Yjo),(41,Yix),(42,Ygy)]
def F9:TFun:=⟨[],[],[.a Nq2,.a Nq2],[.c (.p db)],qc [qn 4,qb,qn 17],[],[],0⟩
def con9:=mkC tab9 prog 9 F9
theorem ok9:con9.ok prog 9:=mkO ⟨ok40,ok41,ok42,trivial⟩
def Zji (a0 a1:Ny2):Option (Bool×Unit):=con9.fn (a0,a1,())
theorem Z3n a0 a1:Eq (Zji a0 a1) <| (Zhd (a0.1,a0.2.1,a0.2.2.1,a0.2.2.2.1,a0.2.2.2.2.1,a0.2.2.2.2.2.1,a0.2.2.2.2.2.2.1,a0.2.2.2.2.2.2.2.1,a0.2.2.2.2.2.2.2.2.1,a0.2.2.2.2.2.2.2.2.2.1,()) (a1.1,a1.2.1,a1.2.2.1,a1.2.2.2.1,a1.2.2.2.2.1,a1.2.2.2.2.2.1,a1.2.2.2.2.2.2.1,a1.2.2.2.2.2.2.2.1,a1.2.2.2.2.2.2.2.2.1,a1.2.2.2.2.2.2.2.2.2.1,())).bind fun e0=>bif e0.1 then (Zjb (a0.2.2.2.2.2.2.2.2.2.2.1,a0.2.2.2.2.2.2.2.2.2.2.2.1,()) (a1.2.2.2.2.2.2.2.2.2.2.1,a1.2.2.2.2.2.2.2.2.2.2.2.1,())).bind fun e1=>bif e1.1 then (Zis a0 a1).bind fun e2=>some (e2.1,()) else some (false,()) else some (false,()):=mkE
def tab5:Tb:=[(13,Yjh),(14,Yjl)]
def F5:TFun:=⟨[],[],[.a Nq3,.c (.sl [.sl Nq4]),.c di,.c di],[.c (.p db)],qc [qn 8,qb,qn 12],[],[],0⟩
def con5:=mkC tab5 prog 5 F5
theorem ok5:con5.ok prog 5:=mkO ⟨ok13,ok14,trivial⟩
def Zrj (a0:Ny3)(a1:(List (List Ny4×Unit)))(a2 a3:Int):Option (Bool×Unit):=con5.fn (a0,a1,a2,a3,())
theorem Z61 a0 a1 a2 a3:Eq (Zrj a0 a1 a2 a3) <| (Zl7 a0 a1).bind fun e0=>bif !e0.1 then (Zmc a0 a1 a2 a3).bind fun e1=>some (e1.1==0,()) else some (false,()):=mkE
end
end Tg
