import Derived.Test.YtdgcdoiefodccaaGreatBGV
import Derived.Test.YtdgcdoiefodccaaGreatBQz1
import Derived.Test.YtdgcdoiefodccaaGreatBVb1
/- Functions of the code, told plainly and checked by the kernel. -/
set_option linter.unusedVariables false
set_option linter.unusedSimpArgs false
set_option maxRecDepth 100000
namespace Tg
open Go.Abs hiding fuel
open Go.Proofs.Tryz (prog)
open Int (ofNat toNat)
open Go.IntKind (wrap)
noncomputable def Yol:Tb:=[]
def F15:TFun:=⟨[],[(6,qc [[.c (.p (.sl Nq7))],[.c (.p (.sl Nq7))],qn 10,qi,qi,qn 12])],[.c (.sl Nq7),.c (.sl Nq7)],[.c (.p db)],qc [qn 4,qb,qn 21],[],[],0⟩
noncomputable def Yku:=mkC Yol prog 15 F15
theorem ok15:Yku.ok prog 15:=mkO trivial (by kernel_rfl)
noncomputable def Yh (a0 a1:(List (Int×Int×Unit))):Option (Bool×Unit):=Yku.fn (a0,a1,())
noncomputable def Ya (n:Nat)(x0 x1:(List (Int×Int×Unit)))(x2 x3:Int):Option (Bool×Unit):=itr Yol prog 15 F15 n 6 (x0,x1,x2,x3,())
theorem Zd4 a0 a1:Eq (Yh a0 a1) <| bif ofNat a0.length !=ofNat a1.length then some (false,()) else Ya fuel a0 a1 (ofNat a0.length) 0:=mkE (by kernel_rfl)
theorem Q5 n x0 x1 x2 x3:Eq (Ya (n+1) x0 x1 x2 x3) <| bif x3<x2 then ix x0 x3 fun e0=>ix x1 x3 fun e1=>bif !(e0.1==e1.1&&(e0.2.1==e1.2.1&&true)) then some (false,()) else Ya n x0 x1 x2 (wrap .i64 (x3+1)) else some (true,()):=mkI (by kernel_rfl)
noncomputable def Yom:Tb:=[]
def F16:TFun:=⟨[],[(6,qc [[.c (.p (.sl Nq5))],[.c (.p (.sl Nq5))],qn 10,qi,qi,qn 12])],[.c (.sl Nq5),.c (.sl Nq5)],[.c (.p db)],qc [qn 4,qb,qn 21],[],[],0⟩
noncomputable def Ykv:=mkC Yom prog 16 F16
theorem ok16:Ykv.ok prog 16:=mkO trivial (by kernel_rfl)
noncomputable def Zn (a0 a1:Ny3):Option (Bool×Unit):=Ykv.fn (a0,a1,())
noncomputable def Zm (n:Nat)(x0 x1:Ny3)(x2 x3:Int):Option (Bool×Unit):=itr Yom prog 16 F16 n 6 (x0,x1,x2,x3,())
theorem Za6 a0 a1:Eq (Zn a0 a1) <| bif ofNat a0.length !=ofNat a1.length then some (false,()) else Zm fuel a0 a1 (ofNat a0.length) 0:=mkE (by kernel_rfl)
theorem Yy n x0 x1 x2 x3:Eq (Zm (n+1) x0 x1 x2 x3) <| bif x3<x2 then ix x0 x3 fun e0=>ix x1 x3 fun e1=>bif !(e0.1==e1.1&&(e0.2.1==e1.2.1&&(e0.2.2.1==e1.2.2.1&&(e0.2.2.2.1==e1.2.2.2.1&&(e0.2.2.2.2.1==e1.2.2.2.2.1&&true))))) then some (false,()) else Zm n x0 x1 x2 (wrap .i64 (x3+1)) else some (true,()):=mkI (by kernel_rfl)
noncomputable def Yon:Tb:=[]
def F48:TFun:=⟨[],[(6,qc [[.c (.p (.sl [.int .i64]))],[.c (.p (.sl [.int .i64]))],qn 10,qi,qi,qn 12])],[.c (.sl [.int .i64]),.c (.sl [.int .i64])],[.c (.p db)],qc [qn 4,qb,qn 21],[],[],0⟩
noncomputable def Ykw:=mkC Yon prog 48 F48
theorem ok48:Ykw.ok prog 48:=mkO trivial (by kernel_rfl)
noncomputable def Xx (a0 a1:(List (Int×Unit))):Option (Bool×Unit):=Ykw.fn (a0,a1,())
noncomputable def Yd (n:Nat)(x0 x1:(List (Int×Unit)))(x2 x3:Int):Option (Bool×Unit):=itr Yon prog 48 F48 n 6 (x0,x1,x2,x3,())
theorem Zff a0 a1:Eq (Xx a0 a1) <| bif ofNat a0.length !=ofNat a1.length then some (false,()) else Yd fuel a0 a1 (ofNat a0.length) 0:=mkE (by kernel_rfl)
theorem Zat n x0 x1 x2 x3:Eq (Yd (n+1) x0 x1 x2 x3) <| bif x3<x2 then ix x0 x3 fun e0=>ix x1 x3 fun e1=>bif e0.1 !=e1.1 then some (false,()) else Yd n x0 x1 x2 (wrap .i64 (x3+1)) else some (true,()):=mkI (by kernel_rfl)
noncomputable def Yoo:Tb:=[]
def F49:TFun:=⟨[],[(6,qc [[.c (.p (.sl Nq3))],[.c (.p (.sl Nq3))],qn 10,qi,qi,qn 12])],[.c (.sl Nq3),.c (.sl Nq3)],[.c (.p db)],qc [qn 4,qb,qn 21],[],[],0⟩
noncomputable def Ykx:=mkC Yoo prog 49 F49
theorem ok49:Ykx.ok prog 49:=mkO trivial (by kernel_rfl)
noncomputable def Yl (a0 a1:(List (Bool×Int×Int×Int×Int×Unit))):Option (Bool×Unit):=Ykx.fn (a0,a1,())
noncomputable def Zt (n:Nat)(x0 x1:(List (Bool×Int×Int×Int×Int×Unit)))(x2 x3:Int):Option (Bool×Unit):=itr Yoo prog 49 F49 n 6 (x0,x1,x2,x3,())
theorem Zb4 a0 a1:Eq (Yl a0 a1) <| bif ofNat a0.length !=ofNat a1.length then some (false,()) else Zt fuel a0 a1 (ofNat a0.length) 0:=mkE (by kernel_rfl)
theorem Xn n x0 x1 x2 x3:Eq (Zt (n+1) x0 x1 x2 x3) <| bif x3<x2 then ix x0 x3 fun e0=>ix x1 x3 fun e1=>bif !(e0.1==e1.1&&(e0.2.1==e1.2.1&&(e0.2.2.1==e1.2.2.1&&(e0.2.2.2.1==e1.2.2.2.1&&(e0.2.2.2.2.1==e1.2.2.2.2.1&&true))))) then some (false,()) else Zt n x0 x1 x2 (wrap .i64 (x3+1)) else some (true,()):=mkI (by kernel_rfl)
noncomputable def Yu2:Tb:=[(48,Ykw),(49,Ykx)]
def F19:TFun:=⟨[],[],[.a Nq1,.a Nq1],[.c (.p db)],qc [qn 4,qb,qn 44],[],[],0⟩
noncomputable def Yky:=mkC Yu2 prog 19 F19
theorem ok19:Yky.ok prog 19:=mkO ⟨ok48,ok49,trivial⟩ (by kernel_rfl)
noncomputable def Znk (a0 a1:Ny2):Option (Bool×Unit):=Yky.fn (a0,a1,())
theorem Zzr a0 a1:Eq (Znk a0 a1) <| let k1:=some (false,());bif a0.1==a1.1&&(a0.2.1==a1.2.1&&true) then bif a0.2.2.1==a1.2.2.1 then bif wrap .i64 (wrap .i64 (wrap .i64 (ofNat a0.2.2.2.1.length+ofNat a0.2.2.2.2.2.1.length)+ofNat a0.2.2.2.2.2.2.2.1.length)+ofNat a0.2.2.2.2.2.2.2.2.1.length)==0 then (Xx a0.2.2.2.2.1 a1.2.2.2.2.1).bind fun e0=>bif e0.1 then (Yl a0.2.2.2.2.2.2.1 a1.2.2.2.2.2.2.1).bind fun e1=>some (e1.1,()) else k1 else k1 else k1 else k1:=mkE (by kernel_rfl)
noncomputable def Yop:Tb:=[(47,Yjt)]
def F14:TFun:=⟨[],[(4,qc [qn 3,[.c (.rowN 54 1 [.sl Nq3])],qn 3,[.c (.p (.sl Nq1))],qi,qi,qn 15])],[.a Nq2],[.c (.s 54 1 [.sl Nq3])],qc [qn 2,[.c (.rowN 54 1 [.sl Nq3])],qn 22],[],[],0⟩
noncomputable def Z7u:=mkC Yop prog 14 F14
theorem ok14:Z7u.ok prog 14:=mkO ⟨Ytw,trivial⟩ (by kernel_rfl)
noncomputable def Ya3:TCon:=⟨Z7u.args,[.c (.p (.sl [.sl Nq3]))],Z7u.fn⟩
theorem Yoq:Ya3.ok prog 14:=TCon.frz (c:=Z7u) ok14 rfl
noncomputable def Zfg (a0:Ny1):Option (List Ny5×Unit):=Z7u.fn (a0,())
noncomputable def Zbu (n:Nat)(x0:(List Ny5))(x1:(List Ny2))(x2 x3:Int):Option (List Ny5×Unit):=itr Yop prog 14 F14 n 4 (x0,x1,x2,x3,())
theorem Zzs a0:Eq (Zfg a0) <| Zbu fuel ([]) a0.2.2.2.2.2.2.2.2.2.2.2.2.1 (ofNat a0.2.2.2.2.2.2.2.2.2.2.2.2.1.length) 0:=mkE (by kernel_rfl)
theorem Znl n x0 x1 x2 x3:Eq (Zbu (n+1) x0 x1 x2 x3) <| bif x3<x2 then ix x1 x3 fun e0=>bif e0.1==1 then (Zj 40 e0.2.2.2.2.2.2.1).bind fun e1=>bif Zb (x0.length+List.length [(e1.1,())]) 24 then Zbu n (x0++[(e1.1,())]) x1 x2 (wrap .i64 (x3+1)) else none else Zbu n x0 x1 x2 (wrap .i64 (x3+1)) else some (x0,()):=mkI (by kernel_rfl)
noncomputable def tab7:Tb:=[(12,Ycv),(14,Ya3)]
def F7:TFun:=⟨[],[],[.a Nq2],[.c (.p (.sl [.sl Nq3])),.c (.p di)],qc [qn 2,[.c (.p (.sl [.sl Nq3]))],qi,qn 8],[],[],0⟩
noncomputable def con7:=mkC tab7 prog 7 F7
theorem ok7:con7.ok prog 7:=mkO ⟨ok12,Yoq,trivial⟩ (by kernel_rfl)
noncomputable def Zh5 (a0:Ny1):Option (List Ny5×Int×Unit):=con7.fn (a0,())
theorem Zow a0:Eq (Zh5 a0) <| (Zhb a0).bind fun e0=>bif e0.1 !=0 then some ([],e0.1,()) else (Zfg a0).bind fun e1=>some (e1.1,0,()):=mkE (by kernel_rfl)
noncomputable def tab9:Tb:=[]
def F9:TFun:=⟨[],[(6,qc [[.c (.p (.sl [.sl Nq3]))],[.c (.p (.sl [.sl Nq3]))],qn 3,qi,qn 47]),(14,qc [[.c (.p (.sl [.sl Nq3]))],[.c (.p (.sl [.sl Nq3]))],qn 3,qi,qi,qn 46])],[.c (.sl [.sl Nq3]),.c (.sl [.sl Nq3])],[.c (.p db)],qc [qn 4,qb,qn 48],[],[],0⟩
noncomputable def con9:=mkC tab9 prog 9 F9
theorem ok9:con9.ok prog 9:=mkO trivial (by kernel_rfl)
noncomputable def Zco (a0 a1:(List Ny5)):Option (Bool×Unit):=con9.fn (a0,a1,())
noncomputable def Qi (n:Nat)(x0 x1:(List Ny5))(x2:Int):Option (Bool×Unit):=itr tab9 prog 9 F9 n 6 (x0,x1,x2,())
noncomputable def Zag (n:Nat)(x0 x1:(List Ny5))(x2 x3:Int):Option (Bool×Unit):=itr tab9 prog 9 F9 n 14 (x0,x1,x2,x3,())
theorem Zrb a0 a1:Eq (Zco a0 a1) <| bif ofNat a0.length !=ofNat a1.length then some (false,()) else Qi fuel a0 a1 0:=mkE (by kernel_rfl)
theorem Zhf n x0 x1 x2:Eq (Qi (n+1) x0 x1 x2) <| bif x2<ofNat x0.length then ix x0 x2 fun e0=>ix x1 x2 fun e1=>bif ofNat e0.1.length !=ofNat e1.1.length then some (false,()) else Zag n x0 x1 x2 0 else some (true,()):=mkI (by kernel_rfl)
theorem Zft n x0 x1 x2 x3:Eq (Zag (n+1) x0 x1 x2 x3) <| ix x0 x2 fun e0=>bif x3<ofNat e0.1.length then ix x0 x2 fun e1=>ix e1.1 x3 fun e2=>ix x1 x2 fun e3=>ix e3.1 x3 fun e4=>bif !(e2.1==e4.1&&(e2.2.1==e4.2.1&&(e2.2.2.1==e4.2.2.1&&(e2.2.2.2.1==e4.2.2.2.1&&(e2.2.2.2.2.1==e4.2.2.2.2.1&&true))))) then some (false,()) else Zag n x0 x1 x2 (wrap .i64 (x3+1)) else Qi n x0 x1 (wrap .i64 (x2+1)):=mkI (by kernel_rfl)
noncomputable def tab8:Tb:=[(22,Ycq),(24,Ykt)]
def F8:TFun:=⟨[],[],[.a Nq2],[.c (.p (.sl [.sl Nq3])),.c (.p di)],qc [qn 2,[.c (.p (.sl [.sl Nq3]))],qi,qn 8],[],[],0⟩
noncomputable def con8:=mkC tab8 prog 8 F8
theorem ok8:con8.ok prog 8:=mkO ⟨ok22,ok24,trivial⟩ (by kernel_rfl)
noncomputable def Zh6 (a0:Ny1):Option (List Ny5×Int×Unit):=con8.fn (a0,())
theorem Zox a0:Eq (Zh6 a0) <| (Zfd a0).bind fun e0=>bif e0.1 !=0 then some ([],e0.1,()) else (Zbt a0).bind fun e1=>some (e1.1,0,()):=mkE (by kernel_rfl)
noncomputable def Ykz:Tb:=[(55,Yc3),(57,Ya1),(56,Ykc)]
def F23:TFun:=⟨[],[(5,qc [qn 1,[.boxN 35 14 [.any,.any,.any,.any,.any,.any,.any,.any,.any,.any,.p (.sl Nq7),.p (.sl Nq5),.any,.any]],qn 3,[.boxN 91 11 [.p (.sl [.int .u8]),.p (.int .u8),.p (.sl Nq6),.p (.sl [.int .i64]),.p db,.p (.sl Nq6),.p (.int .u8),.p di,.p di,.p db,.p (.int .u8)]],qn 1,qi,qn 24]),(10,qc [qn 1,[.boxN 35 14 [.any,.any,.any,.any,.any,.any,.any,.any,.any,.any,.p (.sl Nq7),.p (.sl Nq5),.any,.any]],qn 3,[.boxN 91 11 [.p (.sl [.int .u8]),.p (.int .u8),.p (.sl Nq6),.p (.sl [.int .i64]),.p db,.p (.sl Nq6),.p (.int .u8),.p di,.p di,.p db,.p (.int .u8)]],qn 1,qi,qi,qn 23])],[.a Nq2],[.c (.p di),.c (.p di),.c (.p db)],qc [qn 2,qi,qi,qb,qn 27],[],[],0⟩
noncomputable def Yk0:=mkC Ykz prog 23 F23
theorem ok23:Yk0.ok prog 23:=mkO ⟨ok55,Yoe,ok56,trivial⟩ (by kernel_rfl)
noncomputable def Zil (a0:Ny1):Option (Int×Int×Bool×Unit):=Yk0.fn (a0,())
noncomputable def Zb5 (n:Nat)(x0:(List (Int×Int×Unit)))(x1:Ny3)(x2:(List (Int×Unit)))(x3:Int)(x4:Ny3)(x5:(List (Int×Unit)))(x6:Bool)(x7:Ny3)(x8 x9 x10:Int)(x11:Bool)(x12 x13:Int):Option (Int×Int×Bool×Unit):=itr Ykz prog 23 F23 n 5 (x0,x1,x2,x3,x4,x5,x6,x7,x8,x9,x10,x11,x12,x13,())
noncomputable def Zbe (n:Nat)(x0:(List (Int×Int×Unit)))(x1:Ny3)(x2:(List (Int×Unit)))(x3:Int)(x4:Ny3)(x5:(List (Int×Unit)))(x6:Bool)(x7:Ny3)(x8 x9 x10:Int)(x11:Bool)(x12 x13 x14:Int):Option (Int×Int×Bool×Unit):=itr Ykz prog 23 F23 n 10 (x0,x1,x2,x3,x4,x5,x6,x7,x8,x9,x10,x11,x12,x13,x14,())
theorem Ztu a0:Eq (Zil a0) <| (Zng (a0.1,a0.2.1,a0.2.2.1,a0.2.2.2.1,a0.2.2.2.2.1,a0.2.2.2.2.2.1,a0.2.2.2.2.2.2.1,a0.2.2.2.2.2.2.2.1,a0.2.2.2.2.2.2.2.2.1,a0.2.2.2.2.2.2.2.2.2.1,())).bind fun e0=>Zb5 fuel a0.2.2.2.2.2.2.2.2.2.2.1 a0.2.2.2.2.2.2.2.2.2.2.2.1 e0.1.1 e0.1.2.1 e0.1.2.2.1 e0.1.2.2.2.1 e0.1.2.2.2.2.1 e0.1.2.2.2.2.2.1 e0.1.2.2.2.2.2.2.1 e0.1.2.2.2.2.2.2.2.1 e0.1.2.2.2.2.2.2.2.2.1 e0.1.2.2.2.2.2.2.2.2.2.1 e0.1.2.2.2.2.2.2.2.2.2.2.1 1:=mkE (by kernel_rfl)
theorem Zsh n x0 x1 x2 x3 x4 x5 x6 x7 x8 x9 x10 x11 x12 x13:Eq (Zb5 (n+1) x0 x1 x2 x3 x4 x5 x6 x7 x8 x9 x10 x11 x12 x13) <| bif x13≤3 then Zbe n x0 x1 x2 x3 x4 x5 x6 x7 x8 x9 x10 x11 x12 x13 1 else some (0,0,false,()):=mkI (by kernel_rfl)
theorem Zh7 n x0 x1 x2 x3 x4 x5 x6 x7 x8 x9 x10 x11 x12 x13 x14:Eq (Zbe (n+1) x0 x1 x2 x3 x4 x5 x6 x7 x8 x9 x10 x11 x12 x13 x14) <| bif x14≤8 then (Zj3 (x2,x3,x4,x5,x6,x7,x8,x9,x10,x11,x12,()) x13 x14).bind fun e0=>(Zpt e0.1 (x0,x1,())).bind fun e1=>bif e1.1 then some (x13,x14,true,()) else Zbe n x0 x1 x2 x3 x4 x5 x6 x7 x8 x9 x10 x11 x12 x13 (wrap .i64 (x14+1)) else Zb5 n x0 x1 x2 x3 x4 x5 x6 x7 x8 x9 x10 x11 x12 (wrap .i64 (x13+1)):=mkI (by kernel_rfl)
noncomputable def tab6:Tb:=[(22,Ycq),(23,Yk0),(24,Ykt),(26,Ykb),(25,Ygw)]
def F6:TFun:=⟨[],[],[.a Nq2],[.c (.p db),.c (.p di)],qc [qn 2,qb,qi,qn 37],[],[],0⟩
noncomputable def con6:=mkC tab6 prog 6 F6
theorem ok6:con6.ok prog 6:=mkO ⟨ok22,ok23,ok24,Yun,ok25,trivial⟩ (by kernel_rfl)
noncomputable def Zh8 (a0:Ny1):Option (Bool×Int×Unit):=con6.fn (a0,())
theorem Zoy a0:Eq (Zh8 a0) <| (Zfd a0).bind fun e0=>bif e0.1 !=0 then some (false,e0.1,()) else (Zil a0).bind fun e1=>(Zbt a0).bind fun e2=>bif !e1.2.2.1 then some (false,0,()) else bif ofNat e2.1.length !=ofNat a0.2.2.1.length then some (false,0,()) else (Zj4 (a0.1,a0.2.1,a0.2.2.1,a0.2.2.2.1,a0.2.2.2.2.1,a0.2.2.2.2.2.1,a0.2.2.2.2.2.2.1,a0.2.2.2.2.2.2.2.1,a0.2.2.2.2.2.2.2.2.1,a0.2.2.2.2.2.2.2.2.2.1,()) e2.1 e1.1 e1.2.1).bind fun e3=>(Zpg a0 e3.1).bind fun e4=>some (e4.1,0,()):=mkE (by kernel_rfl)
noncomputable def tab5:Tb:=[(12,Ycv),(14,Ya3),(13,Ykh),(15,Yku),(16,Ykv),(19,Yky)]
def F5:TFun:=⟨[22],[(8,qc [qn 1,[.boxN 35 14 [.p (.int .u8),.p (.sl Nq6),.p (.sl [.int .i64]),.p db,.p (.sl Nq6),.p (.int .u8),.p di,.p di,.p db,.p (.int .u8),.p (.sl Nq7),.p (.sl Nq5),.p (.sl Nq1),.p (.sl Nq4)]],qn 3,qi,qn 58]),(13,qc [qn 1,[.boxN 35 14 [.p (.int .u8),.p (.sl Nq6),.p (.sl [.int .i64]),.p db,.p (.sl Nq6),.p (.int .u8),.p di,.p di,.p db,.p (.int .u8),.p (.sl Nq7),.p (.sl Nq5),.p (.sl Nq1),.p (.sl Nq4)]],qn 3,qi,qi,qn 57]),(22,qc [qn 1,[.boxN 35 14 [.any,.any,.any,.any,.any,.any,.any,.any,.any,.any,.any,.any,.any,.p (.sl Nq4)]],qn 62]),(31,qc [qn 1,[.c (.p (.sl Nq1))],[.c (.fn 18 [])],qn 12,[.c (.p (.sl Nq1))],qi,qi,qn 15,[.boxN 35 14 [.any,.any,.any,.any,.any,.any,.any,.any,.any,.any,.any,.any,.any,.p (.sl Nq4)]],qn 62]),(53,qc [[.c (.p (.sl Nq4))],[.c (.fn 21 [])],qn 5,qi,qi,qn 83])],[.a Nq2],[.c (.p db),.c (.p di)],qc [qn 2,qb,qi,qn 60],[(59,[21]),(49,[50]),(46,[20]),(38,[18]),(24,[17])],[(31,[64]),(53,[9,64])],8⟩
noncomputable def con5:=mkC tab5 prog 5 F5
theorem ok5:con5.ok prog 5:=mkO ⟨ok12,Yoq,Yus,ok15,ok16,ok19,trivial⟩ (by kernel_rfl)
noncomputable def Zh9 (a0:Ny1):Option (Bool×Int×Unit):=con5.fn (a0,())
noncomputable def Zbv (n:Nat)(x0:Int)(x1:Ny3)(x2:(List (Int×Unit)))(x3:Bool)(x4:Ny3)(x5 x6 x7:Int)(x8:Bool)(x9:Int)(x10:(List (Int×Int×Unit)))(x11:Ny3)(x12:(List Ny2))(x13:Ny4)(x14:Int):Option (Bool×Int×Unit):=itr tab5 prog 5 F5 n 8 (x0,x1,x2,x3,x4,x5,x6,x7,x8,x9,x10,x11,x12,x13,x14,())
noncomputable def Za7 (n:Nat)(x0:Int)(x1:Ny3)(x2:(List (Int×Unit)))(x3:Bool)(x4:Ny3)(x5 x6 x7:Int)(x8:Bool)(x9:Int)(x10:(List (Int×Int×Unit)))(x11:Ny3)(x12:(List Ny2))(x13:Ny4)(x14 x15:Int):Option (Bool×Int×Unit):=itr tab5 prog 5 F5 n 13 (x0,x1,x2,x3,x4,x5,x6,x7,x8,x9,x10,x11,x12,x13,x14,x15,())
noncomputable def Zfp (n:Nat)(x0:Ny4):Option (Bool×Int×Unit):=itr tab5 prog 5 F5 n 22 (x0,())
noncomputable def Za8 (n:Nat)(x0 x1:(List Ny2))(x2 x3:Int)(x4:Ny4):Option (Bool×Int×Unit):=itr tab5 prog 5 F5 n 31 (x0,x1,x2,x3,x4,())
noncomputable def Zcp (n:Nat)(x0:Ny4)(x1 x2:Int):Option (Bool×Int×Unit):=itr tab5 prog 5 F5 n 53 (x0,x1,x2,())
theorem Zoz a0:Eq (Zh9 a0) <| (Zhb a0).bind fun e0=>bif e0.1 !=0 then some (false,e0.1,()) else Zbv fuel a0.1 a0.2.1 a0.2.2.1 a0.2.2.2.1 a0.2.2.2.2.1 a0.2.2.2.2.2.1 a0.2.2.2.2.2.2.1 a0.2.2.2.2.2.2.2.1 a0.2.2.2.2.2.2.2.2.1 a0.2.2.2.2.2.2.2.2.2.1 a0.2.2.2.2.2.2.2.2.2.2.1 a0.2.2.2.2.2.2.2.2.2.2.2.1 a0.2.2.2.2.2.2.2.2.2.2.2.2.1 a0.2.2.2.2.2.2.2.2.2.2.2.2.2.1 1:=mkE (by kernel_rfl)
theorem Znm n x0 x1 x2 x3 x4 x5 x6 x7 x8 x9 x10 x11 x12 x13 x14:Eq (Zbv (n+1) x0 x1 x2 x3 x4 x5 x6 x7 x8 x9 x10 x11 x12 x13 x14) <| bif x14≤3 then Za7 n x0 x1 x2 x3 x4 x5 x6 x7 x8 x9 x10 x11 x12 x13 x14 1 else some (false,0,()):=mkI (by kernel_rfl)
theorem Zcq n x0 x1 x2 x3 x4 x5 x6 x7 x8 x9 x10 x11 x12 x13 x14 x15:Eq (Za7 (n+1) x0 x1 x2 x3 x4 x5 x6 x7 x8 x9 x10 x11 x12 x13 x14 x15) <| bif x15≤8 then (Zfg (x0,x1,x2,x3,x4,x5,x6,x7,x8,x9,x10,x11,x12,x13,())).bind fun e0=>(Zh4 (x0,x1,x2,x3,x4,x5,x6,x7,x8,x9,()) e0.1 x14 x15).bind fun e1=>let k1:=Za7 n x0 x1 x2 x3 x4 x5 x6 x7 x8 x9 x10 x11 x12 x13 x14 (wrap .i64 (x15+1));bif e1.2.1 !=0 then k1 else (Yh e1.1.2.2.2.2.2.2.2.2.2.2.1 x10).bind fun e2=>bif !e2.1 then k1 else (Zn e1.1.2.2.2.2.2.2.2.2.2.2.2.1 x11).bind fun e3=>bif !e3.1 then k1 else bif ofNat e1.1.2.2.2.2.2.2.2.2.2.2.2.2.1.length !=ofNat x12.length then some (false,0,()) else Za8 n x12 e1.1.2.2.2.2.2.2.2.2.2.2.2.2.1 (ofNat e1.1.2.2.2.2.2.2.2.2.2.2.2.2.1.length) 0 x13 else Zbv n x0 x1 x2 x3 x4 x5 x6 x7 x8 x9 x10 x11 x12 x13 (wrap .i64 (x14+1)):=mkI (by kernel_rfl)
theorem Ztv n x0:Eq (Zfp (n+1) x0) <| Zcp n x0 (ofNat x0.length) 0:=mkI (by kernel_rfl)
theorem Zkz n x0 x1 x2 x3 x4:Eq (Za8 (n+1) x0 x1 x2 x3 x4) <| bif x3<x2 then ix x1 x3 fun e0=>ix x0 x3 fun e1=>(Znk e1 e0).bind fun e2=>bif !e2.1 then some (false,0,()) else Za8 n x0 x1 x2 (wrap .i64 (x3+1)) x4 else Zfp n x4:=mkI (by kernel_rfl)
theorem Zk0 n x0 x1 x2:Eq (Zcp (n+1) x0 x1 x2) <| bif x2<x1 then ix x0 x2 fun e0=>bif ofNat e0.2.1.length>0 then some (!decide (x2≥0),0,()) else Zcp n x0 x1 (wrap .i64 (x2+1)) else some (true,0,()):=mkI (by kernel_rfl)
noncomputable def tab3:Tb:=[(4,con4),(5,con5),(6,con6),(7,con7),(8,con8),(9,con9)]
def F3:TFun:=⟨[],[],[.a Nq2],[.c (.p db)],qc [qn 2,qb,qn 48],[],[],0⟩
noncomputable def con3:=mkC tab3 prog 3 F3
theorem ok3:con3.ok prog 3:=mkO ⟨ok4,ok5,ok6,ok7,ok8,ok9,trivial⟩ (by kernel_rfl)
noncomputable def Zi2 (a0:Ny1):Option (Bool×Unit):=con3.fn (a0,())
theorem Zpu a0:Eq (Zi2 a0) <| (Zls a0).bind fun e0=>bif e0.1 then some (true,()) else (Zh9 a0).bind fun e1=>(Zh8 a0).bind fun e2=>(Zh5 a0).bind fun e3=>(Zh6 a0).bind fun e4=>bif e1.1==e2.1 then bif e1.2.1==e2.2.1 then (Zco e3.1 e4.1).bind fun e5=>bif e5.1 then some (e3.2.1==e4.2.1,()) else some (false,()) else some (false,()) else some (false,()):=mkE (by kernel_rfl)
end Tg
