import Derived.Test.YtdgcdoiefodccaaGreatProg
import Derived.Test.YtdgcdoiefodccaaGreatBVT
/- Functions of the code, told plainly and checked by the kernel. -/
set_option linter.unusedVariables false
set_option linter.unusedSimpArgs false
set_option maxRecDepth 100000
namespace Tg
open Go.Abs hiding fuel
open Go.Proofs.Tryz (prog)
open Int (ofNat toNat)
open Go.IntKind (wrap)
noncomputable def Yp0:Tb:=[]
def F153:TFun:=⟨[],[],[.c di,.c di,.c di],[.c (.p db)],qc [qn 6,qb,qn 8],[],[],0⟩
noncomputable def Z9m:=mkC Yp0 prog 153 F153
theorem Yso:Z9m.ok prog 153:=mkO trivial (by kernel_rfl)
noncomputable def Q9 (a0 a1 a2:Int):Option (Bool×Unit):=Z9m.fn (a0,a1,a2,())
theorem Ztj a0 a1 a2:Eq (Q9 a0 a1 a2) <| bif a0≥a1 then some (decide (a0≤a2),()) else some (false,()):=mkE (by kernel_rfl)
noncomputable def Yp1:Tb:=[(153,Z9m)]
def F124:TFun:=⟨[],[],[.c (.int .u8),.c di,.c di],[.c (.p db)],qc [qn 6,qb,qn 59],[],[],0⟩
noncomputable def Z9n:=mkC Yp1 prog 124 F124
theorem Ysp:Z9n.ok prog 124:=mkO ⟨Yso,trivial⟩ (by kernel_rfl)
noncomputable def Zpk (a0 a1 a2:Int):Option (Bool×Unit):=Z9n.fn (a0,a1,a2,())
theorem Z22 a0 a1 a2:Eq (Zpk a0 a1 a2) <| let k1:=some (false,());bif a0==1 then bif a1==0 then some (a2==1,()) else k1 else bif a0==2 then bif a1==1 then match Q9 a2 1 2 with | none=>none | some e0=>some (e0.1,()) else k1 else bif a0==3 then bif a1==1 then match Q9 a2 1 3 with | none=>none | some e0=>some (e0.1,()) else k1 else bif a0==4 then match Q9 a1 1 4 with | none=>none | some e0=>bif e0.1 then some (a2==1,()) else k1 else bif a0==5 then bif a1==2 then some (a2==1,()) else k1 else bif a0==6 then match Q9 a1 1 3 with | none=>none | some e0=>bif e0.1 then some (a2==0,()) else k1 else bif a0==7 then match Q9 a1 1 4 with | none=>none | some e0=>bif e0.1 then some (a2==0,()) else k1 else k1:=mkE (by kernel_rfl)
noncomputable def Yg7:Tb:=[]
def F121:TFun:=⟨[],[(4,qc [qn 1,qi,[.boxN 31 2 [.any,.p (.sl Vq3)]],qn 2,[.boxN 70 5 [.p di,.p di,.p di,.p di,.any]],qi,qn 49])],[.a [.sl Vq12,.sl Vq3],.c di],[.c (.p db)],qc [qn 4,qb,qn 51],[],[],0⟩
noncomputable def Z9o:=mkC Yg7 prog 121 F121
theorem Ysq:Z9o.ok prog 121:=mkO trivial (by kernel_rfl)
noncomputable def Zmh (a0:Vy13)(a1:Int):Option (Bool×Unit):=Z9o.fn (a0,a1,())
noncomputable def Zdl (n:Nat)(x0:Int)(x1:(List Vy2))(x2 x3 x4 x5 x6:Int):Option (Bool×Unit):=itr Yg7 prog 121 F121 n 4 (x0,x1,x2,x3,x4,x5,x6,())
theorem Zyn a0 a1:Eq (Zmh a0 a1) <| bif 0≤a1 then match a0.2.1[a1.toNat]? with | none=>none | some e0=>Zdl fuel a1 a0.2.1 e0.1 e0.2.1 e0.2.2.1 e0.2.2.2.1 0 else none:=mkE (by kernel_rfl)
theorem Zmi n x0 x1 x2 x3 x4 x5 x6:Eq (Zdl (n+1) x0 x1 x2 x3 x4 x5 x6) <| bif x6<x0 then bif 0≤x6 then match x1[x6.toNat]? with | none=>none | some e0=>bif e0.1>x2 then some (false,()) else let k1:=let k3:=Zdl n x0 x1 x2 x3 x4 x5 (wrap .i64 (x6+1));bif e0.2.2.1==x4 then bif e0.2.2.2.1==x5 then some (false,()) else k3 else k3;bif e0.1==x2 then bif e0.2.1≥x3 then some (false,()) else k1 else k1 else none else some (true,()):=mkI (by kernel_rfl)
noncomputable def Yg8:Tb:=[]
def F122:TFun:=⟨[],[(4,qc [qn 1,qi,[.boxN 31 2 [.any,.p (.sl Vq3)]],qn 2,qi,qi,qn 18])],[.a [.sl Vq12,.sl Vq3],.c di],[.c (.p di)],qc [qn 4,qi,qn 20],[],[],0⟩
noncomputable def Z9p:=mkC Yg8 prog 122 F122
theorem Ysr:Z9p.ok prog 122:=mkO trivial (by kernel_rfl)
noncomputable def Zev (a0:Vy13)(a1:Int):Option (Int×Unit):=Z9p.fn (a0,a1,())
noncomputable def Zao (n:Nat)(x0:Int)(x1:(List Vy2))(x2 x3:Int):Option (Int×Unit):=itr Yg8 prog 122 F122 n 4 (x0,x1,x2,x3,())
theorem Ztk a0 a1:Eq (Zev a0 a1) <| Zao fuel a1 a0.2.1 0 0:=mkE (by kernel_rfl)
theorem Ziw n x0 x1 x2 x3:Eq (Zao (n+1) x0 x1 x2 x3) <| bif x3<ofNat x1.length then bif 0≤x3 then match x1[x3.toNat]? with | none=>none | some e0=>bif e0.1==x0 then Zao n x0 x1 (wrap .i64 (x2+1)) (wrap .i64 (x3+1)) else Zao n x0 x1 x2 (wrap .i64 (x3+1)) else none else some (x2,()):=mkI (by kernel_rfl)
noncomputable def Yg9:Tb:=[]
def F123:TFun:=⟨[],[(4,qc [qn 1,qi,[.boxN 31 2 [.any,.p (.sl Vq3)]],qn 2,qi,qi,qn 18])],[.a [.sl Vq12,.sl Vq3],.c di],[.c (.p di)],qc [qn 4,qi,qn 20],[],[],0⟩
noncomputable def Z9q:=mkC Yg9 prog 123 F123
theorem Yss:Z9q.ok prog 123:=mkO trivial (by kernel_rfl)
noncomputable def Zfy (a0:Vy13)(a1:Int):Option (Int×Unit):=Z9q.fn (a0,a1,())
noncomputable def Za0 (n:Nat)(x0:Int)(x1:(List Vy2))(x2 x3:Int):Option (Int×Unit):=itr Yg9 prog 123 F123 n 4 (x0,x1,x2,x3,())
theorem Zv4 a0 a1:Eq (Zfy a0 a1) <| Za0 fuel a1 a0.2.1 0 0:=mkE (by kernel_rfl)
theorem Zkg n x0 x1 x2 x3:Eq (Za0 (n+1) x0 x1 x2 x3) <| bif x3<ofNat x1.length then bif 0≤x3 then match x1[x3.toNat]? with | none=>none | some e0=>bif e0.2.2.1==x0 then Za0 n x0 x1 (wrap .i64 (x2+1)) (wrap .i64 (x3+1)) else Za0 n x0 x1 x2 (wrap .i64 (x3+1)) else none else some (x2,()):=mkI (by kernel_rfl)
noncomputable def Z9r:Tb:=[]
def F125:TFun:=⟨[],[(4,qc [qn 1,qi,[.boxN 31 2 [.p (.sl Vq12),.p (.sl Vq3)]],qn 2,[.c (.rowN 4 1 [.bool])],qi,qn 41]),(9,qc [qn 1,qi,[.boxN 31 2 [.p (.sl Vq12),.p (.sl Vq3)]],qn 2,[.c (.rowN 4 1 [.bool])],qi,qi,qn 40])],[.a [.sl Vq12,.sl Vq3],.c di],[.c (.s 4 1 [.bool])],qc [qn 4,[.c (.rowN 4 1 [.bool])],qn 43],[],[],0⟩
noncomputable def Zv5:=mkC Z9r prog 125 F125
theorem Yst:Zv5.ok prog 125:=mkO trivial (by kernel_rfl)
noncomputable def Yb7:TCon:=⟨Zv5.args,[.c (.p (.sl [.bool]))],Zv5.fn⟩
theorem Yp2:Yb7.ok prog 125:=TCon.frz (c:=Zv5) Yst rfl
noncomputable def Zie (a0:Vy13)(a1:Int):Option (List (Bool×Unit)×Unit):=Zv5.fn (a0,a1,())
noncomputable def Zap (n:Nat)(x0:Int)(x1:(List Vy10))(x2:(List Vy2))(x3:(List (Bool×Unit)))(x4:Int):Option (List (Bool×Unit)×Unit):=itr Z9r prog 125 F125 n 4 (x0,x1,x2,x3,x4,())
noncomputable def Qa (n:Nat)(x0:Int)(x1:(List Vy10))(x2:(List Vy2))(x3:(List (Bool×Unit)))(x4 x5:Int):Option (List (Bool×Unit)×Unit):=itr Z9r prog 125 F125 n 9 (x0,x1,x2,x3,x4,x5,())
theorem Ztl a0 a1:Eq (Zie a0 a1) <| bif decide (toNat (ofNat a0.1.length)≤toNat (ofNat a0.1.length))&&(decide (1*toNat (ofNat a0.1.length)≤281474976710656)&&decide (toNat (ofNat a0.1.length)≤9223372036854775807)) then Zap fuel a1 a0.1 a0.2.1 (List.replicate (toNat (ofNat a0.1.length)) (false,())) 0 else none:=mkE (by kernel_rfl)
theorem Zix n x0 x1 x2 x3 x4:Eq (Zap (n+1) x0 x1 x2 x3 x4) <| bif x4≤ofNat x1.length then Qa n x0 x1 x2 x3 x4 0 else some (x3,()):=mkI (by kernel_rfl)
theorem Ziy n x0 x1 x2 x3 x4 x5:Eq (Qa (n+1) x0 x1 x2 x3 x4 x5) <| bif x5<ofNat x2.length then bif 0≤x5 then match x2[x5.toNat]? with | none=>none | some e0=>bif e0.1==x0 then bif 0≤e0.2.2.1 then bif e0.2.2.1.toNat<x3.length then match x3[e0.2.2.1.toNat]? with | none=>none | some e1=>Qa n x0 x1 x2 (List.set x3 e0.2.2.1.toNat (true,e1.2)) x4 (wrap .i64 (x5+1)) else none else none else bif 0≤e0.1 then bif e0.1.toNat<x3.length then match x3[e0.1.toNat]? with | none=>none | some e1=>bif e1.1 then bif 0≤e0.2.2.1 then bif e0.2.2.1.toNat<x3.length then match x3[e0.2.2.1.toNat]? with | none=>none | some e2=>Qa n x0 x1 x2 (List.set x3 e0.2.2.1.toNat (true,e2.2)) x4 (wrap .i64 (x5+1)) else none else none else Qa n x0 x1 x2 x3 x4 (wrap .i64 (x5+1)) else none else none else none else Zap n x0 x1 x2 x3 (wrap .i64 (x4+1)):=mkI (by kernel_rfl)
noncomputable def Z01:Tb:=[(121,Z9o),(122,Z9p),(123,Z9q),(124,Z9n),(125,Yb7)]
def F83:TFun:=⟨[1,10],[(1,qc [qn 1,[.boxN 31 2 [.p (.sl Vq12),.p (.sl Vq3)]],qn 137]),(3,qc [qn 1,[.boxN 31 2 [.p (.sl Vq12),.p (.sl Vq3)]],qn 1,qi,qn 135]),(10,qc [qn 1,[.boxN 31 2 [.p (.sl Vq12),.p (.sl Vq3)]],qn 137]),(12,qc [qn 1,[.boxN 31 2 [.p (.sl Vq12),.p (.sl Vq3)]],qn 3,qi,qn 133]),(21,qc [qn 1,[.boxN 31 2 [.p (.sl Vq12),.p (.sl Vq3)]],qn 5,qi,qn 131])],[.a [.sl Vq12,.sl Vq3]],[.c (.p db)],qc [qn 2,qb,qn 136],[],[],0⟩
noncomputable def Yha:=mkC Z01 prog 83 F83
theorem ok83:Yha.ok prog 83:=mkO ⟨Ysq,Ysr,Yss,Ysp,Yp2,trivial⟩ (by kernel_rfl)
noncomputable def Zmj (a0:Vy13):Option (Bool×Unit):=Yha.fn (a0,())
noncomputable def Zmk (n:Nat)(x0:(List Vy10))(x1:(List Vy2)):Option (Bool×Unit):=itr Z01 prog 83 F83 n 1 (x0,x1,())
noncomputable def Zdm (n:Nat)(x0:(List Vy10))(x1:(List Vy2))(x2:Int):Option (Bool×Unit):=itr Z01 prog 83 F83 n 3 (x0,x1,x2,())
noncomputable def Zkh (n:Nat)(x0:(List Vy10))(x1:(List Vy2)):Option (Bool×Unit):=itr Z01 prog 83 F83 n 10 (x0,x1,())
noncomputable def Zci (n:Nat)(x0:(List Vy10))(x1:(List Vy2))(x2:Int):Option (Bool×Unit):=itr Z01 prog 83 F83 n 12 (x0,x1,x2,())
noncomputable def Zcj (n:Nat)(x0:(List Vy10))(x1:(List Vy2))(x2:Int):Option (Bool×Unit):=itr Z01 prog 83 F83 n 21 (x0,x1,x2,())
theorem Zyo a0:Eq (Zmj a0) <| Zdm fuel a0.1 a0.2.1 0:=mkE (by kernel_rfl)
theorem Zv6 n x0 x1:Eq (Zmk (n+1) x0 x1) <| Zci n x0 x1 0:=mkI (by kernel_rfl)
theorem Zml n x0 x1 x2:Eq (Zdm (n+1) x0 x1 x2) <| bif x2<ofNat x1.length then bif 0≤x2 then match x1[x2.toNat]? with | none=>none | some e0=>let k1:=some (false,());bif e0.1<0 then k1 else bif e0.2.2.1<0 then k1 else bif e0.1≥ofNat x0.length then k1 else bif e0.2.2.1≥ofNat x0.length then k1 else bif e0.2.2.2.2.1<1 then k1 else bif e0.2.2.2.2.1>8 then k1 else Zdm n x0 x1 (wrap .i64 (x2+1)) else none else Zmk n x0 x1:=mkI (by kernel_rfl)
theorem Ztm n x0 x1:Eq (Zkh (n+1) x0 x1) <| Zcj n x0 x1 0:=mkI (by kernel_rfl)
theorem Zki n x0 x1 x2:Eq (Zci (n+1) x0 x1 x2) <| bif x2<ofNat x1.length then bif 0≤x2 then match x1[x2.toNat]? with | none=>none | some e0=>match Zmh (x0,x1,()) x2 with | none=>none | some e1=>let k1:=some (false,());bif !e1.1 then k1 else bif e0.2.1<0 then k1 else match Zev (x0,x1,()) e0.1 with | none=>none | some e2=>bif e0.2.1≥e2.1 then k1 else bif e0.2.2.2.1<0 then k1 else match Zfy (x0,x1,()) e0.2.2.1 with | none=>none | some e3=>bif e0.2.2.2.1≥e3.1 then k1 else Zci n x0 x1 (wrap .i64 (x2+1)) else none else Zkh n x0 x1:=mkI (by kernel_rfl)
theorem Zkj n x0 x1 x2:Eq (Zcj (n+1) x0 x1 x2) <| bif x2<ofNat x0.length then bif 0≤x2 then match x0[x2.toNat]? with | none=>none | some e0=>let k1:=some (false,());bif e0.2.1<0 then k1 else bif e0.2.1>3 then k1 else match Zfy (x0,x1,()) x2 with | none=>none | some e1=>match Zev (x0,x1,()) x2 with | none=>none | some e2=>match Zpk e0.1 e1.1 e2.1 with | none=>none | some e3=>bif !e3.1 then k1 else match Zie (x0,x1,()) x2 with | none=>none | some e4=>bif 0≤x2 then match e4.1[x2.toNat]? with | none=>none | some e5=>bif e5.1 then k1 else Zcj n x0 x1 (wrap .i64 (x2+1)) else none else none else some (true,()):=mkI (by kernel_rfl)
noncomputable def Ysu:Tb:=[(83,Yha)]
def F52:TFun:=⟨[],[],[.a [.sl Vq12,.sl Vq3]],[.c (.p di)],qc [qn 2,qi,qn 13],[],[],0⟩
noncomputable def Yhb:=mkC Ysu prog 52 F52
theorem ok52:Yhb.ok prog 52:=mkO ⟨ok83,trivial⟩ (by kernel_rfl)
noncomputable def Zhw (a0:Vy13):Option (Int×Unit):=Yhb.fn (a0,())
theorem Zyp a0:Eq (Zhw a0) <| bif ofNat a0.1.length>20 then some (4,()) else bif ofNat a0.2.1.length>100 then some (4,()) else match Zmj a0 with | none=>none | some e0=>bif !e0.1 then some (8,()) else some (0,()):=mkE (by kernel_rfl)
noncomputable def Yp3:Tb:=[]
def F126:TFun:=⟨[],[],[.a Vq8],[.c (.p db)],qc [qn 2,qb,qn 8],[],[],0⟩
noncomputable def Zv7:=mkC Yp3 prog 126 F126
theorem Yhc:Zv7.ok prog 126:=mkO trivial (by kernel_rfl)
noncomputable def Zcv (a0:(Int×Int×Int×Unit)):Option (Bool×Unit):=Zv7.fn (a0,())
theorem Zyq a0:Eq (Zcv a0) <| bif a0.2.1≥(-1099511627776) then some (decide (a0.2.1≤1099511627776),()) else some (false,()):=mkE (by kernel_rfl)
noncomputable def Yp4:Tb:=[]
def F127:TFun:=⟨[],[],[.c di],[.c (.p db)],qc [qn 2,qb,qn 10],[],[],0⟩
noncomputable def Zv8:=mkC Yp4 prog 127 F127
theorem Yhd:Zv8.ok prog 127:=mkO trivial (by kernel_rfl)
noncomputable def Zg4 (a0:Int):Option (Bool×Unit):=Zv8.fn (a0,())
theorem Z23 a0:Eq (Zg4 a0) <| let k1:=some (a0==9223372036854775807,());bif a0≥(-1099511627776) then bif a0≤1099511627776 then some (true,()) else k1 else k1:=mkE (by kernel_rfl)
noncomputable def Yp5:Tb:=[]
def F128:TFun:=⟨[],[],[.a Vq3],[.c (.p db)],qc [qn 2,qb,qn 19],[],[],0⟩
noncomputable def Z24:=mkC Yp5 prog 128 F128
theorem Ynq:Z24.ok prog 128:=mkO trivial (by kernel_rfl)
noncomputable def Znv (a0:Vy2):Option (Bool×Unit):=Z24.fn (a0,())
theorem Z5y a0:Eq (Znv a0) <| bif a0.2.1<a0.2.2.1 then bif a0.2.1≥(-2199023255552) then some (decide (a0.2.2.1≤2199023255552),()) else some (false,()) else some (false,()):=mkE (by kernel_rfl)
noncomputable def Ynr:Tb:=[(126,Zv7),(127,Zv8),(128,Z24)]
def F84:TFun:=⟨[3],[(3,qc [qn 1,[.boxN 137 10 [.p (.int .u8),.p di,.p di,.p di,.p di,.p di,.p di,.p di,.p di,.p di]],qn 2,[.c (.p (.int .u8))],qb,qn 42])],[.a Vq4],[.c (.p db)],qc [qn 2,qb,qn 45],[],[],0⟩
noncomputable def Yb8:=mkC Ynr prog 84 F84
theorem ok84:Yb8.ok prog 84:=mkO ⟨Yhc,Yhd,Ynq,trivial⟩ (by kernel_rfl)
noncomputable def Zhx (a0:Vy4):Option (Bool×Unit):=Yb8.fn (a0,())
noncomputable def Zg5 (n:Nat)(x0 x1 x2 x3 x4 x5 x6 x7 x8 x9 x10:Int)(x11:Bool):Option (Bool×Unit):=itr Ynr prog 84 F84 n 3 (x0,x1,x2,x3,x4,x5,x6,x7,x8,x9,x10,x11,())
theorem Zyr a0:Eq (Zhx a0) <| bif a0.1==1 then Zg5 fuel a0.1 a0.2.1 a0.2.2.1 a0.2.2.2.1 a0.2.2.2.2.1 a0.2.2.2.2.2.1 a0.2.2.2.2.2.2.1 a0.2.2.2.2.2.2.2.1 a0.2.2.2.2.2.2.2.2.1 a0.2.2.2.2.2.2.2.2.2.1 a0.1 true else Zg5 fuel a0.1 a0.2.1 a0.2.2.1 a0.2.2.2.1 a0.2.2.2.2.1 a0.2.2.2.2.2.1 a0.2.2.2.2.2.2.1 a0.2.2.2.2.2.2.2.1 a0.2.2.2.2.2.2.2.2.1 a0.2.2.2.2.2.2.2.2.2.1 a0.1 (a0.1==4):=mkE (by kernel_rfl)
theorem Zv9 n x0 x1 x2 x3 x4 x5 x6 x7 x8 x9 x10 x11:Eq (Zg5 (n+1) x0 x1 x2 x3 x4 x5 x6 x7 x8 x9 x10 x11) <| let k1:=some (false,());bif x11 then (Zcv (x1,x2,x3,())).bind fun e0=>bif e0.1 then some ((x0==x0&&(x1==x1&&(x2==x2&&(x3==x3&&(x4==0&&(x5==0&&(x6==0&&(x7==0&&(x8==0&&(x9==0&&true))))))))),())) else k1 else bif x10==2 then (Zg4 x4).bind fun e0=>bif e0.1 then some ((x0==x0&&(x1==0&&(x2==0&&(x3==0&&(x4==x4&&(x5==0&&(x6==0&&(x7==0&&(x8==0&&(x9==0&&true))))))))),())) else k1 else bif x10==3 then (Znv (x5,x6,x7,x8,x9,())).bind fun e0=>bif e0.1 then some ((x0==x0&&(x1==0&&(x2==0&&(x3==0&&(x4==0&&(x5==x5&&(x6==x6&&(x7==x7&&(x8==x8&&(x9==x9&&true))))))))),())) else k1 else k1:=mkI (by kernel_rfl)
noncomputable def Yns:Tb:=[(84,Yb8)]
def F53:TFun:=⟨[],[(6,qc [qn 1,[.boxN 62 2 [.any,.p (.sl Vq4)]],qn 1,qi,qn 30])],[.a Vq13],[.c (.p di)],qc [qn 2,qi,qn 31],[],[],0⟩
noncomputable def Yhe:=mkC Yns prog 53 F53
theorem ok53:Yhe.ok prog 53:=mkO ⟨ok84,trivial⟩ (by kernel_rfl)
noncomputable def Zmm (a0:Vy12):Option (Int×Unit):=Yhe.fn (a0,())
noncomputable def Zdn (n:Nat)(x0:(List Vy4))(x1:Int):Option (Int×Unit):=itr Yns prog 53 F53 n 6 (x0,x1,())
theorem Zys a0:Eq (Zmm a0) <| bif a0.1<1 then some (8,()) else bif a0.1>8 then some (8,()) else bif ofNat a0.2.1.length>a0.1 then some (8,()) else Zdn fuel a0.2.1 0:=mkE (by kernel_rfl)
theorem Zmn n x0 x1:Eq (Zdn (n+1) x0 x1) <| bif x1<ofNat x0.length then ix x0 x1 fun e0=>(Zhx e0).bind fun e1=>bif !e1.1 then some (8,()) else Zdn n x0 (wrap .i64 (x1+1)) else some (0,()):=mkI (by kernel_rfl)
noncomputable def Yhf:Tb:=[]
def F155:TFun:=⟨[2],[(2,qc [qn 1,[.boxN 162 4 [.p di,.p di,.p di,.p di]],qn 1,qb,qn 49])],[.a [.int .i64,.int .i64,.int .i64,.int .i64]],[.c (.p di)],qc [qn 2,qi,qn 50],[],[],0⟩
noncomputable def Z9s:=mkC Yhf prog 155 F155
theorem Ysv:Z9s.ok prog 155:=mkO trivial (by kernel_rfl)
noncomputable def X5 (a0:(Int×Int×Int×Int×Unit)):Option (Int×Unit):=Z9s.fn (a0,())
noncomputable def Zg6 (n:Nat)(x0 x1 x2 x3:Int)(x4:Bool):Option (Int×Unit):=itr Yhf prog 155 F155 n 2 (x0,x1,x2,x3,x4,())
theorem Zyt a0:Eq (X5 a0) <| bif a0.1<0 then Zg6 fuel a0.1 a0.2.1 a0.2.2.1 a0.2.2.2.1 true else Zg6 fuel a0.1 a0.2.1 a0.2.2.1 a0.2.2.2.1 (decide (a0.1>1073741824)):=mkE (by kernel_rfl)
theorem Zwa n x0 x1 x2 x3 x4:Eq (Zg6 (n+1) x0 x1 x2 x3 x4) <| bif x4 then some (8,()) else let k1:Option (Int×Unit):=let k3:Option (Int×Unit):=bif x2>x3 then some (8,()) else some (0,());bif x0==1 then bif x1 !=x2 then some (8,()) else bif x2 !=x3 then some (8,()) else k3 else k3;bif x0==0 then bif x1 !=0 then some (8,()) else bif x2 !=0 then some (8,()) else bif x3 !=0 then some (8,()) else k1 else k1:=mkI (by kernel_rfl)
noncomputable def Yp6:Tb:=[]
def F156:TFun:=⟨[],[],[.a Vq2,.a Vq2],[.c (.p db)],qc [qn 4,qb,qn 33],[],[],0⟩
noncomputable def Z9t:=mkC Yp6 prog 156 F156
theorem Ysw:Z9t.ok prog 156:=mkO trivial (by kernel_rfl)
noncomputable def Zg7 (a0 a1:Vy1):Option (Bool×Unit):=Z9t.fn (a0,a1,())
theorem Z25 a0 a1:Eq (Zg7 a0 a1) <| bif a0.2.2.1 !=a1.2.2.1 then some (decide (a0.2.2.1<a1.2.2.1),()) else bif a0.2.1 !=a1.2.1 then some (decide (a0.2.1<a1.2.1),()) else some (decide (a0.1<a1.1),()):=mkE (by kernel_rfl)
noncomputable def Yhg:Tb:=[(155,Z9s),(156,Z9t)]
def F132:TFun:=⟨[],[(6,qc [[.c (.p (.sl Vq2))],qn 2,qi,qn 81])],[.c (.sl Vq2)],[.c (.p di)],qc [qn 2,qi,qn 82],[],[],0⟩
noncomputable def Z9u:=mkC Yhg prog 132 F132
theorem Ysx:Z9u.ok prog 132:=mkO ⟨Ysv,Ysw,trivial⟩ (by kernel_rfl)
noncomputable def Zmo (a0:(List Vy1)):Option (Int×Unit):=Z9u.fn (a0,())
noncomputable def Yu (n:Nat)(x0:(List Vy1))(x1:Int):Option (Int×Unit):=itr Yhg prog 132 F132 n 6 (x0,x1,())
theorem Zyu a0:Eq (Zmo a0) <| bif ofNat a0.length>4000 then some (4,()) else Yu fuel a0 0:=mkE (by kernel_rfl)
theorem Zmp n x0 x1:Eq (Yu (n+1) x0 x1) <| bif x1<ofNat x0.length then ix x0 x1 fun e0=>bif e0.2.1≥(-1100585369600) then bif e0.2.1<e0.2.2.1 then (X5 (e0.2.2.2.1,e0.2.2.2.2.1,e0.2.2.2.2.2.1,e0.2.2.2.2.2.2.1,())).bind fun e1=>bif e1.1==0 then (X5 e0.2.2.2.2.2.2.2).bind fun e2=>bif !decide (e0.2.2.1≤1100585369600) then some (8,()) else bif !e2.1==0 then some (8,()) else let k1:Option (Int×Unit):=let k3:=Yu n x0 (wrap .i64 (x1+1));bif x1>0 then ix x0 (wrap .i64 (x1 - 1)) fun e3=>(Zg7 e3 e0).bind fun e4=>bif !e4.1 then some (8,()) else k3 else k3;bif e0.2.2.2.1==0 then bif e0.2.2.2.2.2.2.2.1==0 then some (8,()) else k1 else k1 else bif !decide (e0.2.2.1≤1100585369600) then some (8,()) else some (8,()) else (X5 (e0.2.2.2.1,e0.2.2.2.2.1,e0.2.2.2.2.2.1,e0.2.2.2.2.2.2.1,())).bind fun e1=>bif e1.1==0 then (X5 e0.2.2.2.2.2.2.2).bind fun e2=>some (8,()) else some (8,()) else (X5 (e0.2.2.2.1,e0.2.2.2.2.1,e0.2.2.2.2.2.1,e0.2.2.2.2.2.2.1,())).bind fun e1=>bif e1.1==0 then (X5 e0.2.2.2.2.2.2.2).bind fun e2=>some (8,()) else some (8,()) else some (0,()):=mkI (by kernel_rfl)
noncomputable def Yp7:Tb:=[(127,Zv8)]
def F154:TFun:=⟨[],[],[.c di],[.c (.p db)],qc [qn 2,qb,qn 6],[],[],0⟩
noncomputable def Z9v:=mkC Yp7 prog 154 F154
theorem Ysy:Z9v.ok prog 154:=mkO ⟨Yhd,trivial⟩ (by kernel_rfl)
noncomputable def Zmq (a0:Int):Option (Bool×Unit):=Z9v.fn (a0,())
theorem Zyv a0:Eq (Zmq a0) <| bif a0==(-9223372036854775808) then some (true,()) else (Zg4 a0).bind fun e0=>some (e0.1,()):=mkE (by kernel_rfl)
noncomputable def Yp8:Tb:=[(127,Zv8),(126,Zv7)]
def F135:TFun:=⟨[],[],[.a Vq7],[.c (.p di)],qc [qn 2,qi,qn 28],[],[],0⟩
noncomputable def Z26:=mkC Yp8 prog 135 F135
theorem Ynt:Z26.ok prog 135:=mkO ⟨Yhd,Yhc,trivial⟩ (by kernel_rfl)
noncomputable def Zfb (a0:(Bool×Int×Int×Int×Int×Unit)):Option (Int×Unit):=Z26.fn (a0,())
theorem Zyw a0:Eq (Zfb a0) <| bif a0.1 then (Zg4 a0.2.1).bind fun e0=>let k1:Option (Int×Unit):=bif !a0.1 then bif a0.2.1==0 then (Zcv a0.2.2).bind fun e1=>bif e1.1 then some (0,()) else some (8,()) else some (8,()) else some (8,());bif e0.1 then bif a0.2.2.1==0&&(a0.2.2.2.1==0&&(a0.2.2.2.2.1==0&&true)) then some (0,()) else k1 else k1 else bif !a0.1 then bif a0.2.1==0 then (Zcv a0.2.2).bind fun e0=>bif e0.1 then some (0,()) else some (8,()) else some (8,()) else some (8,()):=mkE (by kernel_rfl)
noncomputable def Zmr:Tb:=[(154,Z9v),(135,Z26),(128,Z24),(126,Zv7)]
def F131:TFun:=⟨[1,10,19],[(1,qc [qn 1,[.boxN 58 9 [.any,.any,.any,.any,.any,.any,.p (.sl Vq7),.p (.sl Vq3),.p (.sl Vq8)]],qn 61]),(3,qc [qn 1,[.boxN 58 9 [.any,.any,.any,.any,.p (.sl Vq11),.any,.p (.sl Vq7),.p (.sl Vq3),.p (.sl Vq8)]],qn 1,qi,qn 59]),(10,qc [qn 1,[.boxN 58 9 [.any,.any,.any,.any,.any,.any,.any,.p (.sl Vq3),.p (.sl Vq8)]],qn 61]),(12,qc [qn 1,[.boxN 58 9 [.any,.any,.any,.any,.any,.any,.p (.sl Vq7),.p (.sl Vq3),.p (.sl Vq8)]],qn 2,qi,qn 58]),(19,qc [qn 1,[.boxN 58 9 [.any,.any,.any,.any,.any,.any,.any,.any,.p (.sl Vq8)]],qn 61]),(21,qc [qn 1,[.boxN 58 9 [.any,.any,.any,.any,.any,.any,.any,.p (.sl Vq3),.p (.sl Vq8)]],qn 3,qi,qn 57]),(30,qc [qn 1,[.boxN 58 9 [.any,.any,.any,.any,.any,.any,.any,.any,.p (.sl Vq8)]],qn 4,qi,qn 56])],[.a Vq1],[.c (.p db)],qc [qn 2,qb,qn 60],[],[],0⟩
noncomputable def Z9w:=mkC Zmr prog 131 F131
theorem Ysz:Z9w.ok prog 131:=mkO ⟨Ysy,Ynt,Ynq,Yhc,trivial⟩ (by kernel_rfl)
noncomputable def Zms (a0:Vy3):Option (Bool×Unit):=Z9w.fn (a0,())
noncomputable def Zmt (n:Nat)(x0:Vy5)(x1:(List Vy2))(x2:Vy6):Option (Bool×Unit):=itr Zmr prog 131 F131 n 1 (x0,x1,x2,())
noncomputable def Zbm (n:Nat)(x0:Vy8)(x1:Vy5)(x2:(List Vy2))(x3:Vy6)(x4:Int):Option (Bool×Unit):=itr Zmr prog 131 F131 n 3 (x0,x1,x2,x3,x4,())
noncomputable def Zkk (n:Nat)(x0:(List Vy2))(x1:Vy6):Option (Bool×Unit):=itr Zmr prog 131 F131 n 10 (x0,x1,())
noncomputable def Za1 (n:Nat)(x0:Vy5)(x1:(List Vy2))(x2:Vy6)(x3:Int):Option (Bool×Unit):=itr Zmr prog 131 F131 n 12 (x0,x1,x2,x3,())
noncomputable def Zkl (n:Nat)(x0:Vy6):Option (Bool×Unit):=itr Zmr prog 131 F131 n 19 (x0,())
noncomputable def Za2 (n:Nat)(x0:(List Vy2))(x1:Vy6)(x2:Int):Option (Bool×Unit):=itr Zmr prog 131 F131 n 21 (x0,x1,x2,())
noncomputable def Za3 (n:Nat)(x0:Vy6)(x1:Int):Option (Bool×Unit):=itr Zmr prog 131 F131 n 30 (x0,x1,())
theorem Zyx a0:Eq (Zms a0) <| Zbm fuel a0.2.2.2.2.1 a0.2.2.2.2.2.2.1 a0.2.2.2.2.2.2.2.1 a0.2.2.2.2.2.2.2.2.1 0:=mkE (by kernel_rfl)
theorem Zwb n x0 x1 x2:Eq (Zmt (n+1) x0 x1 x2) <| Za1 n x0 x1 x2 0:=mkI (by kernel_rfl)
theorem Zmu n x0 x1 x2 x3 x4:Eq (Zbm (n+1) x0 x1 x2 x3 x4) <| bif x4<ofNat x0.length then ix x0 x4 fun e0=>(Zmq e0.1).bind fun e1=>bif !e1.1 then some (false,()) else Zbm n x0 x1 x2 x3 (wrap .i64 (x4+1)) else Zmt n x1 x2 x3:=mkI (by kernel_rfl)
theorem Ztn n x0 x1:Eq (Zkk (n+1) x0 x1) <| Za2 n x0 x1 0:=mkI (by kernel_rfl)
theorem Zkm n x0 x1 x2 x3:Eq (Za1 (n+1) x0 x1 x2 x3) <| bif x3<ofNat x0.length then ix x0 x3 fun e0=>(Zfb e0).bind fun e1=>bif e1.1 !=0 then some (false,()) else Za1 n x0 x1 x2 (wrap .i64 (x3+1)) else Zkk n x1 x2:=mkI (by kernel_rfl)
theorem Zto n x0:Eq (Zkl (n+1) x0) <| Za3 n x0 0:=mkI (by kernel_rfl)
theorem Zkn n x0 x1 x2:Eq (Za2 (n+1) x0 x1 x2) <| bif x2<ofNat x0.length then ix x0 x2 fun e0=>(Znv e0).bind fun e1=>bif !e1.1 then some (false,()) else Za2 n x0 x1 (wrap .i64 (x2+1)) else Zkl n x1:=mkI (by kernel_rfl)
theorem Zko n x0 x1:Eq (Za3 (n+1) x0 x1) <| bif x1<ofNat x0.length then ix x0 x1 fun e0=>(Zcv e0).bind fun e1=>bif !e1.1 then some (false,()) else Za3 n x0 (wrap .i64 (x1+1)) else some (true,()):=mkI (by kernel_rfl)
noncomputable def Yhh:Tb:=[(84,Yb8)]
def F130:TFun:=⟨[],[(3,qc [[.c (.p (.sl Vq6))],qn 2,qi,qn 29])],[.c (.sl Vq6)],[.c (.p db)],qc [qn 2,qb,qn 30],[],[],0⟩
noncomputable def Z9x:=mkC Yhh prog 130 F130
theorem Ys0:Z9x.ok prog 130:=mkO ⟨ok84,trivial⟩ (by kernel_rfl)
noncomputable def Zmv (a0:(List Vy1)):Option (Bool×Unit):=Z9x.fn (a0,())
noncomputable def Zdo (n:Nat)(x0:(List Vy1))(x1:Int):Option (Bool×Unit):=itr Yhh prog 130 F130 n 3 (x0,x1,())
theorem Zyy a0:Eq (Zmv a0) <| Zdo fuel a0 0:=mkE (by kernel_rfl)
theorem Zmw n x0 x1:Eq (Zdo (n+1) x0 x1) <| bif x1<ofNat x0.length then ix x0 x1 fun e0=>bif e0.1<0 then some (false,()) else ix x0 x1 fun e1=>bif e1.1≥3 then some (false,()) else ix x0 x1 fun e2=>(Zhx e2.2).bind fun e3=>bif !e3.1 then some (false,()) else Zdo n x0 (wrap .i64 (x1+1)) else some (true,()):=mkI (by kernel_rfl)
noncomputable def Yhi:Tb:=[]
def F129:TFun:=⟨[2],[(2,qc [qn 1,[.boxN 58 9 [.any,.any,.any,.any,.p (.sl Vq11),.p (.sl Vq2),.p (.sl Vq7),.p (.sl Vq3),.p (.sl Vq8)]],qn 1,qi,qi,qi,qi,qi,qn 61])],[.a Vq1],[.c (.p db)],qc [qn 2,qb,qn 66],[],[],0⟩
noncomputable def Z9y:=mkC Yhi prog 129 F129
theorem Ys1:Z9y.ok prog 129:=mkO trivial (by kernel_rfl)
noncomputable def Zpl (a0:Vy3):Option (Bool×Unit):=Z9y.fn (a0,())
noncomputable def X6 (n:Nat)(x0:Vy8)(x1:(List Vy1))(x2:Vy5)(x3:(List Vy2))(x4:Vy6)(x5 x6 x7 x8 x9:Int):Option (Bool×Unit):=itr Yhi prog 129 F129 n 2 (x0,x1,x2,x3,x4,x5,x6,x7,x8,x9,())
theorem Z27 a0:Eq (Zpl a0) <| bif a0.1==1 then X6 fuel a0.2.2.2.2.1 a0.2.2.2.2.2.1 a0.2.2.2.2.2.2.1 a0.2.2.2.2.2.2.2.1 a0.2.2.2.2.2.2.2.2.1 0 0 60 0 0 else bif a0.1==2 then X6 fuel a0.2.2.2.2.1 a0.2.2.2.2.2.1 a0.2.2.2.2.2.2.1 a0.2.2.2.2.2.2.2.1 a0.2.2.2.2.2.2.2.2.1 1 0 0 0 0 else bif a0.1==3 then X6 fuel a0.2.2.2.2.1 a0.2.2.2.2.2.1 a0.2.2.2.2.2.2.1 a0.2.2.2.2.2.2.2.1 a0.2.2.2.2.2.2.2.2.1 0 0 0 0 0 else bif a0.1==4 then X6 fuel a0.2.2.2.2.1 a0.2.2.2.2.2.1 a0.2.2.2.2.2.2.1 a0.2.2.2.2.2.2.2.1 a0.2.2.2.2.2.2.2.2.1 (tmm false 4 (tmm true 1 (ofNat a0.2.2.2.2.1.length))) (ofNat a0.2.2.2.2.2.1.length) 0 0 0 else bif a0.1==5 then X6 fuel a0.2.2.2.2.1 a0.2.2.2.2.2.1 a0.2.2.2.2.2.2.1 a0.2.2.2.2.2.2.2.1 a0.2.2.2.2.2.2.2.2.1 2 (ofNat a0.2.2.2.2.2.1.length) 0 0 0 else bif a0.1==6 then X6 fuel a0.2.2.2.2.1 a0.2.2.2.2.2.1 a0.2.2.2.2.2.2.1 a0.2.2.2.2.2.2.2.1 a0.2.2.2.2.2.2.2.2.1 0 0 0 4000 0 else bif a0.1==7 then X6 fuel a0.2.2.2.2.1 a0.2.2.2.2.2.1 a0.2.2.2.2.2.2.1 a0.2.2.2.2.2.2.2.1 a0.2.2.2.2.2.2.2.2.1 0 0 0 0 4000 else some (false,()):=mkE (by kernel_rfl)
theorem Zyz n x0 x1 x2 x3 x4 x5 x6 x7 x8 x9:Eq (X6 (n+1) x0 x1 x2 x3 x4 x5 x6 x7 x8 x9) <| let k1:=some (false,());bif ofNat x0.length==x5 then bif ofNat x1.length≤x6 then bif ofNat x2.length≤x7 then bif ofNat x3.length≤x8 then some (decide (ofNat x4.length≤x9),()) else k1 else k1 else k1 else k1:=mkI (by kernel_rfl)
noncomputable def Ynu:Tb:=[(129,Z9y),(130,Z9x),(131,Z9w),(132,Z9u)]
def F85:TFun:=⟨[],[(13,qc [qn 1,[.boxN 58 9 [.p (.int .u8),.any,.any,.any,.any,.p (.sl Vq2),.any,.any,.any]],qn 1,qi,qn 68])],[.a Vq1],[.c (.p di)],qc [qn 2,qi,qn 69],[],[],0⟩
noncomputable def Yhj:=mkC Ynu prog 85 F85
theorem ok85:Yhj.ok prog 85:=mkO ⟨Ys1,Ys0,Ysz,Ysx,trivial⟩ (by kernel_rfl)
noncomputable def Zhy (a0:Vy3):Option (Int×Unit):=Yhj.fn (a0,())
noncomputable def Zck (n:Nat)(x0:Int)(x1:(List Vy1))(x2:Int):Option (Int×Unit):=itr Ynu prog 85 F85 n 13 (x0,x1,x2,())
theorem Zy0 a0:Eq (Zhy a0) <| let k1:Option (Int×Unit):=some (8,());bif a0.2.2.1<0 then k1 else bif a0.2.2.1≥20 then k1 else bif ofNat a0.2.2.2.1.length>4000 then k1 else bif a0.2.1<0 then k1 else bif a0.2.1≥4 then k1 else (Zpl a0).bind fun e0=>bif !e0.1 then k1 else (Zmv a0.2.2.2.1).bind fun e1=>bif !e1.1 then k1 else (Zms a0).bind fun e2=>bif !e2.1 then k1 else (Zmo a0.2.2.2.2.2.1).bind fun e3=>bif e3.1 !=0 then k1 else Zck fuel a0.1 a0.2.2.2.2.2.1 0:=mkE (by kernel_rfl)
theorem Zkp n x0 x1 x2:Eq (Zck (n+1) x0 x1 x2) <| bif x2<ofNat x1.length then let k1:=Zck n x0 x1 (wrap .i64 (x2+1));bif x0==4 then ix x1 x2 fun e0=>bif e0.2.2.2.2.2.2.2.1 !=0 then some (8,()) else k1 else k1 else some (0,()):=mkI (by kernel_rfl)
end Tg
