import Derived.Test.YtdgcdoiefodccaaGreatProg
import Derived.Test.YtdgcdoiefodccaaGreatBVT
/- Functions of the code, told plainly and checked by the kernel. -/
set_option linter.unusedVariables false
set_option linter.unusedSimpArgs false
set_option maxRecDepth 100000
namespace Tg
open Go.Abs hiding fuel
open Go.Proofs.Tryz (prog)
open Int (ofNat toNat)
open Go.IntKind (wrap)
noncomputable def Ypf:Tb:=[]
def F104:TFun:=⟨[],[],[.c di],[.c (.p db)],qc [qn 2,qb,qn 6],[],[],0⟩
noncomputable def Zvu:=mkC Ypf prog 104 F104
theorem Ygx:Zvu.ok prog 104:=mkO trivial (by kernel_rfl)
noncomputable def Zbk (a0:Int):Option (Bool×Unit):=Zvu.fn (a0,())
theorem Zrt a0:Eq (Zbk a0) <| bif a0≥(-1099511627776) then some (decide (a0≤1099511627776),()) else some (false,()):=mkE (by kernel_rfl)
noncomputable def Ypg:Tb:=[(104,Zvu)]
def F105:TFun:=⟨[],[],[.c di],[.c (.p db)],qc [qn 2,qb,qn 6],[],[],0⟩
noncomputable def Z2s:=mkC Ypg prog 105 F105
theorem Ynm:Z2s.ok prog 105:=mkO ⟨Ygx,trivial⟩ (by kernel_rfl)
noncomputable def Zdg (a0:Int):Option (Bool×Unit):=Z2s.fn (a0,())
theorem Zru a0:Eq (Zdg a0) <| (Zbk a0).bind fun e0=>bif e0.1 then some (true,()) else some (a0==9223372036854775807,()):=mkE (by kernel_rfl)
noncomputable def Ygy:Tb:=[(104,Zvu),(105,Z2s)]
def F69:TFun:=⟨[5,3],[(3,qc [qn 1,[.boxN 137 10 [.p (.int .u8),.p di,.p di,.p di,.p di,.p di,.p di,.p di,.p di,.p di]],qn 1,qb,[.boxN 137 10 [.p (.int .u8),.p di,.p di,.p di,.p di,.p di,.p di,.p di,.p di,.p di]],qn 54]),(5,qc [qn 1,[.boxN 137 10 [.p (.int .u8),.p di,.p di,.p di,.p di,.p di,.p di,.p di,.p di,.p di]],qn 1,qb,[.boxN 137 10 [.p (.int .u8),.p di,.p di,.p di,.p di,.p di,.p di,.p di,.p di,.p di]],qn 5,[.c (.p (.int .u8))],qb,qn 47])],[.a Vq4],[.c (.p di)],qc [qn 2,qi,qn 56],[],[],0⟩
noncomputable def Z00:=mkC Ygy prog 69 F69
theorem ok69:Z00.ok prog 69:=mkO ⟨Ygx,Ynm,trivial⟩ (by kernel_rfl)
noncomputable def Q8 (a0:Vy4):Option (Int×Unit):=Z00.fn (a0,())
noncomputable def X9 (n:Nat)(x0 x1 x2 x3 x4 x5 x6 x7 x8 x9:Int)(x10:Bool)(x11 x12 x13 x14 x15 x16 x17 x18 x19 x20:Int):Option (Int×Unit):=itr Ygy prog 69 F69 n 3 (x0,x1,x2,x3,x4,x5,x6,x7,x8,x9,x10,x11,x12,x13,x14,x15,x16,x17,x18,x19,x20,())
noncomputable def Zeh (n:Nat)(x0 x1 x2 x3 x4 x5 x6 x7 x8 x9:Int)(x10:Bool)(x11 x12 x13 x14 x15 x16 x17 x18 x19 x20 x21:Int)(x22:Bool):Option (Int×Unit):=itr Ygy prog 69 F69 n 5 (x0,x1,x2,x3,x4,x5,x6,x7,x8,x9,x10,x11,x12,x13,x14,x15,x16,x17,x18,x19,x20,x21,x22,())
theorem Zte a0:Eq (Q8 a0) <| bif a0.1==1 then Zeh fuel a0.1 a0.2.1 a0.2.2.1 a0.2.2.2.1 a0.2.2.2.2.1 a0.2.2.2.2.2.1 a0.2.2.2.2.2.2.1 a0.2.2.2.2.2.2.2.1 a0.2.2.2.2.2.2.2.2.1 a0.2.2.2.2.2.2.2.2.2.1 false a0.1 0 0 0 0 0 0 0 0 0 a0.1 true else Zeh fuel a0.1 a0.2.1 a0.2.2.1 a0.2.2.2.1 a0.2.2.2.2.1 a0.2.2.2.2.2.1 a0.2.2.2.2.2.2.1 a0.2.2.2.2.2.2.2.1 a0.2.2.2.2.2.2.2.2.1 a0.2.2.2.2.2.2.2.2.2.1 false a0.1 0 0 0 0 0 0 0 0 0 a0.1 (a0.1==4):=mkE (by kernel_rfl)
theorem Zrv n x0 x1 x2 x3 x4 x5 x6 x7 x8 x9 x10 x11 x12 x13 x14 x15 x16 x17 x18 x19 x20:Eq (X9 (n+1) x0 x1 x2 x3 x4 x5 x6 x7 x8 x9 x10 x11 x12 x13 x14 x15 x16 x17 x18 x19 x20) <| bif !x10 then some (8,()) else bif !(x0==x11&&(x1==x12&&(x2==x13&&(x3==x14&&(x4==x15&&(x5==x16&&(x6==x17&&(x7==x18&&(x8==x19&&(x9==x20&&true)))))))))) then some (8,()) else some (0,()):=mkI (by kernel_rfl)
theorem Zrw n x0 x1 x2 x3 x4 x5 x6 x7 x8 x9 x10 x11 x12 x13 x14 x15 x16 x17 x18 x19 x20 x21 x22:Eq (Zeh (n+1) x0 x1 x2 x3 x4 x5 x6 x7 x8 x9 x10 x11 x12 x13 x14 x15 x16 x17 x18 x19 x20 x21 x22) <| bif x22 then (Zbk x2).bind fun e0=>X9 n x0 x1 x2 x3 x4 x5 x6 x7 x8 x9 e0.1 x11 x1 x2 x3 x15 x16 x17 x18 x19 x20 else bif x21==2 then (Zdg x4).bind fun e0=>X9 n x0 x1 x2 x3 x4 x5 x6 x7 x8 x9 e0.1 x11 x12 x13 x14 x4 x16 x17 x18 x19 x20 else bif x21==3 then let k1:=X9 n x0 x1 x2 x3 x4 x5 x6 x7 x8 x9 false x11 x12 x13 x14 x15 x5 x6 x7 x8 x9;bif (-2199023255552)≤x6 then bif x6<x7 then X9 n x0 x1 x2 x3 x4 x5 x6 x7 x8 x9 (decide (x7≤2199023255552)) x11 x12 x13 x14 x15 x5 x6 x7 x8 x9 else k1 else k1 else X9 n x0 x1 x2 x3 x4 x5 x6 x7 x8 x9 x10 x11 x12 x13 x14 x15 x16 x17 x18 x19 x20:=mkI (by kernel_rfl)
noncomputable def Ynn:Tb:=[(69,Z00)]
def F29:TFun:=⟨[],[(6,qc [qn 23,[.c (.p (.sl Vq4))],qi,qi,qn 9])],[.a Vq13],[.c (.p di)],qc [qn 2,qi,qn 32],[],[],0⟩
noncomputable def Ygz:=mkC Ynn prog 29 F29
theorem ok29:Ygz.ok prog 29:=mkO ⟨ok69,trivial⟩ (by kernel_rfl)
noncomputable def Zid (a0:Vy12):Option (Int×Unit):=Ygz.fn (a0,())
noncomputable def Zb2 (n:Nat)(x0:(List Vy4))(x1 x2:Int):Option (Int×Unit):=itr Ynn prog 29 F29 n 6 (x0,x1,x2,())
theorem Ztf a0:Eq (Zid a0) <| bif a0.1<1 then some (8,()) else bif a0.1>8 then some (8,()) else bif ofNat a0.2.1.length>a0.1 then some (8,()) else Zb2 fuel a0.2.1 (ofNat a0.2.1.length) 0:=mkE (by kernel_rfl)
theorem Zit n x0 x1 x2:Eq (Zb2 (n+1) x0 x1 x2) <| bif x2<x1 then ix x0 x2 fun e0=>(Q8 e0).bind fun e1=>bif e1.1 !=0 then some (e1.1,()) else Zb2 n x0 x1 (wrap .i64 (x2+1)) else some (0,()):=mkI (by kernel_rfl)
noncomputable def Yph:Tb:=[(105,Z2s),(104,Zvu)]
def F116:TFun:=⟨[],[],[.a Vq7],[.a [.p (.int .u8),.p di,.p di,.p di,.p di,.p di,.p di,.p di,.p di,.p di],.c (.p di)],qc [qn 2,[.boxN 137 10 [.p (.int .u8),.p di,.p di,.p di,.p di,.p di,.p di,.p di,.p di,.p di]],qi,qn 30],[],[],0⟩
noncomputable def Z8z:=mkC Yph prog 116 F116
theorem Yry:Z8z.ok prog 116:=mkO ⟨Ynm,Ygx,trivial⟩ (by kernel_rfl)
noncomputable def Zvv (a0:(Bool×Int×Int×Int×Int×Unit)):Option (Vy4×Int×Unit):=Z8z.fn (a0,())
theorem Z2t a0:Eq (Zvv a0) <| let k1:Option (Vy4×Int×Unit):=some (((0,0,0,0,0,0,0,0,0,0,()),8,()));bif a0.1 then (Zdg a0.2.1).bind fun e0=>bif !e0.1 then k1 else bif !(a0.2.2.1==0&&(a0.2.2.2.1==0&&(a0.2.2.2.2.1==0&&true))) then k1 else some (((2,0,0,0,a0.2.1,0,0,0,0,0,()),0,())) else bif a0.2.1 !=0 then k1 else (Zbk a0.2.2.2.1).bind fun e0=>bif !e0.1 then k1 else some (((1,a0.2.2.1,a0.2.2.2.1,a0.2.2.2.2.1,0,0,0,0,0,0,()),0,())):=mkE (by kernel_rfl)
noncomputable def Yrz:Tb:=[(116,Z8z)]
def F79:TFun:=⟨[],[],[.a Vq7],[.c (.p di)],qc [qn 2,qi,qn 8],[],[],0⟩
noncomputable def Yb4:=mkC Yrz prog 79 F79
theorem ok79:Yb4.ok prog 79:=mkO ⟨Yry,trivial⟩ (by kernel_rfl)
noncomputable def Zcc (a0:(Bool×Int×Int×Int×Int×Unit)):Option (Int×Unit):=Yb4.fn (a0,())
theorem Ztg a0:Eq (Zcc a0) <| (Zvv a0).bind fun e0=>some (e0.2.1,()):=mkE (by kernel_rfl)
noncomputable def Ypi:Tb:=[]
def F106:TFun:=⟨[],[],[.c (.int .u8)],[.c (.p di),.c (.p di),.c (.p db),.c (.p db),.c (.p db),.c (.p db)],qc [qn 2,qi,qi,qb,qb,qb,qb,qn 15],[],[],0⟩
noncomputable def Z80:=mkC Ypi prog 106 F106
theorem Yr0:Z80.ok prog 106:=mkO trivial (by kernel_rfl)
noncomputable def Zly (a0:Int):Option (Int×Int×Bool×Bool×Bool×Bool×Unit):=Z80.fn (a0,())
theorem Zx3 a0:Eq (Zly a0) <| bif a0==1 then some (0,0,false,true,false,false,()) else bif a0==2 then some (1,1,false,false,false,false,()) else bif a0==3 then some (0,0,false,false,false,false,()) else bif a0==4 then some (1,4,true,false,false,false,()) else bif a0==5 then some (2,2,true,false,false,false,()) else bif a0==6 then some (0,0,false,false,true,false,()) else bif a0==7 then some (0,0,false,false,false,true,()) else some (1,0,false,false,false,false,()):=mkE (by kernel_rfl)
noncomputable def Ypj:Tb:=[]
def F107:TFun:=⟨[],[],[.c db,.c di],[.c (.p di)],qc [qn 4,qi,qn 2],[],[],0⟩
noncomputable def Z81:=mkC Ypj prog 107 F107
theorem Yr1:Z81.ok prog 107:=mkO trivial (by kernel_rfl)
noncomputable def Zei (a0:Bool)(a1:Int):Option (Int×Unit):=Z81.fn (a0,a1,())
theorem Zs3 a0 a1:Eq (Zei a0 a1) <| bif a0 then some (a1,()) else some (0,()):=mkE (by kernel_rfl)
noncomputable def Yg0:Tb:=[(69,Z00)]
def F108:TFun:=⟨[],[(3,qc [qn 5,[.c (.p (.sl Vq6))],qi,qi,qn 18])],[.c (.sl Vq6)],[.c (.p db)],qc [qn 2,qb,qn 23],[],[],0⟩
noncomputable def Z82:=mkC Yg0 prog 108 F108
theorem Yr2:Z82.ok prog 108:=mkO ⟨ok69,trivial⟩ (by kernel_rfl)
noncomputable def Zph (a0:(List Vy1)):Option (Bool×Unit):=Z82.fn (a0,())
noncomputable def Zer (n:Nat)(x0:(List Vy1))(x1 x2:Int):Option (Bool×Unit):=itr Yg0 prog 108 F108 n 3 (x0,x1,x2,())
theorem Z2u a0:Eq (Zph a0) <| Zer fuel a0 (ofNat a0.length) 0:=mkE (by kernel_rfl)
theorem Zol n x0 x1 x2:Eq (Zer (n+1) x0 x1 x2) <| bif x2<x1 then ix x0 x2 fun e0=>bif e0.1<0 then some (false,()) else bif e0.1≥3 then some (false,()) else (Q8 e0.2).bind fun e1=>bif e1.1 !=0 then some (false,()) else Zer n x0 x1 (wrap .i64 (x2+1)) else some (true,()):=mkI (by kernel_rfl)
noncomputable def Ypk:Tb:=[(69,Z00)]
def F110:TFun:=⟨[],[],[.c di],[.c (.p db)],qc [qn 2,qb,qn 8],[],[],0⟩
noncomputable def Z83:=mkC Ypk prog 110 F110
theorem Yr3:Z83.ok prog 110:=mkO ⟨ok69,trivial⟩ (by kernel_rfl)
noncomputable def Zlz (a0:Int):Option (Bool×Unit):=Z83.fn (a0,())
theorem Zx4 a0:Eq (Zlz a0) <| bif a0==(-9223372036854775808) then some (true,()) else (Q8 (2,0,0,0,a0,0,0,0,0,0,())).bind fun e0=>some (e0.1==0,()):=mkE (by kernel_rfl)
noncomputable def Ypl:Tb:=[]
def F161:TFun:=⟨[],[],[.a [.int .i64,.int .i64,.int .i64,.int .i64]],[.c (.p di)],qc [qn 2,qi,qn 40],[],[],0⟩
noncomputable def Z84:=mkC Ypl prog 161 F161
theorem Yr4:Z84.ok prog 161:=mkO trivial (by kernel_rfl)
noncomputable def Zfx (a0:(Int×Int×Int×Int×Unit)):Option (Int×Unit):=Z84.fn (a0,())
theorem Zvw a0:Eq (Zfx a0) <| let k1:Option (Int×Unit):=some (8,());bif a0.1==0 then bif !(a0.1==0&&(a0.2.1==0&&(a0.2.2.1==0&&(a0.2.2.2.1==0&&true)))) then k1 else some (0,()) else bif a0.1==1 then bif a0.2.1==a0.2.2.1 then bif !a0.2.1==a0.2.2.2.1 then k1 else some (0,()) else k1 else bif a0.1>1 then bif a0.1≤1073741824 then bif !decide (a0.2.2.1≤a0.2.2.2.1) then k1 else some (0,()) else k1 else k1:=mkE (by kernel_rfl)
noncomputable def Ypm:Tb:=[(161,Z84)]
def F143:TFun:=⟨[],[],[.a Vq2],[.c (.p db)],qc [qn 2,qb,qn 43],[],[],0⟩
noncomputable def Z85:=mkC Ypm prog 143 F143
theorem Yr5:Z85.ok prog 143:=mkO ⟨Yr4,trivial⟩ (by kernel_rfl)
noncomputable def Zl0 (a0:Vy1):Option (Bool×Unit):=Z85.fn (a0,())
theorem Zx5 a0:Eq (Zl0 a0) <| let k1:=some (false,());bif a0.2.1<(-1100585369600) then k1 else bif a0.2.2.1≤a0.2.1 then k1 else bif a0.2.2.1>1100585369600 then k1 else (Zfx (a0.2.2.2.1,a0.2.2.2.2.1,a0.2.2.2.2.2.1,a0.2.2.2.2.2.2.1,())).bind fun e0=>bif e0.1==0 then (Zfx a0.2.2.2.2.2.2.2).bind fun e1=>bif e1.1==0 then some ((decide (wrap .i64 (a0.2.2.2.1+a0.2.2.2.2.2.2.2.1)>0),())) else k1 else k1:=mkE (by kernel_rfl)
noncomputable def Ypn:Tb:=[]
def F190:TFun:=⟨[],[],[.c di],[.c (.p db)],qc [qn 2,qb,qn 3],[],[],0⟩
noncomputable def Z86:=mkC Ypn prog 190 F190
theorem Yr6:Z86.ok prog 190:=mkO trivial (by kernel_rfl)
noncomputable def Zej (a0:Int):Option (Bool×Unit):=Z86.fn (a0,())
theorem Zpi a0:Eq (Zej a0) <| some (a0 !=a0,()):=mkE (by kernel_rfl)
noncomputable def Ypo:Tb:=[(190,Z86)]
def F163:TFun:=⟨[],[],[.c di,.c di],[.c (.p di)],qc [qn 4,qi,qn 15],[],[],0⟩
noncomputable def Z87:=mkC Ypo prog 163 F163
theorem Yr7:Z87.ok prog 163:=mkO ⟨Yr6,trivial⟩ (by kernel_rfl)
noncomputable def Qf (a0 a1:Int):Option (Int×Unit):=Z87.fn (a0,a1,())
theorem Zl1 a0 a1:Eq (Qf a0 a1) <| (Zej a0).bind fun e0=>(Zej a1).bind fun e1=>bif e0.1 then bif e1.1 then some (0,()) else some ((-1),()) else bif e1.1 then some (1,()) else bif a0<a1 then some ((-1),()) else bif a0>a1 then some (1,()) else some (0,()):=mkE (by kernel_rfl)
noncomputable def Yg1:Tb:=[]
def F162:TFun:=⟨[],[(4,qc [qn 3,qi,qn 2,[.c (.p (.sl Vq11))],qi,qi,qn 9])],[.c (.sl Vq11)],[.c (.p di)],qc [qn 2,qi,qn 15],[],[],0⟩
noncomputable def Z88:=mkC Yg1 prog 162 F162
theorem Yr8:Z88.ok prog 162:=mkO trivial (by kernel_rfl)
noncomputable def Zl2 (a0:Vy8):Option (Int×Unit):=Z88.fn (a0,())
noncomputable def Zdh (n:Nat)(x0:Int)(x1:Vy8)(x2 x3:Int):Option (Int×Unit):=itr Yg1 prog 162 F162 n 4 (x0,x1,x2,x3,())
theorem Zx6 a0:Eq (Zl2 a0) <| Zdh fuel 0 a0 (ofNat a0.length) 0:=mkE (by kernel_rfl)
theorem Zvx n x0 x1 x2 x3:Eq (Zdh (n+1) x0 x1 x2 x3) <| bif x3<x2 then ix x1 x3 fun e0=>bif e0.1 !=x0 then some (e0.1,()) else Zdh n x0 x1 x2 (wrap .i64 (x3+1)) else some (x0,()):=mkI (by kernel_rfl)
noncomputable def Ypp:Tb:=[(163,Z87),(162,Z88)]
def F144:TFun:=⟨[],[],[.a Vq2,.a Vq2],[.c (.p di)],qc [qn 4,qi,qn 21],[],[],0⟩
noncomputable def Z89:=mkC Ypp prog 144 F144
theorem Yr9:Z89.ok prog 144:=mkO ⟨Yr7,Yr8,trivial⟩ (by kernel_rfl)
noncomputable def Zl3 (a0 a1:Vy1):Option (Int×Unit):=Z89.fn (a0,a1,())
theorem Zx7 a0 a1:Eq (Zl3 a0 a1) <| (Qf a0.2.2.1 a1.2.2.1).bind fun e0=>(Qf a0.2.1 a1.2.1).bind fun e1=>(Qf a0.1 a1.1).bind fun e2=>(Zl2 [(e0.1,()),(e1.1,()),(e2.1,())]).bind fun e3=>some (e3.1,()):=mkE (by kernel_rfl)
noncomputable def Yg2:Tb:=[(143,Z85),(144,Z89)]
def F109:TFun:=⟨[],[(6,qc [[.c (.p (.sl Vq2))],qn 7,[.c (.p (.sl Vq2))],qi,qi,qn 22])],[.c (.sl Vq2)],[.c (.p di)],qc [qn 2,qi,qn 30],[],[],0⟩
noncomputable def Z9a:=mkC Yg2 prog 109 F109
theorem Ysa:Z9a.ok prog 109:=mkO ⟨Yr5,Yr9,trivial⟩ (by kernel_rfl)
noncomputable def Zl4 (a0:(List Vy1)):Option (Int×Unit):=Z9a.fn (a0,())
noncomputable def Zdi (n:Nat)(x0 x1:(List Vy1))(x2 x3:Int):Option (Int×Unit):=itr Yg2 prog 109 F109 n 6 (x0,x1,x2,x3,())
theorem Zx8 a0:Eq (Zl4 a0) <| bif ofNat a0.length>4000 then some (4,()) else Zdi fuel a0 a0 (ofNat a0.length) 0:=mkE (by kernel_rfl)
theorem Zl5 n x0 x1 x2 x3:Eq (Zdi (n+1) x0 x1 x2 x3) <| bif x3<x2 then ix x1 x3 fun e0=>(Zl0 e0).bind fun e1=>bif !e1.1 then some (8,()) else let k1:=Zdi n x0 x1 x2 (wrap .i64 (x3+1));bif x3>0 then ix x0 (wrap .i64 (x3 - 1)) fun e2=>(Zl3 e2 e0).bind fun e3=>bif e3.1≥0 then some (8,()) else k1 else k1 else some (0,()):=mkI (by kernel_rfl)
noncomputable def Zkf:Tb:=[(106,Z80),(107,Z81),(108,Z82),(109,Z9a),(110,Z83),(79,Yb4),(69,Z00)]
def F70:TFun:=⟨[1,3,4,5,6,13,21,29,37,45,50],[(1,qc [qn 1,[.boxN 58 9 [.p (.int .u8),.p di,.p di,.p (.sl Vq6),.p (.sl Vq11),.p (.sl Vq2),.p (.sl Vq7),.p (.sl Vq3),.p (.sl Vq8)]],qn 1,qi,qi,qb,qb,qb,qb,qn 193]),(3,qc [qn 1,[.boxN 58 9 [.p (.int .u8),.any,.any,.p (.sl Vq6),.p (.sl Vq11),.p (.sl Vq2),.p (.sl Vq7),.p (.sl Vq3),.p (.sl Vq8)]],qn 1,qi,qi,qb,qb,qb,qb,qb,qn 192]),(4,qc [qn 1,[.boxN 58 9 [.p (.int .u8),.any,.any,.p (.sl Vq6),.p (.sl Vq11),.p (.sl Vq2),.p (.sl Vq7),.p (.sl Vq3),.p (.sl Vq8)]],qn 7,qb,qb,qn 191]),(5,qc [qn 1,[.boxN 58 9 [.p (.int .u8),.any,.any,.any,.p (.sl Vq11),.p (.sl Vq2),.p (.sl Vq7),.p (.sl Vq3),.p (.sl Vq8)]],qn 200]),(6,qc [qn 1,[.boxN 58 9 [.p (.int .u8),.any,.any,.any,.p (.sl Vq11),.p (.sl Vq2),.p (.sl Vq7),.p (.sl Vq3),.p (.sl Vq8)]],qn 118,qb,qn 81]),(13,qc [qn 1,[.boxN 58 9 [.p (.int .u8),.any,.any,.any,.any,.p (.sl Vq2),.p (.sl Vq7),.p (.sl Vq3),.p (.sl Vq8)]],qn 9,qb,qn 110,[.c (.p (.sl Vq11))],qi,qi,qn 77]),(21,qc [qn 1,[.boxN 58 9 [.p (.int .u8),.any,.any,.any,.any,.p (.sl Vq2),.any,.p (.sl Vq3),.p (.sl Vq8)]],qn 9,qb,qn 123,[.c (.p (.sl Vq7))],qi,qi,qn 64]),(29,qc [qn 1,[.boxN 58 9 [.p (.int .u8),.any,.any,.any,.any,.p (.sl Vq2),.any,.any,.p (.sl Vq8)]],qn 9,qb,qn 137,[.c (.p (.sl Vq3))],qi,qi,qn 50]),(37,qc [qn 1,[.boxN 58 9 [.p (.int .u8),.any,.any,.any,.any,.p (.sl Vq2),.any,.any,.any]],qn 9,qb,qn 152,[.c (.p (.sl Vq8))],qi,qi,qn 35]),(45,qc [qn 1,[.boxN 58 9 [.p (.int .u8),.any,.any,.any,.any,.any,.any,.any,.any]],qn 9,qb,qn 167,[.c (.p (.sl Vq2))],qi,qi,qn 20]),(50,qn 202)],[.a Vq1],[.c (.p di)],qc [qn 2,qi,qn 199],[],[],0⟩
noncomputable def Yg3:=mkC Zkf prog 70 F70
theorem ok70:Yg3.ok prog 70:=mkO ⟨Yr0,Yr1,Yr2,Ysa,Yr3,ok79,ok69,trivial⟩ (by kernel_rfl)
noncomputable def Zji (a0:Vy3):Option (Int×Unit):=Yg3.fn (a0,())
noncomputable def Zom (n:Nat)(x0 x1 x2:Int)(x3:(List Vy1))(x4:Vy8)(x5:(List Vy1))(x6:Vy5)(x7:(List Vy2))(x8:Vy6)(x9 x10:Int)(x11 x12 x13 x14:Bool):Option (Int×Unit):=itr Zkf prog 70 F70 n 1 (x0,x1,x2,x3,x4,x5,x6,x7,x8,x9,x10,x11,x12,x13,x14,())
noncomputable def Zes (n:Nat)(x0:Int)(x1:(List Vy1))(x2:Vy8)(x3:(List Vy1))(x4:Vy5)(x5:(List Vy2))(x6:Vy6)(x7 x8:Int)(x9 x10 x11 x12 x13:Bool):Option (Int×Unit):=itr Zkf prog 70 F70 n 3 (x0,x1,x2,x3,x4,x5,x6,x7,x8,x9,x10,x11,x12,x13,())
noncomputable def Zet (n:Nat)(x0:Int)(x1:(List Vy1))(x2:Vy8)(x3:(List Vy1))(x4:Vy5)(x5:(List Vy2))(x6:Vy6)(x7 x8:Bool):Option (Int×Unit):=itr Zkf prog 70 F70 n 4 (x0,x1,x2,x3,x4,x5,x6,x7,x8,())
noncomputable def Zon (n:Nat)(x0:Int)(x1:Vy8)(x2:(List Vy1))(x3:Vy5)(x4:(List Vy2))(x5:Vy6):Option (Int×Unit):=itr Zkf prog 70 F70 n 5 (x0,x1,x2,x3,x4,x5,())
noncomputable def Zeu (n:Nat)(x0:Int)(x1:Vy8)(x2:(List Vy1))(x3:Vy5)(x4:(List Vy2))(x5:Vy6)(x6:Bool):Option (Int×Unit):=itr Zkf prog 70 F70 n 6 (x0,x1,x2,x3,x4,x5,x6,())
noncomputable def Zai (n:Nat)(x0:Int)(x1:(List Vy1))(x2:Vy5)(x3:(List Vy2))(x4:Vy6)(x5:Bool)(x6:Vy8)(x7 x8:Int):Option (Int×Unit):=itr Zkf prog 70 F70 n 13 (x0,x1,x2,x3,x4,x5,x6,x7,x8,())
noncomputable def Zaj (n:Nat)(x0:Int)(x1:(List Vy1))(x2:(List Vy2))(x3:Vy6)(x4:Bool)(x5:Vy5)(x6 x7:Int):Option (Int×Unit):=itr Zkf prog 70 F70 n 21 (x0,x1,x2,x3,x4,x5,x6,x7,())
noncomputable def Zak (n:Nat)(x0:Int)(x1:(List Vy1))(x2:Vy6)(x3:Bool)(x4:(List Vy2))(x5 x6:Int):Option (Int×Unit):=itr Zkf prog 70 F70 n 29 (x0,x1,x2,x3,x4,x5,x6,())
noncomputable def Zal (n:Nat)(x0:Int)(x1:(List Vy1))(x2:Bool)(x3:Vy6)(x4 x5:Int):Option (Int×Unit):=itr Zkf prog 70 F70 n 37 (x0,x1,x2,x3,x4,x5,())
noncomputable def Qg (n:Nat)(x0:Int)(x1:Bool)(x2:(List Vy1))(x3 x4:Int):Option (Int×Unit):=itr Zkf prog 70 F70 n 45 (x0,x1,x2,x3,x4,())
noncomputable def Zl6 (n:Nat):Option (Int×Unit):=itr Zkf prog 70 F70 n 50 ()
theorem Z2v a0:Eq (Zji a0) <| (Zly a0.1).bind fun e0=>Zom fuel a0.1 a0.2.1 a0.2.2.1 a0.2.2.2.1 a0.2.2.2.2.1 a0.2.2.2.2.2.1 a0.2.2.2.2.2.2.1 a0.2.2.2.2.2.2.2.1 a0.2.2.2.2.2.2.2.2.1 e0.1 e0.2.1 e0.2.2.1 e0.2.2.2.1 e0.2.2.2.2.1 e0.2.2.2.2.2.1:=mkE (by kernel_rfl)
theorem Zx9 n x0 x1 x2 x3 x4 x5 x6 x7 x8 x9 x10 x11 x12 x13 x14:Eq (Zom (n+1) x0 x1 x2 x3 x4 x5 x6 x7 x8 x9 x10 x11 x12 x13 x14) <| let k1:=Zes n x0 x3 x4 x5 x6 x7 x8 x9 x10 x11 x12 x13 x14 false;bif x2≥0 then bif x2<20 then bif x1≥0 then Zes n x0 x3 x4 x5 x6 x7 x8 x9 x10 x11 x12 x13 x14 (decide (x1<4)) else k1 else k1 else k1:=mkI (by kernel_rfl)
theorem Zya n x0 x1 x2 x3 x4 x5 x6 x7 x8 x9 x10 x11 x12 x13:Eq (Zes (n+1) x0 x1 x2 x3 x4 x5 x6 x7 x8 x9 x10 x11 x12 x13) <| let k1:=Zet n x0 x1 x2 x3 x4 x5 x6 x13 false;bif ofNat x1.length≤4000 then bif ofNat x2.length≥x7 then bif ofNat x2.length≤x8 then (Zei x9 4000).bind fun e0=>bif ofNat x3.length≤e0.1 then (Zei x10 60).bind fun e1=>bif ofNat x4.length≤e1.1 then (Zei x11 4000).bind fun e2=>bif ofNat x5.length≤e2.1 then (Zei x12 4000).bind fun e3=>Zet n x0 x1 x2 x3 x4 x5 x6 x13 (decide (ofNat x6.length≤e3.1)) else k1 else k1 else k1 else k1 else k1 else k1:=mkI (by kernel_rfl)
theorem Zyb n x0 x1 x2 x3 x4 x5 x6 x7 x8:Eq (Zet (n+1) x0 x1 x2 x3 x4 x5 x6 x7 x8) <| let k1:=Zeu n x0 x2 x3 x4 x5 x6 true;bif !x7 then k1 else bif !x8 then k1 else (Zph x1).bind fun e0=>bif !e0.1 then k1 else (Zl4 x3).bind fun e1=>Zeu n x0 x2 x3 x4 x5 x6 (e1.1 !=0):=mkI (by kernel_rfl)
theorem Zyc n x0 x1 x2 x3 x4 x5:Eq (Zon (n+1) x0 x1 x2 x3 x4 x5) <| Zai n x0 x2 x3 x4 x5 true x1 (ofNat x1.length) 0:=mkI (by kernel_rfl)
theorem Zyd n x0 x1 x2 x3 x4 x5 x6:Eq (Zeu (n+1) x0 x1 x2 x3 x4 x5 x6) <| bif x6 then some (8,()) else Zon n x0 x1 x2 x3 x4 x5:=mkI (by kernel_rfl)
theorem Zl7 n x0 x1 x2 x3 x4 x5 x6 x7 x8:Eq (Zai (n+1) x0 x1 x2 x3 x4 x5 x6 x7 x8) <| bif x8<x7 then ix x6 x8 fun e0=>bif x5 then (Zlz e0.1).bind fun e1=>Zai n x0 x1 x2 x3 x4 e1.1 x6 x7 (wrap .i64 (x8+1)) else Zai n x0 x1 x2 x3 x4 false x6 x7 (wrap .i64 (x8+1)) else Zaj n x0 x1 x3 x4 x5 x2 (ofNat x2.length) 0:=mkI (by kernel_rfl)
theorem Zl8 n x0 x1 x2 x3 x4 x5 x6 x7:Eq (Zaj (n+1) x0 x1 x2 x3 x4 x5 x6 x7) <| bif x7<x6 then ix x5 x7 fun e0=>bif x4 then (Zcc e0).bind fun e1=>Zaj n x0 x1 x2 x3 (e1.1==0) x5 x6 (wrap .i64 (x7+1)) else Zaj n x0 x1 x2 x3 false x5 x6 (wrap .i64 (x7+1)) else Zak n x0 x1 x3 x4 x2 (ofNat x2.length) 0:=mkI (by kernel_rfl)
theorem Zl9 n x0 x1 x2 x3 x4 x5 x6:Eq (Zak (n+1) x0 x1 x2 x3 x4 x5 x6) <| bif x6<x5 then ix x4 x6 fun e0=>bif x3 then (Q8 (3,0,0,0,0,e0)).bind fun e1=>Zak n x0 x1 x2 (e1.1==0) x4 x5 (wrap .i64 (x6+1)) else Zak n x0 x1 x2 false x4 x5 (wrap .i64 (x6+1)) else Zal n x0 x1 x3 x2 (ofNat x2.length) 0:=mkI (by kernel_rfl)
theorem Zma n x0 x1 x2 x3 x4 x5:Eq (Zal (n+1) x0 x1 x2 x3 x4 x5) <| bif x5<x4 then ix x3 x5 fun e0=>bif x2 then (Q8 (4,e0.1,e0.2.1,e0.2.2.1,0,0,0,0,0,0,())).bind fun e1=>Zal n x0 x1 (e1.1==0) x3 x4 (wrap .i64 (x5+1)) else Zal n x0 x1 false x3 x4 (wrap .i64 (x5+1)) else Qg n x0 x2 x1 (ofNat x1.length) 0:=mkI (by kernel_rfl)
theorem Zmb n x0 x1 x2 x3 x4:Eq (Qg (n+1) x0 x1 x2 x3 x4) <| bif x4<x3 then ix x2 x4 fun e0=>bif x1 then bif x0 !=4 then Qg n x0 true x2 x3 (wrap .i64 (x4+1)) else Qg n x0 (e0.2.2.2.2.2.2.2.1==0) x2 x3 (wrap .i64 (x4+1)) else Qg n x0 false x2 x3 (wrap .i64 (x4+1)) else bif !x1 then some (8,()) else Zl6 n:=mkI (by kernel_rfl)
theorem Zvy n  : Eq (Zl6 (n+1) ) <| some (0,()):=mkI (by kernel_rfl)
end Tg
