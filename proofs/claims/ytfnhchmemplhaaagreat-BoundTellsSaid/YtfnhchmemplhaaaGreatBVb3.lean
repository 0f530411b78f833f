import Derived.Test.YtfnhchmemplhaaaGreatProg
import Derived.Test.YtfnhchmemplhaaaGreatBVT
/- Functions of the code, told plainly and checked by the kernel. -/
set_option linter.unusedVariables false
set_option linter.unusedSimpArgs false
set_option maxRecDepth 100000
namespace Tg
open Go.Abs hiding fuel
open Go.Proofs.Tryz (prog)
open Int (ofNat toNat)
open Go.IntKind (wrap)
noncomputable def Ykc:Tb:=[]
def F82:TFun:=⟨[],[],[.c di],[.c (.p db)],qc [qn 2,qb,qn 6],[],[],0⟩
noncomputable def Z12:=mkC Ykc prog 82 F82
theorem ok82:Z12.ok prog 82:=mkO trivial (by kernel_rfl)
noncomputable def Za8 (a0:Int):Option (Bool×Unit):=Z12.fn (a0,())
theorem Zpu a0:Eq (Za8 a0) <| bif a0≥(-1099511627776) then some (decide (a0≤1099511627776),()) else some (false,()):=mkE (by kernel_rfl)
noncomputable def Ykd:Tb:=[(82,Z12)]
def F83:TFun:=⟨[],[],[.c di],[.c (.p db)],qc [qn 2,qb,qn 6],[],[],0⟩
noncomputable def Z60:=mkC Ykd prog 83 F83
theorem ok83:Z60.ok prog 83:=mkO ⟨ok82,trivial⟩ (by kernel_rfl)
noncomputable def Zcw (a0:Int):Option (Bool×Unit):=Z60.fn (a0,())
theorem Zpv a0:Eq (Zcw a0) <| (Za8 a0).bind fun e0=>bif e0.1 then some (true,()) else some (a0==9223372036854775807,()):=mkE (by kernel_rfl)
noncomputable def Yax:Tb:=[(82,Z12),(83,Z60)]
def F60:TFun:=⟨[5,3],[(3,qc [qn 1,[.boxN 97 10 [.p (.int .u8),.p di,.p di,.p di,.p di,.p di,.p di,.p di,.p di,.p di]],qn 1,qb,[.boxN 97 10 [.p (.int .u8),.p di,.p di,.p di,.p di,.p di,.p di,.p di,.p di,.p di]],qn 54]),(5,qc [qn 1,[.boxN 97 10 [.p (.int .u8),.p di,.p di,.p di,.p di,.p di,.p di,.p di,.p di,.p di]],qn 1,qb,[.boxN 97 10 [.p (.int .u8),.p di,.p di,.p di,.p di,.p di,.p di,.p di,.p di,.p di]],qn 5,[.c (.p (.int .u8))],qb,qn 47])],[.a Vq2],[.c (.p di)],qc [qn 2,qi,qn 56],[],[],0⟩
noncomputable def Zx3:=mkC Yax prog 60 F60
theorem ok60:Zx3.ok prog 60:=mkO ⟨ok82,ok83,trivial⟩ (by kernel_rfl)
noncomputable def Qs (a0:Vy8):Option (Int×Unit):=Zx3.fn (a0,())
noncomputable def Xq (n:Nat)(x0 x1 x2 x3 x4 x5 x6 x7 x8 x9:Int)(x10:Bool)(x11 x12 x13 x14 x15 x16 x17 x18 x19 x20:Int):Option (Int×Unit):=itr Yax prog 60 F60 n 3 (x0,x1,x2,x3,x4,x5,x6,x7,x8,x9,x10,x11,x12,x13,x14,x15,x16,x17,x18,x19,x20,())
noncomputable def Zds (n:Nat)(x0 x1 x2 x3 x4 x5 x6 x7 x8 x9:Int)(x10:Bool)(x11 x12 x13 x14 x15 x16 x17 x18 x19 x20 x21:Int)(x22:Bool):Option (Int×Unit):=itr Yax prog 60 F60 n 5 (x0,x1,x2,x3,x4,x5,x6,x7,x8,x9,x10,x11,x12,x13,x14,x15,x16,x17,x18,x19,x20,x21,x22,())
theorem Zrb a0:Eq (Qs a0) <| bif a0.1==1 then Zds fuel a0.1 a0.2.1 a0.2.2.1 a0.2.2.2.1 a0.2.2.2.2.1 a0.2.2.2.2.2.1 a0.2.2.2.2.2.2.1 a0.2.2.2.2.2.2.2.1 a0.2.2.2.2.2.2.2.2.1 a0.2.2.2.2.2.2.2.2.2.1 false a0.1 0 0 0 0 0 0 0 0 0 a0.1 true else Zds fuel a0.1 a0.2.1 a0.2.2.1 a0.2.2.2.1 a0.2.2.2.2.1 a0.2.2.2.2.2.1 a0.2.2.2.2.2.2.1 a0.2.2.2.2.2.2.2.1 a0.2.2.2.2.2.2.2.2.1 a0.2.2.2.2.2.2.2.2.2.1 false a0.1 0 0 0 0 0 0 0 0 0 a0.1 (a0.1==4):=mkE (by kernel_rfl)
theorem Zpw n x0 x1 x2 x3 x4 x5 x6 x7 x8 x9 x10 x11 x12 x13 x14 x15 x16 x17 x18 x19 x20:Eq (Xq (n+1) x0 x1 x2 x3 x4 x5 x6 x7 x8 x9 x10 x11 x12 x13 x14 x15 x16 x17 x18 x19 x20) <| bif !x10 then some (8,()) else bif !(x0==x11&&(x1==x12&&(x2==x13&&(x3==x14&&(x4==x15&&(x5==x16&&(x6==x17&&(x7==x18&&(x8==x19&&(x9==x20&&true)))))))))) then some (8,()) else some (0,()):=mkI (by kernel_rfl)
theorem Zpx n x0 x1 x2 x3 x4 x5 x6 x7 x8 x9 x10 x11 x12 x13 x14 x15 x16 x17 x18 x19 x20 x21 x22:Eq (Zds (n+1) x0 x1 x2 x3 x4 x5 x6 x7 x8 x9 x10 x11 x12 x13 x14 x15 x16 x17 x18 x19 x20 x21 x22) <| bif x22 then (Za8 x2).bind fun e0=>Xq n x0 x1 x2 x3 x4 x5 x6 x7 x8 x9 e0.1 x11 x1 x2 x3 x15 x16 x17 x18 x19 x20 else bif x21==2 then (Zcw x4).bind fun e0=>Xq n x0 x1 x2 x3 x4 x5 x6 x7 x8 x9 e0.1 x11 x12 x13 x14 x4 x16 x17 x18 x19 x20 else bif x21==3 then let k1:=Xq n x0 x1 x2 x3 x4 x5 x6 x7 x8 x9 false x11 x12 x13 x14 x15 x5 x6 x7 x8 x9;bif (-2199023255552)≤x6 then bif x6<x7 then Xq n x0 x1 x2 x3 x4 x5 x6 x7 x8 x9 (decide (x7≤2199023255552)) x11 x12 x13 x14 x15 x5 x6 x7 x8 x9 else k1 else k1 else Xq n x0 x1 x2 x3 x4 x5 x6 x7 x8 x9 x10 x11 x12 x13 x14 x15 x16 x17 x18 x19 x20:=mkI (by kernel_rfl)
noncomputable def Ygs:Tb:=[(60,Zx3)]
def F40:TFun:=⟨[],[(6,qc [qn 23,[.c (.p (.sl Vq2))],qi,qi,qn 9])],[.a Vq10],[.c (.p di)],qc [qn 2,qi,qn 32],[],[],0⟩
noncomputable def Yay:=mkC Ygs prog 40 F40
theorem ok40:Yay.ok prog 40:=mkO ⟨ok60,trivial⟩ (by kernel_rfl)
noncomputable def Zg0 (a0:Vy4):Option (Int×Unit):=Yay.fn (a0,())
noncomputable def Zbk (n:Nat)(x0:(List Vy8))(x1 x2:Int):Option (Int×Unit):=itr Ygs prog 40 F40 n 6 (x0,x1,x2,())
theorem Zrc a0:Eq (Zg0 a0) <| bif a0.1<1 then some (8,()) else bif a0.1>8 then some (8,()) else bif ofNat a0.2.1.length>a0.1 then some (8,()) else Zbk fuel a0.2.1 (ofNat a0.2.1.length) 0:=mkE (by kernel_rfl)
theorem Zhd n x0 x1 x2:Eq (Zbk (n+1) x0 x1 x2) <| bif x2<x1 then ix x0 x2 fun e0=>(Qs e0).bind fun e1=>bif e1.1 !=0 then some (e1.1,()) else Zbk n x0 x1 (wrap .i64 (x2+1)) else some (0,()):=mkI (by kernel_rfl)
noncomputable def Yh6:Tb:=[(83,Z60),(82,Z12)]
def F120:TFun:=⟨[],[],[.a Vq7],[.a [.p (.int .u8),.p di,.p di,.p di,.p di,.p di,.p di,.p di,.p di,.p di],.c (.p di)],qc [qn 2,[.boxN 97 10 [.p (.int .u8),.p di,.p di,.p di,.p di,.p di,.p di,.p di,.p di,.p di]],qi,qn 30],[],[],0⟩
noncomputable def Z4c:=mkC Yh6 prog 120 F120
theorem Yke:Z4c.ok prog 120:=mkO ⟨ok83,ok82,trivial⟩ (by kernel_rfl)
noncomputable def Ztq (a0:(Bool×Int×Int×Int×Int×Unit)):Option (Vy8×Int×Unit):=Z4c.fn (a0,())
theorem Zzs a0:Eq (Ztq a0) <| let k1:Option (Vy8×Int×Unit):=some (((0,0,0,0,0,0,0,0,0,0,()),8,()));bif a0.1 then (Zcw a0.2.1).bind fun e0=>bif !e0.1 then k1 else bif !(a0.2.2.1==0&&(a0.2.2.2.1==0&&(a0.2.2.2.2.1==0&&true))) then k1 else some (((2,0,0,0,a0.2.1,0,0,0,0,0,()),0,())) else bif a0.2.1 !=0 then k1 else (Za8 a0.2.2.2.1).bind fun e0=>bif !e0.1 then k1 else some (((1,a0.2.2.1,a0.2.2.2.1,a0.2.2.2.2.1,0,0,0,0,0,0,()),0,())):=mkE (by kernel_rfl)
noncomputable def Ykf:Tb:=[(120,Z4c)]
def F89:TFun:=⟨[],[],[.a Vq7],[.c (.p di)],qc [qn 2,qi,qn 8],[],[],0⟩
noncomputable def Yaz:=mkC Ykf prog 89 F89
theorem ok89:Yaz.ok prog 89:=mkO ⟨Yke,trivial⟩ (by kernel_rfl)
noncomputable def Zg1 (a0:(Bool×Int×Int×Int×Int×Unit)):Option (Int×Unit):=Yaz.fn (a0,())
theorem Zrd a0:Eq (Zg1 a0) <| (Ztq a0).bind fun e0=>some (e0.2.1,()):=mkE (by kernel_rfl)
noncomputable def Ykg:Tb:=[]
def F84:TFun:=⟨[],[],[.c (.int .u8)],[.c (.p di),.c (.p di),.c (.p db),.c (.p db),.c (.p db),.c (.p db)],qc [qn 2,qi,qi,qb,qb,qb,qb,qn 15],[],[],0⟩
noncomputable def Ya0:=mkC Ykg prog 84 F84
theorem ok84:Ya0.ok prog 84:=mkO trivial (by kernel_rfl)
noncomputable def Zka (a0:Int):Option (Int×Int×Bool×Bool×Bool×Bool×Unit):=Ya0.fn (a0,())
theorem Zvp a0:Eq (Zka a0) <| bif a0==1 then some (0,0,false,true,false,false,()) else bif a0==2 then some (1,1,false,false,false,false,()) else bif a0==3 then some (0,0,false,false,false,false,()) else bif a0==4 then some (1,4,true,false,false,false,()) else bif a0==5 then some (2,2,true,false,false,false,()) else bif a0==6 then some (0,0,false,false,true,false,()) else bif a0==7 then some (0,0,false,false,false,true,()) else some (1,0,false,false,false,false,()):=mkE (by kernel_rfl)
noncomputable def Ykh:Tb:=[]
def F85:TFun:=⟨[],[],[.c db,.c di],[.c (.p di)],qc [qn 4,qi,qn 2],[],[],0⟩
noncomputable def Ya1:=mkC Ykh prog 85 F85
theorem ok85:Ya1.ok prog 85:=mkO trivial (by kernel_rfl)
noncomputable def Zdt (a0:Bool)(a1:Int):Option (Int×Unit):=Ya1.fn (a0,a1,())
theorem Zqz a0 a1:Eq (Zdt a0 a1) <| bif a0 then some (a1,()) else some (0,()):=mkE (by kernel_rfl)
noncomputable def Ygt:Tb:=[(60,Zx3)]
def F86:TFun:=⟨[],[(3,qc [qn 5,[.c (.p (.sl Vq6))],qi,qi,qn 18])],[.c (.sl Vq6)],[.c (.p db)],qc [qn 2,qb,qn 23],[],[],0⟩
noncomputable def Ya2:=mkC Ygt prog 86 F86
theorem ok86:Ya2.ok prog 86:=mkO ⟨ok60,trivial⟩ (by kernel_rfl)
noncomputable def Znp (a0:Vy3):Option (Bool×Unit):=Ya2.fn (a0,())
noncomputable def Zd2 (n:Nat)(x0:Vy3)(x1 x2:Int):Option (Bool×Unit):=itr Ygt prog 86 F86 n 3 (x0,x1,x2,())
theorem Zzt a0:Eq (Znp a0) <| Zd2 fuel a0 (ofNat a0.length) 0:=mkE (by kernel_rfl)
theorem Zmv n x0 x1 x2:Eq (Zd2 (n+1) x0 x1 x2) <| bif x2<x1 then ix x0 x2 fun e0=>bif e0.1<0 then some (false,()) else bif e0.1≥3 then some (false,()) else (Qs e0.2).bind fun e1=>bif e1.1 !=0 then some (false,()) else Zd2 n x0 x1 (wrap .i64 (x2+1)) else some (true,()):=mkI (by kernel_rfl)
noncomputable def Yki:Tb:=[(60,Zx3)]
def F88:TFun:=⟨[],[],[.c di],[.c (.p db)],qc [qn 2,qb,qn 8],[],[],0⟩
noncomputable def Ya3:=mkC Yki prog 88 F88
theorem ok88:Ya3.ok prog 88:=mkO ⟨ok60,trivial⟩ (by kernel_rfl)
noncomputable def Zkb (a0:Int):Option (Bool×Unit):=Ya3.fn (a0,())
theorem Zvq a0:Eq (Zkb a0) <| bif a0==(-9223372036854775808) then some (true,()) else (Qs (2,0,0,0,a0,0,0,0,0,0,())).bind fun e0=>some (e0.1==0,()):=mkE (by kernel_rfl)
noncomputable def Yh7:Tb:=[]
def F138:TFun:=⟨[],[],[.a [.int .i64,.int .i64,.int .i64,.int .i64]],[.c (.p di)],qc [qn 2,qi,qn 40],[],[],0⟩
noncomputable def Z4d:=mkC Yh7 prog 138 F138
theorem Ykj:Z4d.ok prog 138:=mkO trivial (by kernel_rfl)
noncomputable def Ze0 (a0:(Int×Int×Int×Int×Unit)):Option (Int×Unit):=Z4d.fn (a0,())
theorem Ztr a0:Eq (Ze0 a0) <| let k1:Option (Int×Unit):=some (8,());bif a0.1==0 then bif !(a0.1==0&&(a0.2.1==0&&(a0.2.2.1==0&&(a0.2.2.2.1==0&&true)))) then k1 else some (0,()) else bif a0.1==1 then bif a0.2.1==a0.2.2.1 then bif !a0.2.1==a0.2.2.2.1 then k1 else some (0,()) else k1 else bif a0.1>1 then bif a0.1≤1073741824 then bif !decide (a0.2.2.1≤a0.2.2.2.1) then k1 else some (0,()) else k1 else k1:=mkE (by kernel_rfl)
noncomputable def Yh8:Tb:=[(138,Z4d)]
def F118:TFun:=⟨[],[],[.a Vq3],[.c (.p db)],qc [qn 2,qb,qn 43],[],[],0⟩
noncomputable def Z4e:=mkC Yh8 prog 118 F118
theorem Ykk:Z4e.ok prog 118:=mkO ⟨Ykj,trivial⟩ (by kernel_rfl)
noncomputable def Zkc (a0:Vy12):Option (Bool×Unit):=Z4e.fn (a0,())
theorem Zvr a0:Eq (Zkc a0) <| let k1:=some (false,());bif a0.2.1<(-1100585369600) then k1 else bif a0.2.2.1≤a0.2.1 then k1 else bif a0.2.2.1>1100585369600 then k1 else (Ze0 (a0.2.2.2.1,a0.2.2.2.2.1,a0.2.2.2.2.2.1,a0.2.2.2.2.2.2.1,())).bind fun e0=>bif e0.1==0 then (Ze0 a0.2.2.2.2.2.2.2).bind fun e1=>bif e1.1==0 then some ((decide (wrap .i64 (a0.2.2.2.1+a0.2.2.2.2.2.2.2.1)>0),())) else k1 else k1:=mkE (by kernel_rfl)
noncomputable def Yh9:Tb:=[]
def F166:TFun:=⟨[],[],[.c di],[.c (.p db)],qc [qn 2,qb,qn 3],[],[],0⟩
noncomputable def Z4f:=mkC Yh9 prog 166 F166
theorem Ykl:Z4f.ok prog 166:=mkO trivial (by kernel_rfl)
noncomputable def Zdu (a0:Int):Option (Bool×Unit):=Z4f.fn (a0,())
theorem Znq a0:Eq (Zdu a0) <| some (a0 !=a0,()):=mkE (by kernel_rfl)
noncomputable def Yia:Tb:=[(166,Z4f)]
def F140:TFun:=⟨[],[],[.c di,.c di],[.c (.p di)],qc [qn 4,qi,qn 15],[],[],0⟩
noncomputable def Z4g:=mkC Yia prog 140 F140
theorem Ykm:Z4g.ok prog 140:=mkO ⟨Ykl,trivial⟩ (by kernel_rfl)
noncomputable def Xz (a0 a1:Int):Option (Int×Unit):=Z4g.fn (a0,a1,())
theorem Zkd a0 a1:Eq (Xz a0 a1) <| (Zdu a0).bind fun e0=>(Zdu a1).bind fun e1=>bif e0.1 then bif e1.1 then some (0,()) else some ((-1),()) else bif e1.1 then some (1,()) else bif a0<a1 then some ((-1),()) else bif a0>a1 then some (1,()) else some (0,()):=mkE (by kernel_rfl)
noncomputable def Ya4:Tb:=[]
def F139:TFun:=⟨[],[(4,qc [qn 3,qi,qn 2,[.c (.p (.sl Vq12))],qi,qi,qn 9])],[.c (.sl Vq12)],[.c (.p di)],qc [qn 2,qi,qn 15],[],[],0⟩
noncomputable def Z4h:=mkC Ya4 prog 139 F139
theorem Ykn:Z4h.ok prog 139:=mkO trivial (by kernel_rfl)
noncomputable def Zke (a0:Vy9):Option (Int×Unit):=Z4h.fn (a0,())
noncomputable def Zcx (n:Nat)(x0:Int)(x1:Vy9)(x2 x3:Int):Option (Int×Unit):=itr Ya4 prog 139 F139 n 4 (x0,x1,x2,x3,())
theorem Zvs a0:Eq (Zke a0) <| Zcx fuel 0 a0 (ofNat a0.length) 0:=mkE (by kernel_rfl)
theorem Zts n x0 x1 x2 x3:Eq (Zcx (n+1) x0 x1 x2 x3) <| bif x3<x2 then ix x1 x3 fun e0=>bif e0.1 !=x0 then some (e0.1,()) else Zcx n x0 x1 x2 (wrap .i64 (x3+1)) else some (x0,()):=mkI (by kernel_rfl)
noncomputable def Yib:Tb:=[(140,Z4g),(139,Z4h)]
def F119:TFun:=⟨[],[],[.a Vq3,.a Vq3],[.c (.p di)],qc [qn 4,qi,qn 21],[],[],0⟩
noncomputable def Z4i:=mkC Yib prog 119 F119
theorem Yko:Z4i.ok prog 119:=mkO ⟨Ykm,Ykn,trivial⟩ (by kernel_rfl)
noncomputable def Zkf (a0 a1:Vy12):Option (Int×Unit):=Z4i.fn (a0,a1,())
theorem Zvt a0 a1:Eq (Zkf a0 a1) <| (Xz a0.2.2.1 a1.2.2.1).bind fun e0=>(Xz a0.2.1 a1.2.1).bind fun e1=>(Xz a0.1 a1.1).bind fun e2=>(Zke [(e0.1,()),(e1.1,()),(e2.1,())]).bind fun e3=>some (e3.1,()):=mkE (by kernel_rfl)
noncomputable def Ygu:Tb:=[(118,Z4e),(119,Z4i)]
def F87:TFun:=⟨[],[(6,qc [[.c (.p (.sl Vq3))],qn 7,[.c (.p (.sl Vq3))],qi,qi,qn 22])],[.c (.sl Vq3)],[.c (.p di)],qc [qn 2,qi,qn 30],[],[],0⟩
noncomputable def Ya5:=mkC Ygu prog 87 F87
theorem ok87:Ya5.ok prog 87:=mkO ⟨Ykk,Yko,trivial⟩ (by kernel_rfl)
noncomputable def Zkg (a0:Vy3):Option (Int×Unit):=Ya5.fn (a0,())
noncomputable def Zcy (n:Nat)(x0 x1:Vy3)(x2 x3:Int):Option (Int×Unit):=itr Ygu prog 87 F87 n 6 (x0,x1,x2,x3,())
theorem Zvu a0:Eq (Zkg a0) <| bif ofNat a0.length>4000 then some (4,()) else Zcy fuel a0 a0 (ofNat a0.length) 0:=mkE (by kernel_rfl)
theorem Zkh n x0 x1 x2 x3:Eq (Zcy (n+1) x0 x1 x2 x3) <| bif x3<x2 then ix x1 x3 fun e0=>(Zkc e0).bind fun e1=>bif !e1.1 then some (8,()) else let k1:=Zcy n x0 x1 x2 (wrap .i64 (x3+1));bif x3>0 then ix x0 (wrap .i64 (x3 - 1)) fun e2=>(Zkf e2 e0).bind fun e3=>bif e3.1≥0 then some (8,()) else k1 else k1 else some (0,()):=mkI (by kernel_rfl)
noncomputable def Zii:Tb:=[(84,Ya0),(85,Ya1),(86,Ya2),(87,Ya5),(88,Ya3),(89,Yaz),(60,Zx3)]
def F61:TFun:=⟨[1,3,4,5,6,13,21,29,37,45,50],[(1,qc [qn 1,[.boxN 73 9 [.p (.int .u8),.p di,.p di,.p (.sl Vq6),.p (.sl Vq12),.p (.sl Vq3),.p (.sl Vq7),.p (.sl Vq4),.p (.sl Vq8)]],qn 1,qi,qi,qb,qb,qb,qb,qn 193]),(3,qc [qn 1,[.boxN 73 9 [.p (.int .u8),.any,.any,.p (.sl Vq6),.p (.sl Vq12),.p (.sl Vq3),.p (.sl Vq7),.p (.sl Vq4),.p (.sl Vq8)]],qn 1,qi,qi,qb,qb,qb,qb,qb,qn 192]),(4,qc [qn 1,[.boxN 73 9 [.p (.int .u8),.any,.any,.p (.sl Vq6),.p (.sl Vq12),.p (.sl Vq3),.p (.sl Vq7),.p (.sl Vq4),.p (.sl Vq8)]],qn 7,qb,qb,qn 191]),(5,qc [qn 1,[.boxN 73 9 [.p (.int .u8),.any,.any,.any,.p (.sl Vq12),.p (.sl Vq3),.p (.sl Vq7),.p (.sl Vq4),.p (.sl Vq8)]],qn 200]),(6,qc [qn 1,[.boxN 73 9 [.p (.int .u8),.any,.any,.any,.p (.sl Vq12),.p (.sl Vq3),.p (.sl Vq7),.p (.sl Vq4),.p (.sl Vq8)]],qn 118,qb,qn 81]),(13,qc [qn 1,[.boxN 73 9 [.p (.int .u8),.any,.any,.any,.any,.p (.sl Vq3),.p (.sl Vq7),.p (.sl Vq4),.p (.sl Vq8)]],qn 9,qb,qn 110,[.c (.p (.sl Vq12))],qi,qi,qn 77]),(21,qc [qn 1,[.boxN 73 9 [.p (.int .u8),.any,.any,.any,.any,.p (.sl Vq3),.any,.p (.sl Vq4),.p (.sl Vq8)]],qn 9,qb,qn 123,[.c (.p (.sl Vq7))],qi,qi,qn 64]),(29,qc [qn 1,[.boxN 73 9 [.p (.int .u8),.any,.any,.any,.any,.p (.sl Vq3),.any,.any,.p (.sl Vq8)]],qn 9,qb,qn 137,[.c (.p (.sl Vq4))],qi,qi,qn 50]),(37,qc [qn 1,[.boxN 73 9 [.p (.int .u8),.any,.any,.any,.any,.p (.sl Vq3),.any,.any,.any]],qn 9,qb,qn 152,[.c (.p (.sl Vq8))],qi,qi,qn 35]),(45,qc [qn 1,[.boxN 73 9 [.p (.int .u8),.any,.any,.any,.any,.any,.any,.any,.any]],qn 9,qb,qn 167,[.c (.p (.sl Vq3))],qi,qi,qn 20]),(50,qn 202)],[.a Vq1],[.c (.p di)],qc [qn 2,qi,qn 199],[],[],0⟩
noncomputable def Ya6:=mkC Zii prog 61 F61
theorem ok61:Ya6.ok prog 61:=mkO ⟨ok84,ok85,ok86,ok87,ok88,ok89,ok60,trivial⟩ (by kernel_rfl)
noncomputable def Zh5 (a0:Vy1):Option (Int×Unit):=Ya6.fn (a0,())
noncomputable def Zmw (n:Nat)(x0 x1 x2:Int)(x3:Vy3)(x4:Vy9)(x5:Vy3)(x6:Vy5)(x7:(List Vy2))(x8:Vy6)(x9 x10:Int)(x11 x12 x13 x14:Bool):Option (Int×Unit):=itr Zii prog 61 F61 n 1 (x0,x1,x2,x3,x4,x5,x6,x7,x8,x9,x10,x11,x12,x13,x14,())
noncomputable def Zd3 (n:Nat)(x0:Int)(x1:Vy3)(x2:Vy9)(x3:Vy3)(x4:Vy5)(x5:(List Vy2))(x6:Vy6)(x7 x8:Int)(x9 x10 x11 x12 x13:Bool):Option (Int×Unit):=itr Zii prog 61 F61 n 3 (x0,x1,x2,x3,x4,x5,x6,x7,x8,x9,x10,x11,x12,x13,())
noncomputable def Zd4 (n:Nat)(x0:Int)(x1:Vy3)(x2:Vy9)(x3:Vy3)(x4:Vy5)(x5:(List Vy2))(x6:Vy6)(x7 x8:Bool):Option (Int×Unit):=itr Zii prog 61 F61 n 4 (x0,x1,x2,x3,x4,x5,x6,x7,x8,())
noncomputable def Zmx (n:Nat)(x0:Int)(x1:Vy9)(x2:Vy3)(x3:Vy5)(x4:(List Vy2))(x5:Vy6):Option (Int×Unit):=itr Zii prog 61 F61 n 5 (x0,x1,x2,x3,x4,x5,())
noncomputable def Zd5 (n:Nat)(x0:Int)(x1:Vy9)(x2:Vy3)(x3:Vy5)(x4:(List Vy2))(x5:Vy6)(x6:Bool):Option (Int×Unit):=itr Zii prog 61 F61 n 6 (x0,x1,x2,x3,x4,x5,x6,())
noncomputable def Q4 (n:Nat)(x0:Int)(x1:Vy3)(x2:Vy5)(x3:(List Vy2))(x4:Vy6)(x5:Bool)(x6:Vy9)(x7 x8:Int):Option (Int×Unit):=itr Zii prog 61 F61 n 13 (x0,x1,x2,x3,x4,x5,x6,x7,x8,())
noncomputable def Q5 (n:Nat)(x0:Int)(x1:Vy3)(x2:(List Vy2))(x3:Vy6)(x4:Bool)(x5:Vy5)(x6 x7:Int):Option (Int×Unit):=itr Zii prog 61 F61 n 21 (x0,x1,x2,x3,x4,x5,x6,x7,())
noncomputable def Q7 (n:Nat)(x0:Int)(x1:Vy3)(x2:Vy6)(x3:Bool)(x4:(List Vy2))(x5 x6:Int):Option (Int×Unit):=itr Zii prog 61 F61 n 29 (x0,x1,x2,x3,x4,x5,x6,())
noncomputable def Q8 (n:Nat)(x0:Int)(x1:Vy3)(x2:Bool)(x3:Vy6)(x4 x5:Int):Option (Int×Unit):=itr Zii prog 61 F61 n 37 (x0,x1,x2,x3,x4,x5,())
noncomputable def X3 (n:Nat)(x0:Int)(x1:Bool)(x2:Vy3)(x3 x4:Int):Option (Int×Unit):=itr Zii prog 61 F61 n 45 (x0,x1,x2,x3,x4,())
noncomputable def Zki (n:Nat):Option (Int×Unit):=itr Zii prog 61 F61 n 50 ()
theorem Zzu a0:Eq (Zh5 a0) <| (Zka a0.1).bind fun e0=>Zmw fuel a0.1 a0.2.1 a0.2.2.1 a0.2.2.2.1 a0.2.2.2.2.1 a0.2.2.2.2.2.1 a0.2.2.2.2.2.2.1 a0.2.2.2.2.2.2.2.1 a0.2.2.2.2.2.2.2.2.1 e0.1 e0.2.1 e0.2.2.1 e0.2.2.2.1 e0.2.2.2.2.1 e0.2.2.2.2.2.1:=mkE (by kernel_rfl)
theorem Zvv n x0 x1 x2 x3 x4 x5 x6 x7 x8 x9 x10 x11 x12 x13 x14:Eq (Zmw (n+1) x0 x1 x2 x3 x4 x5 x6 x7 x8 x9 x10 x11 x12 x13 x14) <| let k1:=Zd3 n x0 x3 x4 x5 x6 x7 x8 x9 x10 x11 x12 x13 x14 false;bif x2≥0 then bif x2<20 then bif x1≥0 then Zd3 n x0 x3 x4 x5 x6 x7 x8 x9 x10 x11 x12 x13 x14 (decide (x1<4)) else k1 else k1 else k1:=mkI (by kernel_rfl)
theorem Zvw n x0 x1 x2 x3 x4 x5 x6 x7 x8 x9 x10 x11 x12 x13:Eq (Zd3 (n+1) x0 x1 x2 x3 x4 x5 x6 x7 x8 x9 x10 x11 x12 x13) <| let k1:=Zd4 n x0 x1 x2 x3 x4 x5 x6 x13 false;bif ofNat x1.length≤4000 then bif ofNat x2.length≥x7 then bif ofNat x2.length≤x8 then (Zdt x9 4000).bind fun e0=>bif ofNat x3.length≤e0.1 then (Zdt x10 60).bind fun e1=>bif ofNat x4.length≤e1.1 then (Zdt x11 4000).bind fun e2=>bif ofNat x5.length≤e2.1 then (Zdt x12 4000).bind fun e3=>Zd4 n x0 x1 x2 x3 x4 x5 x6 x13 (decide (ofNat x6.length≤e3.1)) else k1 else k1 else k1 else k1 else k1 else k1:=mkI (by kernel_rfl)
theorem Zvx n x0 x1 x2 x3 x4 x5 x6 x7 x8:Eq (Zd4 (n+1) x0 x1 x2 x3 x4 x5 x6 x7 x8) <| let k1:=Zd5 n x0 x2 x3 x4 x5 x6 true;bif !x7 then k1 else bif !x8 then k1 else (Znp x1).bind fun e0=>bif !e0.1 then k1 else (Zkg x3).bind fun e1=>Zd5 n x0 x2 x3 x4 x5 x6 (e1.1 !=0):=mkI (by kernel_rfl)
theorem Zvy n x0 x1 x2 x3 x4 x5:Eq (Zmx (n+1) x0 x1 x2 x3 x4 x5) <| Q4 n x0 x2 x3 x4 x5 true x1 (ofNat x1.length) 0:=mkI (by kernel_rfl)
theorem Zvz n x0 x1 x2 x3 x4 x5 x6:Eq (Zd5 (n+1) x0 x1 x2 x3 x4 x5 x6) <| bif x6 then some (8,()) else Zmx n x0 x1 x2 x3 x4 x5:=mkI (by kernel_rfl)
theorem Zkj n x0 x1 x2 x3 x4 x5 x6 x7 x8:Eq (Q4 (n+1) x0 x1 x2 x3 x4 x5 x6 x7 x8) <| bif x8<x7 then ix x6 x8 fun e0=>bif x5 then (Zkb e0.1).bind fun e1=>Q4 n x0 x1 x2 x3 x4 e1.1 x6 x7 (wrap .i64 (x8+1)) else Q4 n x0 x1 x2 x3 x4 false x6 x7 (wrap .i64 (x8+1)) else Q5 n x0 x1 x3 x4 x5 x2 (ofNat x2.length) 0:=mkI (by kernel_rfl)
theorem Zkk n x0 x1 x2 x3 x4 x5 x6 x7:Eq (Q5 (n+1) x0 x1 x2 x3 x4 x5 x6 x7) <| bif x7<x6 then ix x5 x7 fun e0=>bif x4 then (Zg1 e0).bind fun e1=>Q5 n x0 x1 x2 x3 (e1.1==0) x5 x6 (wrap .i64 (x7+1)) else Q5 n x0 x1 x2 x3 false x5 x6 (wrap .i64 (x7+1)) else Q7 n x0 x1 x3 x4 x2 (ofNat x2.length) 0:=mkI (by kernel_rfl)
theorem Zkl n x0 x1 x2 x3 x4 x5 x6:Eq (Q7 (n+1) x0 x1 x2 x3 x4 x5 x6) <| bif x6<x5 then ix x4 x6 fun e0=>bif x3 then (Qs (3,0,0,0,0,e0)).bind fun e1=>Q7 n x0 x1 x2 (e1.1==0) x4 x5 (wrap .i64 (x6+1)) else Q7 n x0 x1 x2 false x4 x5 (wrap .i64 (x6+1)) else Q8 n x0 x1 x3 x2 (ofNat x2.length) 0:=mkI (by kernel_rfl)
theorem Zkm n x0 x1 x2 x3 x4 x5:Eq (Q8 (n+1) x0 x1 x2 x3 x4 x5) <| bif x5<x4 then ix x3 x5 fun e0=>bif x2 then (Qs (4,e0.1,e0.2.1,e0.2.2.1,0,0,0,0,0,0,())).bind fun e1=>Q8 n x0 x1 (e1.1==0) x3 x4 (wrap .i64 (x5+1)) else Q8 n x0 x1 false x3 x4 (wrap .i64 (x5+1)) else X3 n x0 x2 x1 (ofNat x1.length) 0:=mkI (by kernel_rfl)
theorem Zkn n x0 x1 x2 x3 x4:Eq (X3 (n+1) x0 x1 x2 x3 x4) <| bif x4<x3 then ix x2 x4 fun e0=>bif x1 then bif x0 !=4 then X3 n x0 true x2 x3 (wrap .i64 (x4+1)) else X3 n x0 (e0.2.2.2.2.2.2.2.1==0) x2 x3 (wrap .i64 (x4+1)) else X3 n x0 false x2 x3 (wrap .i64 (x4+1)) else bif !x1 then some (8,()) else Zki n:=mkI (by kernel_rfl)
theorem Ztt n  : Eq (Zki (n+1) ) <| some (0,()):=mkI (by kernel_rfl)
end Tg
