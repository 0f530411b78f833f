import Derived.Test.YtijadjbnapojfaaGreatDoorAVT
/- Functions of the code, told plainly and checked by the kernel. -/
set_option linter.unusedVariables false
set_option linter.unusedSimpArgs false
set_option maxRecDepth 100000
namespace Tg
noncomputable section
open Go.Abs hiding fuel
open Go.Proofs.Tryz (prog)
open Int (ofNat toNat)
open Go.IntKind (wrap)
def Yjz:Tb:=[]
def F127:TFun:=⟨[],[],[.c di],[.c (.p db)],qc [qn 2,qb,qn 6],[],[],0⟩
def Ztc:=mkC Yjz prog 127 F127
theorem Yc2:Ztc.ok prog 127:=mkO trivial
def Zas (a0:Int):Option (Bool×Unit):=Ztc.fn (a0,())
theorem Zo0 a0:Eq (Zas a0) <| bif a0≥(-1099511627776) then some (decide (a0≤1099511627776),()) else some (false,()):=mkE
def Yj0:Tb:=[(127,Ztc)]
def F128:TFun:=⟨[],[],[.c di],[.c (.p db)],qc [qn 2,qb,qn 6],[],[],0⟩
def Zzq:=mkC Yj0 prog 128 F128
theorem Yie:Zzq.ok prog 128:=mkO ⟨Yc2,trivial⟩
def Zcf (a0:Int):Option (Bool×Unit):=Zzq.fn (a0,())
theorem Zo1 a0:Eq (Zcf a0) <| (Zas a0).bind fun e0=>bif e0.1 then some (true,()) else some (a0==9223372036854775807,()):=mkE
def Yc3:Tb:=[(127,Ztc),(128,Zzq)]
def F63:TFun:=⟨[5,3],[(3,qc [qn 1,[.boxN 115 10 [.p (.int .u8),.p di,.p di,.p di,.p di,.p di,.p di,.p di,.p di,.p di]],qn 1,qb,[.boxN 115 10 [.p (.int .u8),.p di,.p di,.p di,.p di,.p di,.p di,.p di,.p di,.p di]],qn 54]),(5,qc [qn 1,[.boxN 115 10 [.p (.int .u8),.p di,.p di,.p di,.p di,.p di,.p di,.p di,.p di,.p di]],qn 1,qb,[.boxN 115 10 [.p (.int .u8),.p di,.p di,.p di,.p di,.p di,.p di,.p di,.p di,.p di]],qn 5,[.c (.p (.int .u8))],qb,qn 47])],[.a Vq4],[.c (.p di)],qc [qn 2,qi,qn 56],[],[],0⟩
def Zxx:=mkC Yc3 prog 63 F63
theorem ok63:Zxx.ok prog 63:=mkO ⟨Yc2,Yie,trivial⟩
def Qf (a0:Vy4):Option (Int×Unit):=Zxx.fn (a0,())
def Xo (n:Nat)(x0 x1 x2 x3 x4 x5 x6 x7 x8 x9:Int)(x10:Bool)(x11 x12 x13 x14 x15 x16 x17 x18 x19 x20:Int):Option (Int×Unit):=itr Yc3 prog 63 F63 n 3 (x0,x1,x2,x3,x4,x5,x6,x7,x8,x9,x10,x11,x12,x13,x14,x15,x16,x17,x18,x19,x20,())
def Zc9 (n:Nat)(x0 x1 x2 x3 x4 x5 x6 x7 x8 x9:Int)(x10:Bool)(x11 x12 x13 x14 x15 x16 x17 x18 x19 x20 x21:Int)(x22:Bool):Option (Int×Unit):=itr Yc3 prog 63 F63 n 5 (x0,x1,x2,x3,x4,x5,x6,x7,x8,x9,x10,x11,x12,x13,x14,x15,x16,x17,x18,x19,x20,x21,x22,())
theorem Zqe a0:Eq (Qf a0) <| bif a0.1==1 then Zc9 fuel a0.1 a0.2.1 a0.2.2.1 a0.2.2.2.1 a0.2.2.2.2.1 a0.2.2.2.2.2.1 a0.2.2.2.2.2.2.1 a0.2.2.2.2.2.2.2.1 a0.2.2.2.2.2.2.2.2.1 a0.2.2.2.2.2.2.2.2.2.1 false a0.1 0 0 0 0 0 0 0 0 0 a0.1 true else Zc9 fuel a0.1 a0.2.1 a0.2.2.1 a0.2.2.2.1 a0.2.2.2.2.1 a0.2.2.2.2.2.1 a0.2.2.2.2.2.2.1 a0.2.2.2.2.2.2.2.1 a0.2.2.2.2.2.2.2.2.1 a0.2.2.2.2.2.2.2.2.2.1 false a0.1 0 0 0 0 0 0 0 0 0 a0.1 (a0.1==4):=mkE
theorem Zo2 n x0 x1 x2 x3 x4 x5 x6 x7 x8 x9 x10 x11 x12 x13 x14 x15 x16 x17 x18 x19 x20:Eq (Xo (n+1) x0 x1 x2 x3 x4 x5 x6 x7 x8 x9 x10 x11 x12 x13 x14 x15 x16 x17 x18 x19 x20) <| bif !x10 then some (8,()) else bif !(x0==x11&&(x1==x12&&(x2==x13&&(x3==x14&&(x4==x15&&(x5==x16&&(x6==x17&&(x7==x18&&(x8==x19&&(x9==x20&&true)))))))))) then some (8,()) else some (0,()):=mkI
theorem Zo3 n x0 x1 x2 x3 x4 x5 x6 x7 x8 x9 x10 x11 x12 x13 x14 x15 x16 x17 x18 x19 x20 x21 x22:Eq (Zc9 (n+1) x0 x1 x2 x3 x4 x5 x6 x7 x8 x9 x10 x11 x12 x13 x14 x15 x16 x17 x18 x19 x20 x21 x22) <| bif x22 then (Zas x2).bind fun e0=>Xo n x0 x1 x2 x3 x4 x5 x6 x7 x8 x9 e0.1 x11 x1 x2 x3 x15 x16 x17 x18 x19 x20 else bif x21==2 then (Zcf x4).bind fun e0=>Xo n x0 x1 x2 x3 x4 x5 x6 x7 x8 x9 e0.1 x11 x12 x13 x14 x4 x16 x17 x18 x19 x20 else bif x21==3 then let k1:=Xo n x0 x1 x2 x3 x4 x5 x6 x7 x8 x9 false x11 x12 x13 x14 x15 x5 x6 x7 x8 x9;bif (-2199023255552)≤x6 then bif x6<x7 then Xo n x0 x1 x2 x3 x4 x5 x6 x7 x8 x9 (decide (x7≤2199023255552)) x11 x12 x13 x14 x15 x5 x6 x7 x8 x9 else k1 else k1 else Xo n x0 x1 x2 x3 x4 x5 x6 x7 x8 x9 x10 x11 x12 x13 x14 x15 x16 x17 x18 x19 x20:=mkI
def Yif:Tb:=[(63,Zxx)]
def F34:TFun:=⟨[],[(6,qc [qn 23,[.c (.p (.sl Vq4))],qi,qi,qn 9])],[.a [.int .i64,.sl Vq4]],[.c (.p di)],qc [qn 2,qi,qn 32],[],[],0⟩
def Z8h:=mkC Yif prog 34 F34
theorem ok34:Z8h.ok prog 34:=mkO ⟨ok63,trivial⟩
def Xh (a0:(Int×List Vy4×Unit)):Option (Int×Unit):=Z8h.fn (a0,())
def Za3 (n:Nat)(x0:(List Vy4))(x1 x2:Int):Option (Int×Unit):=itr Yif prog 34 F34 n 6 (x0,x1,x2,())
theorem Zqf a0:Eq (Xh a0) <| bif a0.1<1 then some (8,()) else bif a0.1>8 then some (8,()) else bif ofNat a0.2.1.length>a0.1 then some (8,()) else Za3 fuel a0.2.1 (ofNat a0.2.1.length) 0:=mkE
theorem Zgo n x0 x1 x2:Eq (Za3 (n+1) x0 x1 x2) <| bif x2<x1 then ix x0 x2 fun e0=>(Qf e0).bind fun e1=>bif e1.1 !=0 then some (e1.1,()) else Za3 n x0 x1 (wrap .i64 (x2+1)) else some (0,()):=mkI
def Yl3:Tb:=[(128,Zzq),(127,Ztc)]
def F90:TFun:=⟨[],[],[.a Vq7],[.a [.p (.int .u8),.p di,.p di,.p di,.p di,.p di,.p di,.p di,.p di,.p di],.c (.p di)],qc [qn 2,[.boxN 115 10 [.p (.int .u8),.p di,.p di,.p di,.p di,.p di,.p di,.p di,.p di,.p di]],qi,qn 30],[],[],0⟩
def Yc4:=mkC Yl3 prog 90 F90
theorem ok90:Yc4.ok prog 90:=mkO ⟨Yie,Yc2,trivial⟩
def Ztd (a0:Vy5):Option (Vy4×Int×Unit):=Yc4.fn (a0,())
theorem Zzr a0:Eq (Ztd a0) <| let k1:Option (Vy4×Int×Unit):=some (((0,0,0,0,0,0,0,0,0,0,()),8,()));bif a0.1 then (Zcf a0.2.1).bind fun e0=>bif !e0.1 then k1 else bif !(a0.2.2.1==0&&(a0.2.2.2.1==0&&(a0.2.2.2.2.1==0&&true))) then k1 else some (((2,0,0,0,a0.2.1,0,0,0,0,0,()),0,())) else bif a0.2.1 !=0 then k1 else (Zas a0.2.2.2.1).bind fun e0=>bif !e0.1 then k1 else some (((1,a0.2.2.1,a0.2.2.2.1,a0.2.2.2.2.1,0,0,0,0,0,0,()),0,())):=mkE
def Yj1:Tb:=[(90,Yc4)]
def F134:TFun:=⟨[],[],[.a Vq7],[.c (.p di)],qc [qn 2,qi,qn 8],[],[],0⟩
def Z47:=mkC Yj1 prog 134 F134
theorem Yl4:Z47.ok prog 134:=mkO ⟨ok90,trivial⟩
def Zgd (a0:Vy5):Option (Int×Unit):=Z47.fn (a0,())
theorem Zqg a0:Eq (Zgd a0) <| (Ztd a0).bind fun e0=>some (e0.2.1,()):=mkE
def Yj2:Tb:=[]
def F129:TFun:=⟨[],[],[.c (.int .u8)],[.c (.p di),.c (.p di),.c (.p db),.c (.p db),.c (.p db),.c (.p db)],qc [qn 2,qi,qi,qb,qb,qb,qb,qn 15],[],[],0⟩
def Z48:=mkC Yj2 prog 129 F129
theorem Yl5:Z48.ok prog 129:=mkO trivial
def Zjg (a0:Int):Option (Int×Int×Bool×Bool×Bool×Bool×Unit):=Z48.fn (a0,())
theorem Zu5 a0:Eq (Zjg a0) <| bif a0==1 then some (0,0,false,true,false,false,()) else bif a0==2 then some (1,1,false,false,false,false,()) else bif a0==3 then some (0,0,false,false,false,false,()) else bif a0==4 then some (1,4,true,false,false,false,()) else bif a0==5 then some (2,2,true,false,false,false,()) else bif a0==6 then some (0,0,false,false,true,false,()) else bif a0==7 then some (0,0,false,false,false,true,()) else some (1,0,false,false,false,false,()):=mkE
def Yj3:Tb:=[]
def F130:TFun:=⟨[],[],[.c db,.c di],[.c (.p di)],qc [qn 4,qi,qn 2],[],[],0⟩
def Z49:=mkC Yj3 prog 130 F130
theorem Yl6:Z49.ok prog 130:=mkO trivial
def Zda (a0:Bool)(a1:Int):Option (Int×Unit):=Z49.fn (a0,a1,())
theorem Zp6 a0 a1:Eq (Zda a0 a1) <| bif a0 then some (a1,()) else some (0,()):=mkE
def Yc5:Tb:=[(63,Zxx)]
def F131:TFun:=⟨[],[(3,qc [qn 5,[.c (.p (.sl Vq6))],qi,qi,qn 18])],[.c (.sl Vq6)],[.c (.p db)],qc [qn 2,qb,qn 23],[],[],0⟩
def Z5a:=mkC Yc5 prog 131 F131
theorem Yl7:Z5a.ok prog 131:=mkO ⟨ok63,trivial⟩
def Zmp (a0:(List Vy1)):Option (Bool×Unit):=Z5a.fn (a0,())
def Zdg (n:Nat)(x0:(List Vy1))(x1 x2:Int):Option (Bool×Unit):=itr Yc5 prog 131 F131 n 3 (x0,x1,x2,())
theorem Zzs a0:Eq (Zmp a0) <| Zdg fuel a0 (ofNat a0.length) 0:=mkE
theorem Zl2 n x0 x1 x2:Eq (Zdg (n+1) x0 x1 x2) <| bif x2<x1 then ix x0 x2 fun e0=>bif e0.1<0 then some (false,()) else bif e0.1≥3 then some (false,()) else (Qf e0.2).bind fun e1=>bif e1.1 !=0 then some (false,()) else Zdg n x0 x1 (wrap .i64 (x2+1)) else some (true,()):=mkI
def Yj4:Tb:=[(63,Zxx)]
def F133:TFun:=⟨[],[],[.c di],[.c (.p db)],qc [qn 2,qb,qn 8],[],[],0⟩
def Z5b:=mkC Yj4 prog 133 F133
theorem Yl8:Z5b.ok prog 133:=mkO ⟨ok63,trivial⟩
def Zjh (a0:Int):Option (Bool×Unit):=Z5b.fn (a0,())
theorem Zu6 a0:Eq (Zjh a0) <| bif a0==(-9223372036854775808) then some (true,()) else (Qf (2,0,0,0,a0,0,0,0,0,0,())).bind fun e0=>some (e0.1==0,()):=mkE
def Yj5:Tb:=[]
def F220:TFun:=⟨[],[],[.a [.int .i64,.int .i64,.int .i64,.int .i64]],[.c (.p di)],qc [qn 2,qi,qn 40],[],[],0⟩
def Z5c:=mkC Yj5 prog 220 F220
theorem Yl9:Z5c.ok prog 220:=mkO trivial
def Zed (a0:(Int×Int×Int×Int×Unit)):Option (Int×Unit):=Z5c.fn (a0,())
theorem Zte a0:Eq (Zed a0) <| let k1:Option (Int×Unit):=some (8,());bif a0.1==0 then bif !(a0.1==0&&(a0.2.1==0&&(a0.2.2.1==0&&(a0.2.2.2.1==0&&true)))) then k1 else some (0,()) else bif a0.1==1 then bif a0.2.1==a0.2.2.1 then bif !a0.2.1==a0.2.2.2.1 then k1 else some (0,()) else k1 else bif a0.1>1 then bif a0.1≤1073741824 then bif !decide (a0.2.2.1≤a0.2.2.2.1) then k1 else some (0,()) else k1 else k1:=mkE
def Yj6:Tb:=[(220,Z5c)]
def F184:TFun:=⟨[],[],[.a Vq1],[.c (.p db)],qc [qn 2,qb,qn 43],[],[],0⟩
def Z5d:=mkC Yj6 prog 184 F184
theorem Yma:Z5d.ok prog 184:=mkO ⟨Yl9,trivial⟩
def Zji (a0:Vy1):Option (Bool×Unit):=Z5d.fn (a0,())
theorem Zu7 a0:Eq (Zji a0) <| let k1:=some (false,());bif a0.2.1<(-1100585369600) then k1 else bif a0.2.2.1≤a0.2.1 then k1 else bif a0.2.2.1>1100585369600 then k1 else (Zed (a0.2.2.2.1,a0.2.2.2.2.1,a0.2.2.2.2.2.1,a0.2.2.2.2.2.2.1,())).bind fun e0=>bif e0.1==0 then (Zed a0.2.2.2.2.2.2.2).bind fun e1=>bif e1.1==0 then some ((decide (wrap .i64 (a0.2.2.2.1+a0.2.2.2.2.2.2.2.1)>0),())) else k1 else k1:=mkE
def Yj7:Tb:=[]
def F261:TFun:=⟨[],[],[.c di],[.c (.p db)],qc [qn 2,qb,qn 3],[],[],0⟩
def Z5e:=mkC Yj7 prog 261 F261
theorem Ymb:Z5e.ok prog 261:=mkO trivial
def Zdb (a0:Int):Option (Bool×Unit):=Z5e.fn (a0,())
theorem Zmq a0:Eq (Zdb a0) <| some (a0 !=a0,()):=mkE
def Yj8:Tb:=[(261,Z5e)]
def F222:TFun:=⟨[],[],[.c di,.c di],[.c (.p di)],qc [qn 4,qi,qn 15],[],[],0⟩
def Z5f:=mkC Yj8 prog 222 F222
theorem Ymc:Z5f.ok prog 222:=mkO ⟨Ymb,trivial⟩
def Xu (a0 a1:Int):Option (Int×Unit):=Z5f.fn (a0,a1,())
theorem Zjj a0 a1:Eq (Xu a0 a1) <| (Zdb a0).bind fun e0=>(Zdb a1).bind fun e1=>bif e0.1 then bif e1.1 then some (0,()) else some ((-1),()) else bif e1.1 then some (1,()) else bif a0<a1 then some ((-1),()) else bif a0>a1 then some (1,()) else some (0,()):=mkE
def Yc6:Tb:=[]
def F221:TFun:=⟨[],[(4,qc [qn 3,qi,qn 2,[.c (.p (.sl Vq10))],qi,qi,qn 9])],[.c (.sl Vq10)],[.c (.p di)],qc [qn 2,qi,qn 15],[],[],0⟩
def Z5g:=mkC Yc6 prog 221 F221
theorem Ymd:Z5g.ok prog 221:=mkO trivial
def Zjk (a0:Vy7):Option (Int×Unit):=Z5g.fn (a0,())
def Zcg (n:Nat)(x0:Int)(x1:Vy7)(x2 x3:Int):Option (Int×Unit):=itr Yc6 prog 221 F221 n 4 (x0,x1,x2,x3,())
theorem Zu8 a0:Eq (Zjk a0) <| Zcg fuel 0 a0 (ofNat a0.length) 0:=mkE
theorem Ztf n x0 x1 x2 x3:Eq (Zcg (n+1) x0 x1 x2 x3) <| bif x3<x2 then ix x1 x3 fun e0=>bif e0.1 !=x0 then some (e0.1,()) else Zcg n x0 x1 x2 (wrap .i64 (x3+1)) else some (x0,()):=mkI
def Yj9:Tb:=[(222,Z5f),(221,Z5g)]
def F185:TFun:=⟨[],[],[.a Vq1,.a Vq1],[.c (.p di)],qc [qn 4,qi,qn 21],[],[],0⟩
def Z5h:=mkC Yj9 prog 185 F185
theorem Yme:Z5h.ok prog 185:=mkO ⟨Ymc,Ymd,trivial⟩
def Zjl (a0 a1:Vy1):Option (Int×Unit):=Z5h.fn (a0,a1,())
theorem Zu9 a0 a1:Eq (Zjl a0 a1) <| (Xu a0.2.2.1 a1.2.2.1).bind fun e0=>(Xu a0.2.1 a1.2.1).bind fun e1=>(Xu a0.1 a1.1).bind fun e2=>(Zjk [(e0.1,()),(e1.1,()),(e2.1,())]).bind fun e3=>some (e3.1,()):=mkE
def Yc7:Tb:=[(184,Z5d),(185,Z5h)]
def F132:TFun:=⟨[],[(6,qc [[.c (.p (.sl Vq1))],qn 7,[.c (.p (.sl Vq1))],qi,qi,qn 22])],[.c (.sl Vq1)],[.c (.p di)],qc [qn 2,qi,qn 30],[],[],0⟩
def Z5i:=mkC Yc7 prog 132 F132
theorem Ymf:Z5i.ok prog 132:=mkO ⟨Yma,Yme,trivial⟩
def Zjm (a0:(List Vy1)):Option (Int×Unit):=Z5i.fn (a0,())
def Zch (n:Nat)(x0 x1:(List Vy1))(x2 x3:Int):Option (Int×Unit):=itr Yc7 prog 132 F132 n 6 (x0,x1,x2,x3,())
theorem Zva a0:Eq (Zjm a0) <| bif ofNat a0.length>4000 then some (4,()) else Zch fuel a0 a0 (ofNat a0.length) 0:=mkE
theorem Zjn n x0 x1 x2 x3:Eq (Zch (n+1) x0 x1 x2 x3) <| bif x3<x2 then ix x1 x3 fun e0=>(Zji e0).bind fun e1=>bif !e1.1 then some (8,()) else let k1:=Zch n x0 x1 x2 (wrap .i64 (x3+1));bif x3>0 then ix x0 (wrap .i64 (x3 - 1)) fun e2=>(Zjl e2 e0).bind fun e3=>bif e3.1≥0 then some (8,()) else k1 else k1 else some (0,()):=mkI
def Zhx:Tb:=[(129,Z48),(130,Z49),(131,Z5a),(132,Z5i),(133,Z5b),(134,Z47),(63,Zxx)]
def F64:TFun:=⟨[1,3,4,5,6,13,21,29,37,45,50],[(1,qc [qn 1,[.boxN 66 9 [.p (.int .u8),.p di,.p di,.p (.sl Vq6),.p (.sl Vq10),.p (.sl Vq1),.p (.sl Vq7),.p (.sl Vq3),.p (.sl Vq8)]],qn 1,qi,qi,qb,qb,qb,qb,qn 193]),(3,qc [qn 1,[.boxN 66 9 [.p (.int .u8),.any,.any,.p (.sl Vq6),.p (.sl Vq10),.p (.sl Vq1),.p (.sl Vq7),.p (.sl Vq3),.p (.sl Vq8)]],qn 1,qi,qi,qb,qb,qb,qb,qb,qn 192]),(4,qc [qn 1,[.boxN 66 9 [.p (.int .u8),.any,.any,.p (.sl Vq6),.p (.sl Vq10),.p (.sl Vq1),.p (.sl Vq7),.p (.sl Vq3),.p (.sl Vq8)]],qn 7,qb,qb,qn 191]),(5,qc [qn 1,[.boxN 66 9 [.p (.int .u8),.any,.any,.any,.p (.sl Vq10),.p (.sl Vq1),.p (.sl Vq7),.p (.sl Vq3),.p (.sl Vq8)]],qn 200]),(6,qc [qn 1,[.boxN 66 9 [.p (.int .u8),.any,.any,.any,.p (.sl Vq10),.p (.sl Vq1),.p (.sl Vq7),.p (.sl Vq3),.p (.sl Vq8)]],qn 118,qb,qn 81]),(13,qc [qn 1,[.boxN 66 9 [.p (.int .u8),.any,.any,.any,.any,.p (.sl Vq1),.p (.sl Vq7),.p (.sl Vq3),.p (.sl Vq8)]],qn 9,qb,qn 110,[.c (.p (.sl Vq10))],qi,qi,qn 77]),(21,qc [qn 1,[.boxN 66 9 [.p (.int .u8),.any,.any,.any,.any,.p (.sl Vq1),.any,.p (.sl Vq3),.p (.sl Vq8)]],qn 9,qb,qn 123,[.c (.p (.sl Vq7))],qi,qi,qn 64]),(29,qc [qn 1,[.boxN 66 9 [.p (.int .u8),.any,.any,.any,.any,.p (.sl Vq1),.any,.any,.p (.sl Vq8)]],qn 9,qb,qn 137,[.c (.p (.sl Vq3))],qi,qi,qn 50]),(37,qc [qn 1,[.boxN 66 9 [.p (.int .u8),.any,.any,.any,.any,.p (.sl Vq1),.any,.any,.any]],qn 9,qb,qn 152,[.c (.p (.sl Vq8))],qi,qi,qn 35]),(45,qc [qn 1,[.boxN 66 9 [.p (.int .u8),.any,.any,.any,.any,.any,.any,.any,.any]],qn 9,qb,qn 167,[.c (.p (.sl Vq1))],qi,qi,qn 20]),(50,qn 202)],[.a Vq2],[.c (.p di)],qc [qn 2,qi,qn 199],[],[],0⟩
def Yc8:=mkC Zhx prog 64 F64
theorem ok64:Yc8.ok prog 64:=mkO ⟨Yl5,Yl6,Yl7,Ymf,Yl8,Yl4,ok63,trivial⟩
def Zbv (a0:Vy3):Option (Int×Unit):=Yc8.fn (a0,())
def Zl3 (n:Nat)(x0 x1 x2:Int)(x3:(List Vy1))(x4:Vy7)(x5:(List Vy1))(x6:(List Vy5))(x7:(List Vy2))(x8:Vy6)(x9 x10:Int)(x11 x12 x13 x14:Bool):Option (Int×Unit):=itr Zhx prog 64 F64 n 1 (x0,x1,x2,x3,x4,x5,x6,x7,x8,x9,x10,x11,x12,x13,x14,())
def Zdh (n:Nat)(x0:Int)(x1:(List Vy1))(x2:Vy7)(x3:(List Vy1))(x4:(List Vy5))(x5:(List Vy2))(x6:Vy6)(x7 x8:Int)(x9 x10 x11 x12 x13:Bool):Option (Int×Unit):=itr Zhx prog 64 F64 n 3 (x0,x1,x2,x3,x4,x5,x6,x7,x8,x9,x10,x11,x12,x13,())
def Zdi (n:Nat)(x0:Int)(x1:(List Vy1))(x2:Vy7)(x3:(List Vy1))(x4:(List Vy5))(x5:(List Vy2))(x6:Vy6)(x7 x8:Bool):Option (Int×Unit):=itr Zhx prog 64 F64 n 4 (x0,x1,x2,x3,x4,x5,x6,x7,x8,())
def Zl4 (n:Nat)(x0:Int)(x1:Vy7)(x2:(List Vy1))(x3:(List Vy5))(x4:(List Vy2))(x5:Vy6):Option (Int×Unit):=itr Zhx prog 64 F64 n 5 (x0,x1,x2,x3,x4,x5,())
def Zdj (n:Nat)(x0:Int)(x1:Vy7)(x2:(List Vy1))(x3:(List Vy5))(x4:(List Vy2))(x5:Vy6)(x6:Bool):Option (Int×Unit):=itr Zhx prog 64 F64 n 6 (x0,x1,x2,x3,x4,x5,x6,())
def Qs (n:Nat)(x0:Int)(x1:(List Vy1))(x2:(List Vy5))(x3:(List Vy2))(x4:Vy6)(x5:Bool)(x6:Vy7)(x7 x8:Int):Option (Int×Unit):=itr Zhx prog 64 F64 n 13 (x0,x1,x2,x3,x4,x5,x6,x7,x8,())
def Qt (n:Nat)(x0:Int)(x1:(List Vy1))(x2:(List Vy2))(x3:Vy6)(x4:Bool)(x5:(List Vy5))(x6 x7:Int):Option (Int×Unit):=itr Zhx prog 64 F64 n 21 (x0,x1,x2,x3,x4,x5,x6,x7,())
def Qu (n:Nat)(x0:Int)(x1:(List Vy1))(x2:Vy6)(x3:Bool)(x4:(List Vy2))(x5 x6:Int):Option (Int×Unit):=itr Zhx prog 64 F64 n 29 (x0,x1,x2,x3,x4,x5,x6,())
def Qv (n:Nat)(x0:Int)(x1:(List Vy1))(x2:Bool)(x3:Vy6)(x4 x5:Int):Option (Int×Unit):=itr Zhx prog 64 F64 n 37 (x0,x1,x2,x3,x4,x5,())
def Xv (n:Nat)(x0:Int)(x1:Bool)(x2:(List Vy1))(x3 x4:Int):Option (Int×Unit):=itr Zhx prog 64 F64 n 45 (x0,x1,x2,x3,x4,())
def Zjo (n:Nat):Option (Int×Unit):=itr Zhx prog 64 F64 n 50 ()
theorem Zzt a0:Eq (Zbv a0) <| (Zjg a0.1).bind fun e0=>Zl3 fuel a0.1 a0.2.1 a0.2.2.1 a0.2.2.2.1 a0.2.2.2.2.1 a0.2.2.2.2.2.1 a0.2.2.2.2.2.2.1 a0.2.2.2.2.2.2.2.1 a0.2.2.2.2.2.2.2.2.1 e0.1 e0.2.1 e0.2.2.1 e0.2.2.2.1 e0.2.2.2.2.1 e0.2.2.2.2.2.1:=mkE
theorem Zvb n x0 x1 x2 x3 x4 x5 x6 x7 x8 x9 x10 x11 x12 x13 x14:Eq (Zl3 (n+1) x0 x1 x2 x3 x4 x5 x6 x7 x8 x9 x10 x11 x12 x13 x14) <| let k1:=Zdh n x0 x3 x4 x5 x6 x7 x8 x9 x10 x11 x12 x13 x14 false;bif x2≥0 then bif x2<20 then bif x1≥0 then Zdh n x0 x3 x4 x5 x6 x7 x8 x9 x10 x11 x12 x13 x14 (decide (x1<4)) else k1 else k1 else k1:=mkI
theorem Zvc n x0 x1 x2 x3 x4 x5 x6 x7 x8 x9 x10 x11 x12 x13:Eq (Zdh (n+1) x0 x1 x2 x3 x4 x5 x6 x7 x8 x9 x10 x11 x12 x13) <| let k1:=Zdi n x0 x1 x2 x3 x4 x5 x6 x13 false;bif ofNat x1.length≤4000 then bif ofNat x2.length≥x7 then bif ofNat x2.length≤x8 then (Zda x9 4000).bind fun e0=>bif ofNat x3.length≤e0.1 then (Zda x10 60).bind fun e1=>bif ofNat x4.length≤e1.1 then (Zda x11 4000).bind fun e2=>bif ofNat x5.length≤e2.1 then (Zda x12 4000).bind fun e3=>Zdi n x0 x1 x2 x3 x4 x5 x6 x13 (decide (ofNat x6.length≤e3.1)) else k1 else k1 else k1 else k1 else k1 else k1:=mkI
theorem Zvd n x0 x1 x2 x3 x4 x5 x6 x7 x8:Eq (Zdi (n+1) x0 x1 x2 x3 x4 x5 x6 x7 x8) <| let k1:=Zdj n x0 x2 x3 x4 x5 x6 true;bif !x7 then k1 else bif !x8 then k1 else (Zmp x1).bind fun e0=>bif !e0.1 then k1 else (Zjm x3).bind fun e1=>Zdj n x0 x2 x3 x4 x5 x6 (e1.1 !=0):=mkI
theorem Zve n x0 x1 x2 x3 x4 x5:Eq (Zl4 (n+1) x0 x1 x2 x3 x4 x5) <| Qs n x0 x2 x3 x4 x5 true x1 (ofNat x1.length) 0:=mkI
theorem Zvf n x0 x1 x2 x3 x4 x5 x6:Eq (Zdj (n+1) x0 x1 x2 x3 x4 x5 x6) <| bif x6 then some (8,()) else Zl4 n x0 x1 x2 x3 x4 x5:=mkI
theorem Zjp n x0 x1 x2 x3 x4 x5 x6 x7 x8:Eq (Qs (n+1) x0 x1 x2 x3 x4 x5 x6 x7 x8) <| bif x8<x7 then ix x6 x8 fun e0=>bif x5 then (Zjh e0.1).bind fun e1=>Qs n x0 x1 x2 x3 x4 e1.1 x6 x7 (wrap .i64 (x8+1)) else Qs n x0 x1 x2 x3 x4 false x6 x7 (wrap .i64 (x8+1)) else Qt n x0 x1 x3 x4 x5 x2 (ofNat x2.length) 0:=mkI
theorem Zjq n x0 x1 x2 x3 x4 x5 x6 x7:Eq (Qt (n+1) x0 x1 x2 x3 x4 x5 x6 x7) <| bif x7<x6 then ix x5 x7 fun e0=>bif x4 then (Zgd e0).bind fun e1=>Qt n x0 x1 x2 x3 (e1.1==0) x5 x6 (wrap .i64 (x7+1)) else Qt n x0 x1 x2 x3 false x5 x6 (wrap .i64 (x7+1)) else Qu n x0 x1 x3 x4 x2 (ofNat x2.length) 0:=mkI
theorem Zjr n x0 x1 x2 x3 x4 x5 x6:Eq (Qu (n+1) x0 x1 x2 x3 x4 x5 x6) <| bif x6<x5 then ix x4 x6 fun e0=>bif x3 then (Qf (3,0,0,0,0,e0)).bind fun e1=>Qu n x0 x1 x2 (e1.1==0) x4 x5 (wrap .i64 (x6+1)) else Qu n x0 x1 x2 false x4 x5 (wrap .i64 (x6+1)) else Qv n x0 x1 x3 x2 (ofNat x2.length) 0:=mkI
theorem Zjs n x0 x1 x2 x3 x4 x5:Eq (Qv (n+1) x0 x1 x2 x3 x4 x5) <| bif x5<x4 then ix x3 x5 fun e0=>bif x2 then (Qf (4,e0.1,e0.2.1,e0.2.2.1,0,0,0,0,0,0,())).bind fun e1=>Qv n x0 x1 (e1.1==0) x3 x4 (wrap .i64 (x5+1)) else Qv n x0 x1 false x3 x4 (wrap .i64 (x5+1)) else Xv n x0 x2 x1 (ofNat x1.length) 0:=mkI
theorem Zjt n x0 x1 x2 x3 x4:Eq (Xv (n+1) x0 x1 x2 x3 x4) <| bif x4<x3 then ix x2 x4 fun e0=>bif x1 then bif x0 !=4 then Xv n x0 true x2 x3 (wrap .i64 (x4+1)) else Xv n x0 (e0.2.2.2.2.2.2.2.1==0) x2 x3 (wrap .i64 (x4+1)) else Xv n x0 false x2 x3 (wrap .i64 (x4+1)) else bif !x1 then some (8,()) else Zjo n:=mkI
theorem Ztg n  : Eq (Zjo (n+1) ) <| some (0,()):=mkI
end
end Tg
