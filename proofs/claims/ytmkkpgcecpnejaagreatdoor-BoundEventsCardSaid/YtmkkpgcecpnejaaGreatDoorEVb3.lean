import Derived.Test.YtmkkpgcecpnejaaGreatDoorEVT
/- Functions of the code, told plainly and checked by the kernel. -/
set_option linter.unusedVariables false
set_option linter.unusedSimpArgs false
set_option maxRecDepth 100000
namespace Tg
noncomputable section
open Go.Abs hiding fuel
open Go.Proofs.Tryz (prog)
open Int (ofNat toNat)
open Go.IntKind (wrap)
def Ylv:Tb:=[]
def F88:TFun:=⟨[],[],[.c di],[.c (.p db)],qc [qn 2,qb,qn 6],[],[],0⟩
def Z2w:=mkC Ylv prog 88 F88
theorem ok88:Z2w.ok prog 88:=mkO trivial
def Za2 (a0:Int):Option (Bool×Unit):=Z2w.fn (a0,())
theorem Zo0 a0:Eq (Za2 a0) <| bif a0>=(-1099511627776) then some (decide (a0<=1099511627776),()) else some (false,()):=mkE
def Ylw:Tb:=[(88,Z2w)]
def F87:TFun:=⟨[],[],[.c di],[.c (.p db)],qc [qn 2,qb,qn 6],[],[],0⟩
def Z8a:=mkC Ylw prog 87 F87
theorem ok87:Z8a.ok prog 87:=mkO ⟨ok88,trivial⟩
def Zcd (a0:Int):Option (Bool×Unit):=Z8a.fn (a0,())
theorem Zo1 a0:Eq (Zcd a0) <| (Za2 a0).bind fun e0=>bif e0.1 then some (true,()) else some (a0==9223372036854775807,()):=mkE
def Ycu:Tb:=[(88,Z2w),(87,Z8a)]
def F75:TFun:=⟨[5,3],[(3,qc [qn 1,[.boxN 102 10 [.p (.int .u8),.p di,.p di,.p di,.p di,.p di,.p di,.p di,.p di,.p di]],qn 1,qb,[.boxN 102 10 [.p (.int .u8),.p di,.p di,.p di,.p di,.p di,.p di,.p di,.p di,.p di]],qn 54]),(5,qc [qn 1,[.boxN 102 10 [.p (.int .u8),.p di,.p di,.p di,.p di,.p di,.p di,.p di,.p di,.p di]],qn 1,qb,[.boxN 102 10 [.p (.int .u8),.p di,.p di,.p di,.p di,.p di,.p di,.p di,.p di,.p di]],qn 5,[.c (.p (.int .u8))],qb,qn 47])],[.a Vq6],[.c (.p di)],qc [qn 2,qi,qn 56],[],[],0⟩
def Zxn:=mkC Ycu prog 75 F75
theorem ok75:Zxn.ok prog 75:=mkO ⟨ok88,ok87,trivial⟩
def Qy (a0:Vy4):Option (Int×Unit):=Zxn.fn (a0,())
def X3 (n:Nat)(x0 x1 x2 x3 x4 x5 x6 x7 x8 x9:Int)(x10:Bool)(x11 x12 x13 x14 x15 x16 x17 x18 x19 x20:Int):Option (Int×Unit):=itr Ycu prog 75 F75 n 3 (x0,x1,x2,x3,x4,x5,x6,x7,x8,x9,x10,x11,x12,x13,x14,x15,x16,x17,x18,x19,x20,())
def Zc5 (n:Nat)(x0 x1 x2 x3 x4 x5 x6 x7 x8 x9:Int)(x10:Bool)(x11 x12 x13 x14 x15 x16 x17 x18 x19 x20 x21:Int)(x22:Bool):Option (Int×Unit):=itr Ycu prog 75 F75 n 5 (x0,x1,x2,x3,x4,x5,x6,x7,x8,x9,x10,x11,x12,x13,x14,x15,x16,x17,x18,x19,x20,x21,x22,())
theorem Zqk a0:Eq (Qy a0) <| bif a0.1==1 then Zc5 fuel a0.1 a0.2.1 a0.2.2.1 a0.2.2.2.1 a0.2.2.2.2.1 a0.2.2.2.2.2.1 a0.2.2.2.2.2.2.1 a0.2.2.2.2.2.2.2.1 a0.2.2.2.2.2.2.2.2.1 a0.2.2.2.2.2.2.2.2.2.1 false a0.1 0 0 0 0 0 0 0 0 0 a0.1 true else Zc5 fuel a0.1 a0.2.1 a0.2.2.1 a0.2.2.2.1 a0.2.2.2.2.1 a0.2.2.2.2.2.1 a0.2.2.2.2.2.2.1 a0.2.2.2.2.2.2.2.1 a0.2.2.2.2.2.2.2.2.1 a0.2.2.2.2.2.2.2.2.2.1 false a0.1 0 0 0 0 0 0 0 0 0 a0.1 (a0.1==4):=mkE
theorem Zo2 n x0 x1 x2 x3 x4 x5 x6 x7 x8 x9 x10 x11 x12 x13 x14 x15 x16 x17 x18 x19 x20:Eq (X3 (n+1) x0 x1 x2 x3 x4 x5 x6 x7 x8 x9 x10 x11 x12 x13 x14 x15 x16 x17 x18 x19 x20) <| bif !x10 then some (8,()) else bif !(x0==x11&&(x1==x12&&(x2==x13&&(x3==x14&&(x4==x15&&(x5==x16&&(x6==x17&&(x7==x18&&(x8==x19&&(x9==x20&&true)))))))))) then some (8,()) else some (0,()):=mkI
theorem Zo3 n x0 x1 x2 x3 x4 x5 x6 x7 x8 x9 x10 x11 x12 x13 x14 x15 x16 x17 x18 x19 x20 x21 x22:Eq (Zc5 (n+1) x0 x1 x2 x3 x4 x5 x6 x7 x8 x9 x10 x11 x12 x13 x14 x15 x16 x17 x18 x19 x20 x21 x22) <| bif x22 then (Za2 x2).bind fun e0=>X3 n x0 x1 x2 x3 x4 x5 x6 x7 x8 x9 e0.1 x11 x1 x2 x3 x15 x16 x17 x18 x19 x20 else bif x21==2 then (Zcd x4).bind fun e0=>X3 n x0 x1 x2 x3 x4 x5 x6 x7 x8 x9 e0.1 x11 x12 x13 x14 x4 x16 x17 x18 x19 x20 else bif x21==3 then let k1:=X3 n x0 x1 x2 x3 x4 x5 x6 x7 x8 x9 false x11 x12 x13 x14 x15 x5 x6 x7 x8 x9;bif (-2199023255552)<=x6 then bif x6<x7 then X3 n x0 x1 x2 x3 x4 x5 x6 x7 x8 x9 (decide (x7<=2199023255552)) x11 x12 x13 x14 x15 x5 x6 x7 x8 x9 else k1 else k1 else X3 n x0 x1 x2 x3 x4 x5 x6 x7 x8 x9 x10 x11 x12 x13 x14 x15 x16 x17 x18 x19 x20:=mkI
def Yij:Tb:=[(75,Zxn)]
def F57:TFun:=⟨[],[(6,qc [qn 23,[.c (.p (.sl Vq6))],qi,qi,qn 9])],[.a [.int .i64,.sl Vq6]],[.c (.p di)],qc [qn 2,qi,qn 32],[],[],0⟩
def Ycv:=mkC Yij prog 57 F57
theorem ok57:Ycv.ok prog 57:=mkO ⟨ok75,trivial⟩
def Zgk (a0:(Int×List Vy4×Unit)):Option (Int×Unit):=Ycv.fn (a0,())
def Zbb (n:Nat)(x0:(List Vy4))(x1 x2:Int):Option (Int×Unit):=itr Yij prog 57 F57 n 6 (x0,x1,x2,())
theorem Zql a0:Eq (Zgk a0) <| bif a0.1<1 then some (8,()) else bif a0.1>8 then some (8,()) else bif ofNat a0.2.1.length>a0.1 then some (8,()) else Zbb fuel a0.2.1 (ofNat a0.2.1.length) 0:=mkE
theorem Zgz n x0 x1 x2:Eq (Zbb (n+1) x0 x1 x2) <| bif x2<x1 then ix x0 x2 fun e0=>(Qy e0).bind fun e1=>bif e1.1 !=0 then some (e1.1,()) else Zbb n x0 x1 (wrap .i64 (x2+1)) else some (0,()):=mkI
def Ylx:Tb:=[(87,Z8a),(88,Z2w)]
def F71:TFun:=⟨[],[],[.a Vq4],[.a [.p (.int .u8),.p di,.p di,.p di,.p di,.p di,.p di,.p di,.p di,.p di],.c (.p di)],qc [qn 2,[.boxN 102 10 [.p (.int .u8),.p di,.p di,.p di,.p di,.p di,.p di,.p di,.p di,.p di]],qi,qn 30],[],[],0⟩
def Ycw:=mkC Ylx prog 71 F71
theorem ok71:Ycw.ok prog 71:=mkO ⟨ok87,ok88,trivial⟩
def Ztc (a0:Vy3):Option (Vy4×Int×Unit):=Ycw.fn (a0,())
theorem Zzh a0:Eq (Ztc a0) <| let k1:Option (Vy4×Int×Unit):=some (((0,0,0,0,0,0,0,0,0,0,()),8,()));bif a0.1 then (Zcd a0.2.1).bind fun e0=>bif !e0.1 then k1 else bif !(a0.2.2.1==0&&(a0.2.2.2.1==0&&(a0.2.2.2.2.1==0&&true))) then k1 else some (((2,0,0,0,a0.2.1,0,0,0,0,0,()),0,())) else bif a0.2.1 !=0 then k1 else (Za2 a0.2.2.2.1).bind fun e0=>bif !e0.1 then k1 else some (((1,a0.2.2.1,a0.2.2.2.1,a0.2.2.2.2.1,0,0,0,0,0,0,()),0,())):=mkE
def Yly:Tb:=[(71,Ycw)]
def F52:TFun:=⟨[],[],[.a Vq4],[.c (.p di)],qc [qn 2,qi,qn 8],[],[],0⟩
def Z8b:=mkC Yly prog 52 F52
theorem ok52:Z8b.ok prog 52:=mkO ⟨ok71,trivial⟩
def Zbh (a0:Vy3):Option (Int×Unit):=Z8b.fn (a0,())
theorem Zqm a0:Eq (Zbh a0) <| (Ztc a0).bind fun e0=>some (e0.2.1,()):=mkE
def Ylz:Tb:=[]
def F92:TFun:=⟨[],[],[.c (.int .u8)],[.c (.p di),.c (.p di),.c (.p db),.c (.p db),.c (.p db),.c (.p db)],qc [qn 2,qi,qi,qb,qb,qb,qb,qn 15],[],[],0⟩
def Ycx:=mkC Ylz prog 92 F92
theorem ok92:Ycx.ok prog 92:=mkO trivial
def Zjo (a0:Int):Option (Int×Int×Bool×Bool×Bool×Bool×Unit):=Ycx.fn (a0,())
theorem Zu0 a0:Eq (Zjo a0) <| bif a0==1 then some (0,0,false,true,false,false,()) else bif a0==2 then some (1,1,false,false,false,false,()) else bif a0==3 then some (0,0,false,false,false,false,()) else bif a0==4 then some (1,4,true,false,false,false,()) else bif a0==5 then some (2,2,true,false,false,false,()) else bif a0==6 then some (0,0,false,false,true,false,()) else bif a0==7 then some (0,0,false,false,false,true,()) else some (1,0,false,false,false,false,()):=mkE
def Yl0:Tb:=[]
def F93:TFun:=⟨[],[],[.c db,.c di],[.c (.p di)],qc [qn 4,qi,qn 2],[],[],0⟩
def Ycy:=mkC Yl0 prog 93 F93
theorem ok93:Ycy.ok prog 93:=mkO trivial
def Zc6 (a0:Bool)(a1:Int):Option (Int×Unit):=Ycy.fn (a0,a1,())
theorem Zp6 a0 a1:Eq (Zc6 a0 a1) <| bif a0 then some (a1,()) else some (0,()):=mkE
def Yik:Tb:=[(75,Zxn)]
def F94:TFun:=⟨[],[(3,qc [qn 5,[.c (.p (.sl Vq3))],qi,qi,qn 18])],[.c (.sl Vq3)],[.c (.p db)],qc [qn 2,qb,qn 23],[],[],0⟩
def Ycz:=mkC Yik prog 94 F94
theorem ok94:Ycz.ok prog 94:=mkO ⟨ok75,trivial⟩
def Zmj (a0:(List Vy1)):Option (Bool×Unit):=Ycz.fn (a0,())
def Zdg (n:Nat)(x0:(List Vy1))(x1 x2:Int):Option (Bool×Unit):=itr Yik prog 94 F94 n 3 (x0,x1,x2,())
theorem Zzi a0:Eq (Zmj a0) <| Zdg fuel a0 (ofNat a0.length) 0:=mkE
theorem Zlu n x0 x1 x2:Eq (Zdg (n+1) x0 x1 x2) <| bif x2<x1 then ix x0 x2 fun e0=>bif e0.1<0 then some (false,()) else bif e0.1>=3 then some (false,()) else (Qy e0.2).bind fun e1=>bif e1.1 !=0 then some (false,()) else Zdg n x0 x1 (wrap .i64 (x2+1)) else some (true,()):=mkI
def Yl1:Tb:=[(75,Zxn)]
def F96:TFun:=⟨[],[],[.c di],[.c (.p db)],qc [qn 2,qb,qn 8],[],[],0⟩
def Yc0:=mkC Yl1 prog 96 F96
theorem ok96:Yc0.ok prog 96:=mkO ⟨ok75,trivial⟩
def Zjp (a0:Int):Option (Bool×Unit):=Yc0.fn (a0,())
theorem Zu1 a0:Eq (Zjp a0) <| bif a0==(-9223372036854775808) then some (true,()) else (Qy (2,0,0,0,a0,0,0,0,0,0,())).bind fun e0=>some (e0.1==0,()):=mkE
def Yj4:Tb:=[]
def F132:TFun:=⟨[],[],[.a [.int .i64,.int .i64,.int .i64,.int .i64]],[.c (.p di)],qc [qn 2,qi,qn 40],[],[],0⟩
def Z5n:=mkC Yj4 prog 132 F132
theorem Yl2:Z5n.ok prog 132:=mkO trivial
def Zej (a0:(Int×Int×Int×Int×Unit)):Option (Int×Unit):=Z5n.fn (a0,())
theorem Ztd a0:Eq (Zej a0) <| let k1:Option (Int×Unit):=some (8,());bif a0.1==0 then bif !(a0.1==0&&(a0.2.1==0&&(a0.2.2.1==0&&(a0.2.2.2.1==0&&true)))) then k1 else some (0,()) else bif a0.1==1 then bif a0.2.1==a0.2.2.1 then bif !a0.2.1==a0.2.2.2.1 then k1 else some (0,()) else k1 else bif a0.1>1 then bif a0.1<=1073741824 then bif !decide (a0.2.2.1<=a0.2.2.2.1) then k1 else some (0,()) else k1 else k1:=mkE
def Yj5:Tb:=[(132,Z5n)]
def F113:TFun:=⟨[],[],[.a Vq1],[.c (.p db)],qc [qn 2,qb,qn 43],[],[],0⟩
def Z5o:=mkC Yj5 prog 113 F113
theorem Yl3:Z5o.ok prog 113:=mkO ⟨Yl2,trivial⟩
def Zjq (a0:Vy1):Option (Bool×Unit):=Z5o.fn (a0,())
theorem Zu2 a0:Eq (Zjq a0) <| let k1:=some (false,());bif a0.2.1<(-1100585369600) then k1 else bif a0.2.2.1<=a0.2.1 then k1 else bif a0.2.2.1>1100585369600 then k1 else (Zej (a0.2.2.2.1,a0.2.2.2.2.1,a0.2.2.2.2.2.1,a0.2.2.2.2.2.2.1,())).bind fun e0=>bif e0.1==0 then (Zej a0.2.2.2.2.2.2.2).bind fun e1=>bif e1.1==0 then some ((decide (wrap .i64 (a0.2.2.2.1+a0.2.2.2.2.2.2.2.1)>0),())) else k1 else k1:=mkE
def Yj6:Tb:=[]
def F163:TFun:=⟨[],[],[.c di],[.c (.p db)],qc [qn 2,qb,qn 3],[],[],0⟩
def Z5p:=mkC Yj6 prog 163 F163
theorem Yl4:Z5p.ok prog 163:=mkO trivial
def Zc7 (a0:Int):Option (Bool×Unit):=Z5p.fn (a0,())
theorem Zmk a0:Eq (Zc7 a0) <| some (a0 !=a0,()):=mkE
def Yj7:Tb:=[(163,Z5p)]
def F134:TFun:=⟨[],[],[.c di,.c di],[.c (.p di)],qc [qn 4,qi,qn 15],[],[],0⟩
def Z5q:=mkC Yj7 prog 134 F134
theorem Yl5:Z5q.ok prog 134:=mkO ⟨Yl4,trivial⟩
def X7 (a0 a1:Int):Option (Int×Unit):=Z5q.fn (a0,a1,())
theorem Zjr a0 a1:Eq (X7 a0 a1) <| (Zc7 a0).bind fun e0=>(Zc7 a1).bind fun e1=>bif e0.1 then bif e1.1 then some (0,()) else some ((-1),()) else bif e1.1 then some (1,()) else bif a0<a1 then some ((-1),()) else bif a0>a1 then some (1,()) else some (0,()):=mkE
def Yc1:Tb:=[]
def F133:TFun:=⟨[],[(4,qc [qn 3,qi,qn 2,[.c (.p (.sl Vq9))],qi,qi,qn 9])],[.c (.sl Vq9)],[.c (.p di)],qc [qn 2,qi,qn 15],[],[],0⟩
def Z5r:=mkC Yc1 prog 133 F133
theorem Yl6:Z5r.ok prog 133:=mkO trivial
def Zjs (a0:Vy7):Option (Int×Unit):=Z5r.fn (a0,())
def Zce (n:Nat)(x0:Int)(x1:Vy7)(x2 x3:Int):Option (Int×Unit):=itr Yc1 prog 133 F133 n 4 (x0,x1,x2,x3,())
theorem Zu3 a0:Eq (Zjs a0) <| Zce fuel 0 a0 (ofNat a0.length) 0:=mkE
theorem Zte n x0 x1 x2 x3:Eq (Zce (n+1) x0 x1 x2 x3) <| bif x3<x2 then ix x1 x3 fun e0=>bif e0.1 !=x0 then some (e0.1,()) else Zce n x0 x1 x2 (wrap .i64 (x3+1)) else some (x0,()):=mkI
def Yj8:Tb:=[(134,Z5q),(133,Z5r)]
def F114:TFun:=⟨[],[],[.a Vq1,.a Vq1],[.c (.p di)],qc [qn 4,qi,qn 21],[],[],0⟩
def Z5s:=mkC Yj8 prog 114 F114
theorem Yl7:Z5s.ok prog 114:=mkO ⟨Yl5,Yl6,trivial⟩
def Zjt (a0 a1:Vy1):Option (Int×Unit):=Z5s.fn (a0,a1,())
theorem Zu4 a0 a1:Eq (Zjt a0 a1) <| (X7 a0.2.2.1 a1.2.2.1).bind fun e0=>(X7 a0.2.1 a1.2.1).bind fun e1=>(X7 a0.1 a1.1).bind fun e2=>(Zjs [(e0.1,()),(e1.1,()),(e2.1,())]).bind fun e3=>some (e3.1,()):=mkE
def Yil:Tb:=[(113,Z5o),(114,Z5s)]
def F95:TFun:=⟨[],[(6,qc [[.c (.p (.sl Vq1))],qn 7,[.c (.p (.sl Vq1))],qi,qi,qn 22])],[.c (.sl Vq1)],[.c (.p di)],qc [qn 2,qi,qn 30],[],[],0⟩
def Yc2:=mkC Yil prog 95 F95
theorem ok95:Yc2.ok prog 95:=mkO ⟨Yl3,Yl7,trivial⟩
def Zju (a0:(List Vy1)):Option (Int×Unit):=Yc2.fn (a0,())
def Zcf (n:Nat)(x0 x1:(List Vy1))(x2 x3:Int):Option (Int×Unit):=itr Yil prog 95 F95 n 6 (x0,x1,x2,x3,())
theorem Zu5 a0:Eq (Zju a0) <| bif ofNat a0.length>4000 then some (4,()) else Zcf fuel a0 a0 (ofNat a0.length) 0:=mkE
theorem Zjv n x0 x1 x2 x3:Eq (Zcf (n+1) x0 x1 x2 x3) <| bif x3<x2 then ix x1 x3 fun e0=>(Zjq e0).bind fun e1=>bif !e1.1 then some (8,()) else let k1:=Zcf n x0 x1 x2 (wrap .i64 (x3+1));bif x3>0 then ix x0 (wrap .i64 (x3 - 1)) fun e2=>(Zjt e2 e0).bind fun e3=>bif e3.1>=0 then some (8,()) else k1 else k1 else some (0,()):=mkI
def Zic:Tb:=[(92,Ycx),(93,Ycy),(94,Ycz),(95,Yc2),(96,Yc0),(52,Z8b),(75,Zxn)]
def F76:TFun:=⟨[1,3,4,5,6,13,21,29,37,45,50],[(1,qc [qn 1,[.boxN 81 9 [.p (.int .u8),.p di,.p di,.p (.sl Vq3),.p (.sl Vq9),.p (.sl Vq1),.p (.sl Vq4),.p (.sl Vq5),.p (.sl Vq7)]],qn 1,qi,qi,qb,qb,qb,qb,qn 193]),(3,qc [qn 1,[.boxN 81 9 [.p (.int .u8),.any,.any,.p (.sl Vq3),.p (.sl Vq9),.p (.sl Vq1),.p (.sl Vq4),.p (.sl Vq5),.p (.sl Vq7)]],qn 1,qi,qi,qb,qb,qb,qb,qb,qn 192]),(4,qc [qn 1,[.boxN 81 9 [.p (.int .u8),.any,.any,.p (.sl Vq3),.p (.sl Vq9),.p (.sl Vq1),.p (.sl Vq4),.p (.sl Vq5),.p (.sl Vq7)]],qn 7,qb,qb,qn 191]),(5,qc [qn 1,[.boxN 81 9 [.p (.int .u8),.any,.any,.any,.p (.sl Vq9),.p (.sl Vq1),.p (.sl Vq4),.p (.sl Vq5),.p (.sl Vq7)]],qn 200]),(6,qc [qn 1,[.boxN 81 9 [.p (.int .u8),.any,.any,.any,.p (.sl Vq9),.p (.sl Vq1),.p (.sl Vq4),.p (.sl Vq5),.p (.sl Vq7)]],qn 118,qb,qn 81]),(13,qc [qn 1,[.boxN 81 9 [.p (.int .u8),.any,.any,.any,.any,.p (.sl Vq1),.p (.sl Vq4),.p (.sl Vq5),.p (.sl Vq7)]],qn 9,qb,qn 110,[.c (.p (.sl Vq9))],qi,qi,qn 77]),(21,qc [qn 1,[.boxN 81 9 [.p (.int .u8),.any,.any,.any,.any,.p (.sl Vq1),.any,.p (.sl Vq5),.p (.sl Vq7)]],qn 9,qb,qn 123,[.c (.p (.sl Vq4))],qi,qi,qn 64]),(29,qc [qn 1,[.boxN 81 9 [.p (.int .u8),.any,.any,.any,.any,.p (.sl Vq1),.any,.any,.p (.sl Vq7)]],qn 9,qb,qn 137,[.c (.p (.sl Vq5))],qi,qi,qn 50]),(37,qc [qn 1,[.boxN 81 9 [.p (.int .u8),.any,.any,.any,.any,.p (.sl Vq1),.any,.any,.any]],qn 9,qb,qn 152,[.c (.p (.sl Vq7))],qi,qi,qn 35]),(45,qc [qn 1,[.boxN 81 9 [.p (.int .u8),.any,.any,.any,.any,.any,.any,.any,.any]],qn 9,qb,qn 167,[.c (.p (.sl Vq1))],qi,qi,qn 20]),(50,qn 202)],[.a [.int .u8,.int .i64,.int .i64,.sl Vq3,.sl Vq9,.sl Vq1,.sl Vq4,.sl Vq5,.sl Vq7]],[.c (.p di)],qc [qn 2,qi,qn 199],[],[],0⟩
def Yc3:=mkC Zic prog 76 F76
theorem ok76:Yc3.ok prog 76:=mkO ⟨ok92,ok93,ok94,ok95,ok96,ok52,ok75,trivial⟩
def Zhm (a0:(Int×Int×Int×List Vy1×List (Int×Unit)×List Vy1×List Vy3×List Vy2×List (Int×Int×Int×Unit)×Unit)):Option (Int×Unit):=Yc3.fn (a0,())
def Zlv (n:Nat)(x0 x1 x2:Int)(x3:(List Vy1))(x4:Vy7)(x5:(List Vy1))(x6:(List Vy3))(x7:(List Vy2))(x8:Vy6)(x9 x10:Int)(x11 x12 x13 x14:Bool):Option (Int×Unit):=itr Zic prog 76 F76 n 1 (x0,x1,x2,x3,x4,x5,x6,x7,x8,x9,x10,x11,x12,x13,x14,())
def Zdh (n:Nat)(x0:Int)(x1:(List Vy1))(x2:Vy7)(x3:(List Vy1))(x4:(List Vy3))(x5:(List Vy2))(x6:Vy6)(x7 x8:Int)(x9 x10 x11 x12 x13:Bool):Option (Int×Unit):=itr Zic prog 76 F76 n 3 (x0,x1,x2,x3,x4,x5,x6,x7,x8,x9,x10,x11,x12,x13,())
def Zdi (n:Nat)(x0:Int)(x1:(List Vy1))(x2:Vy7)(x3:(List Vy1))(x4:(List Vy3))(x5:(List Vy2))(x6:Vy6)(x7 x8:Bool):Option (Int×Unit):=itr Zic prog 76 F76 n 4 (x0,x1,x2,x3,x4,x5,x6,x7,x8,())
def Zlw (n:Nat)(x0:Int)(x1:Vy7)(x2:(List Vy1))(x3:(List Vy3))(x4:(List Vy2))(x5:Vy6):Option (Int×Unit):=itr Zic prog 76 F76 n 5 (x0,x1,x2,x3,x4,x5,())
def Zdj (n:Nat)(x0:Int)(x1:Vy7)(x2:(List Vy1))(x3:(List Vy3))(x4:(List Vy2))(x5:Vy6)(x6:Bool):Option (Int×Unit):=itr Zic prog 76 F76 n 6 (x0,x1,x2,x3,x4,x5,x6,())
def Q9 (n:Nat)(x0:Int)(x1:(List Vy1))(x2:(List Vy3))(x3:(List Vy2))(x4:Vy6)(x5:Bool)(x6:Vy7)(x7 x8:Int):Option (Int×Unit):=itr Zic prog 76 F76 n 13 (x0,x1,x2,x3,x4,x5,x6,x7,x8,())
def Zaa (n:Nat)(x0:Int)(x1:(List Vy1))(x2:(List Vy2))(x3:Vy6)(x4:Bool)(x5:(List Vy3))(x6 x7:Int):Option (Int×Unit):=itr Zic prog 76 F76 n 21 (x0,x1,x2,x3,x4,x5,x6,x7,())
def Zab (n:Nat)(x0:Int)(x1:(List Vy1))(x2:Vy6)(x3:Bool)(x4:(List Vy2))(x5 x6:Int):Option (Int×Unit):=itr Zic prog 76 F76 n 29 (x0,x1,x2,x3,x4,x5,x6,())
def Zac (n:Nat)(x0:Int)(x1:(List Vy1))(x2:Bool)(x3:Vy6)(x4 x5:Int):Option (Int×Unit):=itr Zic prog 76 F76 n 37 (x0,x1,x2,x3,x4,x5,())
def X8 (n:Nat)(x0:Int)(x1:Bool)(x2:(List Vy1))(x3 x4:Int):Option (Int×Unit):=itr Zic prog 76 F76 n 45 (x0,x1,x2,x3,x4,())
def Zjw (n:Nat):Option (Int×Unit):=itr Zic prog 76 F76 n 50 ()
theorem Zzj a0:Eq (Zhm a0) <| (Zjo a0.1).bind fun e0=>Zlv fuel a0.1 a0.2.1 a0.2.2.1 a0.2.2.2.1 a0.2.2.2.2.1 a0.2.2.2.2.2.1 a0.2.2.2.2.2.2.1 a0.2.2.2.2.2.2.2.1 a0.2.2.2.2.2.2.2.2.1 e0.1 e0.2.1 e0.2.2.1 e0.2.2.2.1 e0.2.2.2.2.1 e0.2.2.2.2.2.1:=mkE
theorem Zu6 n x0 x1 x2 x3 x4 x5 x6 x7 x8 x9 x10 x11 x12 x13 x14:Eq (Zlv (n+1) x0 x1 x2 x3 x4 x5 x6 x7 x8 x9 x10 x11 x12 x13 x14) <| let k1:=Zdh n x0 x3 x4 x5 x6 x7 x8 x9 x10 x11 x12 x13 x14 false;bif x2>=0 then bif x2<20 then bif x1>=0 then Zdh n x0 x3 x4 x5 x6 x7 x8 x9 x10 x11 x12 x13 x14 (decide (x1<4)) else k1 else k1 else k1:=mkI
theorem Zu7 n x0 x1 x2 x3 x4 x5 x6 x7 x8 x9 x10 x11 x12 x13:Eq (Zdh (n+1) x0 x1 x2 x3 x4 x5 x6 x7 x8 x9 x10 x11 x12 x13) <| let k1:=Zdi n x0 x1 x2 x3 x4 x5 x6 x13 false;bif ofNat x1.length<=4000 then bif ofNat x2.length>=x7 then bif ofNat x2.length<=x8 then (Zc6 x9 4000).bind fun e0=>bif ofNat x3.length<=e0.1 then (Zc6 x10 60).bind fun e1=>bif ofNat x4.length<=e1.1 then (Zc6 x11 4000).bind fun e2=>bif ofNat x5.length<=e2.1 then (Zc6 x12 4000).bind fun e3=>Zdi n x0 x1 x2 x3 x4 x5 x6 x13 (decide (ofNat x6.length<=e3.1)) else k1 else k1 else k1 else k1 else k1 else k1:=mkI
theorem Zu8 n x0 x1 x2 x3 x4 x5 x6 x7 x8:Eq (Zdi (n+1) x0 x1 x2 x3 x4 x5 x6 x7 x8) <| let k1:=Zdj n x0 x2 x3 x4 x5 x6 true;bif !x7 then k1 else bif !x8 then k1 else (Zmj x1).bind fun e0=>bif !e0.1 then k1 else (Zju x3).bind fun e1=>Zdj n x0 x2 x3 x4 x5 x6 (e1.1 !=0):=mkI
theorem Zu9 n x0 x1 x2 x3 x4 x5:Eq (Zlw (n+1) x0 x1 x2 x3 x4 x5) <| Q9 n x0 x2 x3 x4 x5 true x1 (ofNat x1.length) 0:=mkI
theorem Zva n x0 x1 x2 x3 x4 x5 x6:Eq (Zdj (n+1) x0 x1 x2 x3 x4 x5 x6) <| bif x6 then some (8,()) else Zlw n x0 x1 x2 x3 x4 x5:=mkI
theorem Zjx n x0 x1 x2 x3 x4 x5 x6 x7 x8:Eq (Q9 (n+1) x0 x1 x2 x3 x4 x5 x6 x7 x8) <| bif x8<x7 then ix x6 x8 fun e0=>bif x5 then (Zjp e0.1).bind fun e1=>Q9 n x0 x1 x2 x3 x4 e1.1 x6 x7 (wrap .i64 (x8+1)) else Q9 n x0 x1 x2 x3 x4 false x6 x7 (wrap .i64 (x8+1)) else Zaa n x0 x1 x3 x4 x5 x2 (ofNat x2.length) 0:=mkI
theorem Zjy n x0 x1 x2 x3 x4 x5 x6 x7:Eq (Zaa (n+1) x0 x1 x2 x3 x4 x5 x6 x7) <| bif x7<x6 then ix x5 x7 fun e0=>bif x4 then (Zbh e0).bind fun e1=>Zaa n x0 x1 x2 x3 (e1.1==0) x5 x6 (wrap .i64 (x7+1)) else Zaa n x0 x1 x2 x3 false x5 x6 (wrap .i64 (x7+1)) else Zab n x0 x1 x3 x4 x2 (ofNat x2.length) 0:=mkI
theorem Zjz n x0 x1 x2 x3 x4 x5 x6:Eq (Zab (n+1) x0 x1 x2 x3 x4 x5 x6) <| bif x6<x5 then ix x4 x6 fun e0=>bif x3 then (Qy (3,0,0,0,0,e0)).bind fun e1=>Zab n x0 x1 x2 (e1.1==0) x4 x5 (wrap .i64 (x6+1)) else Zab n x0 x1 x2 false x4 x5 (wrap .i64 (x6+1)) else Zac n x0 x1 x3 x2 (ofNat x2.length) 0:=mkI
theorem Zj0 n x0 x1 x2 x3 x4 x5:Eq (Zac (n+1) x0 x1 x2 x3 x4 x5) <| bif x5<x4 then ix x3 x5 fun e0=>bif x2 then (Qy (4,e0.1,e0.2.1,e0.2.2.1,0,0,0,0,0,0,())).bind fun e1=>Zac n x0 x1 (e1.1==0) x3 x4 (wrap .i64 (x5+1)) else Zac n x0 x1 false x3 x4 (wrap .i64 (x5+1)) else X8 n x0 x2 x1 (ofNat x1.length) 0:=mkI
theorem Zj1 n x0 x1 x2 x3 x4:Eq (X8 (n+1) x0 x1 x2 x3 x4) <| bif x4<x3 then ix x2 x4 fun e0=>bif x1 then bif x0 !=4 then X8 n x0 true x2 x3 (wrap .i64 (x4+1)) else X8 n x0 (e0.2.2.2.2.2.2.2.1==0) x2 x3 (wrap .i64 (x4+1)) else X8 n x0 false x2 x3 (wrap .i64 (x4+1)) else bif !x1 then some (8,()) else Zjw n:=mkI
theorem Ztf n  : Eq (Zjw (n+1) ) <| some (0,()):=mkI
end
end Tg
