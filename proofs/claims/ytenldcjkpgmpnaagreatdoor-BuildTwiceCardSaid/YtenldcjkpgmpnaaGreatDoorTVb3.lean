import Derived.Test.YtenldcjkpgmpnaaGreatDoorTVT
/- Functions of the code, told plainly and checked by the kernel. -/
set_option linter.unusedVariables false
set_option linter.unusedSimpArgs false
set_option maxRecDepth 100000
namespace Tg
noncomputable section
open Go.Abs hiding fuel
open Go.Proofs.Tryz (prog)
open Int (ofNat toNat)
open Go.IntKind (wrap)
def Yo5:Tb:=[]
def F136:TFun:=⟨[],[],[.c di],[.c (.p db)],qc [qn 2,qb,qn 6],[],[],0⟩
def Zvf:=mkC Yo5 prog 136 F136
theorem Ygp:Zvf.ok prog 136:=mkO trivial
def Zbd (a0:Int):Option (Bool×Unit):=Zvf.fn (a0,())
theorem Zq3 a0:Eq (Zbd a0) <| bif a0>=(-1099511627776) then some (decide (a0<=1099511627776),()) else some (false,()):=mkE
def Yo6:Tb:=[(136,Zvf)]
def F137:TFun:=⟨[],[],[.c di],[.c (.p db)],qc [qn 2,qb,qn 6],[],[],0⟩
def Z10:=mkC Yo6 prog 137 F137
theorem Ym7:Z10.ok prog 137:=mkO ⟨Ygp,trivial⟩
def Zc7 (a0:Int):Option (Bool×Unit):=Z10.fn (a0,())
theorem Zq4 a0:Eq (Zc7 a0) <| (Zbd a0).bind fun e0=>bif e0.1 then some (true,()) else some (a0==9223372036854775807,()):=mkE
def Ygq:Tb:=[(136,Zvf),(137,Z10)]
def F94:TFun:=⟨[5,3],[(3,qc [qn 1,[.boxN 153 10 [.p (.int .u8),.p di,.p di,.p di,.p di,.p di,.p di,.p di,.p di,.p di]],qn 1,qb,[.boxN 153 10 [.p (.int .u8),.p di,.p di,.p di,.p di,.p di,.p di,.p di,.p di,.p di]],qn 54]),(5,qc [qn 1,[.boxN 153 10 [.p (.int .u8),.p di,.p di,.p di,.p di,.p di,.p di,.p di,.p di,.p di]],qn 1,qb,[.boxN 153 10 [.p (.int .u8),.p di,.p di,.p di,.p di,.p di,.p di,.p di,.p di,.p di]],qn 5,[.c (.p (.int .u8))],qb,qn 47])],[.a Vq3],[.c (.p di)],qc [qn 2,qi,qn 56],[],[],0⟩
def Zz5:=mkC Ygq prog 94 F94
theorem ok94:Zz5.ok prog 94:=mkO ⟨Ygp,Ym7,trivial⟩
def Q3 (a0:Vy4):Option (Int×Unit):=Zz5.fn (a0,())
def X8 (n:Nat)(x0 x1 x2 x3 x4 x5 x6 x7 x8 x9:Int)(x10:Bool)(x11 x12 x13 x14 x15 x16 x17 x18 x19 x20:Int):Option (Int×Unit):=itr Ygq prog 94 F94 n 3 (x0,x1,x2,x3,x4,x5,x6,x7,x8,x9,x10,x11,x12,x13,x14,x15,x16,x17,x18,x19,x20,())
def Zd3 (n:Nat)(x0 x1 x2 x3 x4 x5 x6 x7 x8 x9:Int)(x10:Bool)(x11 x12 x13 x14 x15 x16 x17 x18 x19 x20 x21:Int)(x22:Bool):Option (Int×Unit):=itr Ygq prog 94 F94 n 5 (x0,x1,x2,x3,x4,x5,x6,x7,x8,x9,x10,x11,x12,x13,x14,x15,x16,x17,x18,x19,x20,x21,x22,())
theorem Zsl a0:Eq (Q3 a0) <| bif a0.1==1 then Zd3 fuel a0.1 a0.2.1 a0.2.2.1 a0.2.2.2.1 a0.2.2.2.2.1 a0.2.2.2.2.2.1 a0.2.2.2.2.2.2.1 a0.2.2.2.2.2.2.2.1 a0.2.2.2.2.2.2.2.2.1 a0.2.2.2.2.2.2.2.2.2.1 false a0.1 0 0 0 0 0 0 0 0 0 a0.1 true else Zd3 fuel a0.1 a0.2.1 a0.2.2.1 a0.2.2.2.1 a0.2.2.2.2.1 a0.2.2.2.2.2.1 a0.2.2.2.2.2.2.1 a0.2.2.2.2.2.2.2.1 a0.2.2.2.2.2.2.2.2.1 a0.2.2.2.2.2.2.2.2.2.1 false a0.1 0 0 0 0 0 0 0 0 0 a0.1 (a0.1==4):=mkE
theorem Zq5 n x0 x1 x2 x3 x4 x5 x6 x7 x8 x9 x10 x11 x12 x13 x14 x15 x16 x17 x18 x19 x20:Eq (X8 (n+1) x0 x1 x2 x3 x4 x5 x6 x7 x8 x9 x10 x11 x12 x13 x14 x15 x16 x17 x18 x19 x20) <| bif !x10 then some (8,()) else bif !(x0==x11&&(x1==x12&&(x2==x13&&(x3==x14&&(x4==x15&&(x5==x16&&(x6==x17&&(x7==x18&&(x8==x19&&(x9==x20&&true)))))))))) then some (8,()) else some (0,()):=mkI
theorem Zq6 n x0 x1 x2 x3 x4 x5 x6 x7 x8 x9 x10 x11 x12 x13 x14 x15 x16 x17 x18 x19 x20 x21 x22:Eq (Zd3 (n+1) x0 x1 x2 x3 x4 x5 x6 x7 x8 x9 x10 x11 x12 x13 x14 x15 x16 x17 x18 x19 x20 x21 x22) <| bif x22 then (Zbd x2).bind fun e0=>X8 n x0 x1 x2 x3 x4 x5 x6 x7 x8 x9 e0.1 x11 x1 x2 x3 x15 x16 x17 x18 x19 x20 else bif x21==2 then (Zc7 x4).bind fun e0=>X8 n x0 x1 x2 x3 x4 x5 x6 x7 x8 x9 e0.1 x11 x12 x13 x14 x4 x16 x17 x18 x19 x20 else bif x21==3 then let k1:=X8 n x0 x1 x2 x3 x4 x5 x6 x7 x8 x9 false x11 x12 x13 x14 x15 x5 x6 x7 x8 x9;bif (-2199023255552)<=x6 then bif x6<x7 then X8 n x0 x1 x2 x3 x4 x5 x6 x7 x8 x9 (decide (x7<=2199023255552)) x11 x12 x13 x14 x15 x5 x6 x7 x8 x9 else k1 else k1 else X8 n x0 x1 x2 x3 x4 x5 x6 x7 x8 x9 x10 x11 x12 x13 x14 x15 x16 x17 x18 x19 x20:=mkI
def Ym8:Tb:=[(94,Zz5)]
def F52:TFun:=⟨[],[(6,qc [qn 23,[.c (.p (.sl Vq3))],qi,qi,qn 9])],[.a Vq12],[.c (.p di)],qc [qn 2,qi,qn 32],[],[],0⟩
def Ybx:=mkC Ym8 prog 52 F52
theorem ok52:Ybx.ok prog 52:=mkO ⟨ok94,trivial⟩
def X4 (a0:(Int×List Vy4×Unit)):Option (Int×Unit):=Ybx.fn (a0,())
def Zbu (n:Nat)(x0:(List Vy4))(x1 x2:Int):Option (Int×Unit):=itr Ym8 prog 52 F52 n 6 (x0,x1,x2,())
theorem Zsm a0:Eq (X4 a0) <| bif a0.1<1 then some (8,()) else bif a0.1>8 then some (8,()) else bif ofNat a0.2.1.length>a0.1 then some (8,()) else Zbu fuel a0.2.1 (ofNat a0.2.1.length) 0:=mkE
theorem Zhw n x0 x1 x2:Eq (Zbu (n+1) x0 x1 x2) <| bif x2<x1 then ix x0 x2 fun e0=>(Q3 e0).bind fun e1=>bif e1.1 !=0 then some (e1.1,()) else Zbu n x0 x1 (wrap .i64 (x2+1)) else some (0,()):=mkI
def Yo7:Tb:=[(137,Z10),(136,Zvf)]
def F105:TFun:=⟨[],[],[.a Vq7],[.a [.p (.int .u8),.p di,.p di,.p di,.p di,.p di,.p di,.p di,.p di,.p di],.c (.p di)],qc [qn 2,[.boxN 153 10 [.p (.int .u8),.p di,.p di,.p di,.p di,.p di,.p di,.p di,.p di,.p di]],qi,qn 30],[],[],0⟩
def Z11:=mkC Yo7 prog 105 F105
theorem Ym9:Z11.ok prog 105:=mkO ⟨Ym7,Ygp,trivial⟩
def Ziq (a0:Vy3):Option (Vy4×Int×Unit):=Z11.fn (a0,())
theorem Zpp a0:Eq (Ziq a0) <| let k1:Option (Vy4×Int×Unit):=some (((0,0,0,0,0,0,0,0,0,0,()),8,()));bif a0.1 then (Zc7 a0.2.1).bind fun e0=>bif !e0.1 then k1 else bif !(a0.2.2.1==0&&(a0.2.2.2.1==0&&(a0.2.2.2.2.1==0&&true))) then k1 else some (((2,0,0,0,a0.2.1,0,0,0,0,0,()),0,())) else bif a0.2.1 !=0 then k1 else (Zbd a0.2.2.2.1).bind fun e0=>bif !e0.1 then k1 else some (((1,a0.2.2.1,a0.2.2.2.1,a0.2.2.2.2.1,0,0,0,0,0,0,()),0,())):=mkE
def Yrv:Tb:=[(105,Z11)]
def F67:TFun:=⟨[],[],[.a Vq7],[.c (.p di)],qc [qn 2,qi,qn 8],[],[],0⟩
def Yby:=mkC Yrv prog 67 F67
theorem ok67:Yby.ok prog 67:=mkO ⟨Ym9,trivial⟩
def Zb3 (a0:Vy3):Option (Int×Unit):=Yby.fn (a0,())
theorem Zsn a0:Eq (Zb3 a0) <| (Ziq a0).bind fun e0=>some (e0.2.1,()):=mkE
def Yo8:Tb:=[]
def F138:TFun:=⟨[],[],[.c (.int .u8)],[.c (.p di),.c (.p di),.c (.p db),.c (.p db),.c (.p db),.c (.p db)],qc [qn 2,qi,qi,qb,qb,qb,qb,qn 15],[],[],0⟩
def Z8l:=mkC Yo8 prog 138 F138
theorem Yrw:Z8l.ok prog 138:=mkO trivial
def Zkw (a0:Int):Option (Int×Int×Bool×Bool×Bool×Bool×Unit):=Z8l.fn (a0,())
theorem Zw8 a0:Eq (Zkw a0) <| bif a0==1 then some (0,0,false,true,false,false,()) else bif a0==2 then some (1,1,false,false,false,false,()) else bif a0==3 then some (0,0,false,false,false,false,()) else bif a0==4 then some (1,4,true,false,false,false,()) else bif a0==5 then some (2,2,true,false,false,false,()) else bif a0==6 then some (0,0,false,false,true,false,()) else bif a0==7 then some (0,0,false,false,false,true,()) else some (1,0,false,false,false,false,()):=mkE
def Yo9:Tb:=[]
def F139:TFun:=⟨[],[],[.c db,.c di],[.c (.p di)],qc [qn 4,qi,qn 2],[],[],0⟩
def Z8m:=mkC Yo9 prog 139 F139
theorem Yrx:Z8m.ok prog 139:=mkO trivial
def Zd4 (a0:Bool)(a1:Int):Option (Int×Unit):=Z8m.fn (a0,a1,())
theorem Zsa a0 a1:Eq (Zd4 a0 a1) <| bif a0 then some (a1,()) else some (0,()):=mkE
def Ygr:Tb:=[(94,Zz5)]
def F140:TFun:=⟨[],[(3,qc [qn 5,[.c (.p (.sl Vq6))],qi,qi,qn 18])],[.c (.sl Vq6)],[.c (.p db)],qc [qn 2,qb,qn 23],[],[],0⟩
def Z12:=mkC Ygr prog 140 F140
theorem Yna:Z12.ok prog 140:=mkO ⟨ok94,trivial⟩
def Zir (a0:(List Vy1)):Option (Bool×Unit):=Z12.fn (a0,())
def Zec (n:Nat)(x0:(List Vy1))(x1 x2:Int):Option (Bool×Unit):=itr Ygr prog 140 F140 n 3 (x0,x1,x2,())
theorem Z13 a0:Eq (Zir a0) <| Zec fuel a0 (ofNat a0.length) 0:=mkE
theorem Zni n x0 x1 x2:Eq (Zec (n+1) x0 x1 x2) <| bif x2<x1 then ix x0 x2 fun e0=>bif e0.1<0 then some (false,()) else bif e0.1>=3 then some (false,()) else (Q3 e0.2).bind fun e1=>bif e1.1 !=0 then some (false,()) else Zec n x0 x1 (wrap .i64 (x2+1)) else some (true,()):=mkI
def Ypa:Tb:=[(94,Zz5)]
def F142:TFun:=⟨[],[],[.c di],[.c (.p db)],qc [qn 2,qb,qn 8],[],[],0⟩
def Z8n:=mkC Ypa prog 142 F142
theorem Yry:Z8n.ok prog 142:=mkO ⟨ok94,trivial⟩
def Zkx (a0:Int):Option (Bool×Unit):=Z8n.fn (a0,())
theorem Zw9 a0:Eq (Zkx a0) <| bif a0==(-9223372036854775808) then some (true,()) else (Q3 (2,0,0,0,a0,0,0,0,0,0,())).bind fun e0=>some (e0.1==0,()):=mkE
def Ypb:Tb:=[]
def F224:TFun:=⟨[],[],[.a [.int .i64,.int .i64,.int .i64,.int .i64]],[.c (.p di)],qc [qn 2,qi,qn 40],[],[],0⟩
def Z8o:=mkC Ypb prog 224 F224
theorem Yrz:Z8o.ok prog 224:=mkO trivial
def Zfh (a0:(Int×Int×Int×Int×Unit)):Option (Int×Unit):=Z8o.fn (a0,())
theorem Zvg a0:Eq (Zfh a0) <| let k1:Option (Int×Unit):=some (8,());bif a0.1==0 then bif !(a0.1==0&&(a0.2.1==0&&(a0.2.2.1==0&&(a0.2.2.2.1==0&&true)))) then k1 else some (0,()) else bif a0.1==1 then bif a0.2.1==a0.2.2.1 then bif !a0.2.1==a0.2.2.2.1 then k1 else some (0,()) else k1 else bif a0.1>1 then bif a0.1<=1073741824 then bif !decide (a0.2.2.1<=a0.2.2.2.1) then k1 else some (0,()) else k1 else k1:=mkE
def Ypc:Tb:=[(224,Z8o)]
def F189:TFun:=⟨[],[],[.a Vq1],[.c (.p db)],qc [qn 2,qb,qn 43],[],[],0⟩
def Z8p:=mkC Ypc prog 189 F189
theorem Yr0:Z8p.ok prog 189:=mkO ⟨Yrz,trivial⟩
def Zky (a0:Vy1):Option (Bool×Unit):=Z8p.fn (a0,())
theorem Zxa a0:Eq (Zky a0) <| let k1:=some (false,());bif a0.2.1<(-1100585369600) then k1 else bif a0.2.2.1<=a0.2.1 then k1 else bif a0.2.2.1>1100585369600 then k1 else (Zfh (a0.2.2.2.1,a0.2.2.2.2.1,a0.2.2.2.2.2.1,a0.2.2.2.2.2.2.1,())).bind fun e0=>bif e0.1==0 then (Zfh a0.2.2.2.2.2.2.2).bind fun e1=>bif e1.1==0 then some ((decide (wrap .i64 (a0.2.2.2.1+a0.2.2.2.2.2.2.2.1)>0),())) else k1 else k1:=mkE
def Ypd:Tb:=[]
def F263:TFun:=⟨[],[],[.c di],[.c (.p db)],qc [qn 2,qb,qn 3],[],[],0⟩
def Z8q:=mkC Ypd prog 263 F263
theorem Yr1:Z8q.ok prog 263:=mkO trivial
def Zd5 (a0:Int):Option (Bool×Unit):=Z8q.fn (a0,())
theorem Zof a0:Eq (Zd5 a0) <| some (a0 !=a0,()):=mkE
def Ype:Tb:=[(263,Z8q)]
def F226:TFun:=⟨[],[],[.c di,.c di],[.c (.p di)],qc [qn 4,qi,qn 15],[],[],0⟩
def Z8r:=mkC Ype prog 226 F226
theorem Yr2:Z8r.ok prog 226:=mkO ⟨Yr1,trivial⟩
def Qc (a0 a1:Int):Option (Int×Unit):=Z8r.fn (a0,a1,())
theorem Zkz a0 a1:Eq (Qc a0 a1) <| (Zd5 a0).bind fun e0=>(Zd5 a1).bind fun e1=>bif e0.1 then bif e1.1 then some (0,()) else some ((-1),()) else bif e1.1 then some (1,()) else bif a0<a1 then some ((-1),()) else bif a0>a1 then some (1,()) else some (0,()):=mkE
def Ygs:Tb:=[]
def F225:TFun:=⟨[],[(4,qc [qn 3,qi,qn 2,[.c (.p (.sl Vq11))],qi,qi,qn 9])],[.c (.sl Vq11)],[.c (.p di)],qc [qn 2,qi,qn 15],[],[],0⟩
def Z8s:=mkC Ygs prog 225 F225
theorem Yr3:Z8s.ok prog 225:=mkO trivial
def Zk0 (a0:Vy7):Option (Int×Unit):=Z8s.fn (a0,())
def Zc8 (n:Nat)(x0:Int)(x1:Vy7)(x2 x3:Int):Option (Int×Unit):=itr Ygs prog 225 F225 n 4 (x0,x1,x2,x3,())
theorem Zxb a0:Eq (Zk0 a0) <| Zc8 fuel 0 a0 (ofNat a0.length) 0:=mkE
theorem Zvh n x0 x1 x2 x3:Eq (Zc8 (n+1) x0 x1 x2 x3) <| bif x3<x2 then ix x1 x3 fun e0=>bif e0.1 !=x0 then some (e0.1,()) else Zc8 n x0 x1 x2 (wrap .i64 (x3+1)) else some (x0,()):=mkI
def Ypf:Tb:=[(226,Z8r),(225,Z8s)]
def F190:TFun:=⟨[],[],[.a Vq1,.a Vq1],[.c (.p di)],qc [qn 4,qi,qn 21],[],[],0⟩
def Z8t:=mkC Ypf prog 190 F190
theorem Yr4:Z8t.ok prog 190:=mkO ⟨Yr2,Yr3,trivial⟩
def Zk1 (a0 a1:Vy1):Option (Int×Unit):=Z8t.fn (a0,a1,())
theorem Zxc a0 a1:Eq (Zk1 a0 a1) <| (Qc a0.2.2.1 a1.2.2.1).bind fun e0=>(Qc a0.2.1 a1.2.1).bind fun e1=>(Qc a0.1 a1.1).bind fun e2=>(Zk0 [(e0.1,()),(e1.1,()),(e2.1,())]).bind fun e3=>some (e3.1,()):=mkE
def Ygt:Tb:=[(189,Z8p),(190,Z8t)]
def F141:TFun:=⟨[],[(6,qc [[.c (.p (.sl Vq1))],qn 7,[.c (.p (.sl Vq1))],qi,qi,qn 22])],[.c (.sl Vq1)],[.c (.p di)],qc [qn 2,qi,qn 30],[],[],0⟩
def Z8u:=mkC Ygt prog 141 F141
theorem Yr5:Z8u.ok prog 141:=mkO ⟨Yr0,Yr4,trivial⟩
def Zk2 (a0:(List Vy1)):Option (Int×Unit):=Z8u.fn (a0,())
def Zc9 (n:Nat)(x0 x1:(List Vy1))(x2 x3:Int):Option (Int×Unit):=itr Ygt prog 141 F141 n 6 (x0,x1,x2,x3,())
theorem Zxd a0:Eq (Zk2 a0) <| bif ofNat a0.length>4000 then some (4,()) else Zc9 fuel a0 a0 (ofNat a0.length) 0:=mkE
theorem Zk3 n x0 x1 x2 x3:Eq (Zc9 (n+1) x0 x1 x2 x3) <| bif x3<x2 then ix x1 x3 fun e0=>(Zky e0).bind fun e1=>bif !e1.1 then some (8,()) else let k1:=Zc9 n x0 x1 x2 (wrap .i64 (x3+1));bif x3>0 then ix x0 (wrap .i64 (x3 - 1)) fun e2=>(Zk1 e2 e0).bind fun e3=>bif e3.1>=0 then some (8,()) else k1 else k1 else some (0,()):=mkI
def Zjp:Tb:=[(138,Z8l),(139,Z8m),(140,Z12),(141,Z8u),(142,Z8n),(67,Yby),(94,Zz5)]
def F95:TFun:=⟨[1,3,4,5,6,13,21,29,37,45,50],[(1,qc [qn 1,[.boxN 61 9 [.p (.int .u8),.p di,.p di,.p (.sl Vq6),.p (.sl Vq11),.p (.sl Vq1),.p (.sl Vq7),.p (.sl Vq4),.p (.sl Vq8)]],qn 1,qi,qi,qb,qb,qb,qb,qn 193]),(3,qc [qn 1,[.boxN 61 9 [.p (.int .u8),.any,.any,.p (.sl Vq6),.p (.sl Vq11),.p (.sl Vq1),.p (.sl Vq7),.p (.sl Vq4),.p (.sl Vq8)]],qn 1,qi,qi,qb,qb,qb,qb,qb,qn 192]),(4,qc [qn 1,[.boxN 61 9 [.p (.int .u8),.any,.any,.p (.sl Vq6),.p (.sl Vq11),.p (.sl Vq1),.p (.sl Vq7),.p (.sl Vq4),.p (.sl Vq8)]],qn 7,qb,qb,qn 191]),(5,qc [qn 1,[.boxN 61 9 [.p (.int .u8),.any,.any,.any,.p (.sl Vq11),.p (.sl Vq1),.p (.sl Vq7),.p (.sl Vq4),.p (.sl Vq8)]],qn 200]),(6,qc [qn 1,[.boxN 61 9 [.p (.int .u8),.any,.any,.any,.p (.sl Vq11),.p (.sl Vq1),.p (.sl Vq7),.p (.sl Vq4),.p (.sl Vq8)]],qn 118,qb,qn 81]),(13,qc [qn 1,[.boxN 61 9 [.p (.int .u8),.any,.any,.any,.any,.p (.sl Vq1),.p (.sl Vq7),.p (.sl Vq4),.p (.sl Vq8)]],qn 9,qb,qn 110,[.c (.p (.sl Vq11))],qi,qi,qn 77]),(21,qc [qn 1,[.boxN 61 9 [.p (.int .u8),.any,.any,.any,.any,.p (.sl Vq1),.any,.p (.sl Vq4),.p (.sl Vq8)]],qn 9,qb,qn 123,[.c (.p (.sl Vq7))],qi,qi,qn 64]),(29,qc [qn 1,[.boxN 61 9 [.p (.int .u8),.any,.any,.any,.any,.p (.sl Vq1),.any,.any,.p (.sl Vq8)]],qn 9,qb,qn 137,[.c (.p (.sl Vq4))],qi,qi,qn 50]),(37,qc [qn 1,[.boxN 61 9 [.p (.int .u8),.any,.any,.any,.any,.p (.sl Vq1),.any,.any,.any]],qn 9,qb,qn 152,[.c (.p (.sl Vq8))],qi,qi,qn 35]),(45,qc [qn 1,[.boxN 61 9 [.p (.int .u8),.any,.any,.any,.any,.any,.any,.any,.any]],qn 9,qb,qn 167,[.c (.p (.sl Vq1))],qi,qi,qn 20]),(50,qn 202)],[.a Vq2],[.c (.p di)],qc [qn 2,qi,qn 199],[],[],0⟩
def Z5w:=mkC Zjp prog 95 F95
theorem ok95:Z5w.ok prog 95:=mkO ⟨Yrw,Yrx,Yna,Yr5,Yry,ok67,ok94,trivial⟩
def Zar (a0:Vy6):Option (Int×Unit):=Z5w.fn (a0,())
def Znj (n:Nat)(x0 x1 x2:Int)(x3:(List Vy1))(x4:Vy7)(x5:(List Vy1))(x6:(List Vy3))(x7:(List Vy2))(x8:Vy5)(x9 x10:Int)(x11 x12 x13 x14:Bool):Option (Int×Unit):=itr Zjp prog 95 F95 n 1 (x0,x1,x2,x3,x4,x5,x6,x7,x8,x9,x10,x11,x12,x13,x14,())
def Zed (n:Nat)(x0:Int)(x1:(List Vy1))(x2:Vy7)(x3:(List Vy1))(x4:(List Vy3))(x5:(List Vy2))(x6:Vy5)(x7 x8:Int)(x9 x10 x11 x12 x13:Bool):Option (Int×Unit):=itr Zjp prog 95 F95 n 3 (x0,x1,x2,x3,x4,x5,x6,x7,x8,x9,x10,x11,x12,x13,())
def Zee (n:Nat)(x0:Int)(x1:(List Vy1))(x2:Vy7)(x3:(List Vy1))(x4:(List Vy3))(x5:(List Vy2))(x6:Vy5)(x7 x8:Bool):Option (Int×Unit):=itr Zjp prog 95 F95 n 4 (x0,x1,x2,x3,x4,x5,x6,x7,x8,())
def Znk (n:Nat)(x0:Int)(x1:Vy7)(x2:(List Vy1))(x3:(List Vy3))(x4:(List Vy2))(x5:Vy5):Option (Int×Unit):=itr Zjp prog 95 F95 n 5 (x0,x1,x2,x3,x4,x5,())
def Zef (n:Nat)(x0:Int)(x1:Vy7)(x2:(List Vy1))(x3:(List Vy3))(x4:(List Vy2))(x5:Vy5)(x6:Bool):Option (Int×Unit):=itr Zjp prog 95 F95 n 6 (x0,x1,x2,x3,x4,x5,x6,())
def Zae (n:Nat)(x0:Int)(x1:(List Vy1))(x2:(List Vy3))(x3:(List Vy2))(x4:Vy5)(x5:Bool)(x6:Vy7)(x7 x8:Int):Option (Int×Unit):=itr Zjp prog 95 F95 n 13 (x0,x1,x2,x3,x4,x5,x6,x7,x8,())
def Zaf (n:Nat)(x0:Int)(x1:(List Vy1))(x2:(List Vy2))(x3:Vy5)(x4:Bool)(x5:(List Vy3))(x6 x7:Int):Option (Int×Unit):=itr Zjp prog 95 F95 n 21 (x0,x1,x2,x3,x4,x5,x6,x7,())
def Zag (n:Nat)(x0:Int)(x1:(List Vy1))(x2:Vy5)(x3:Bool)(x4:(List Vy2))(x5 x6:Int):Option (Int×Unit):=itr Zjp prog 95 F95 n 29 (x0,x1,x2,x3,x4,x5,x6,())
def Zah (n:Nat)(x0:Int)(x1:(List Vy1))(x2:Bool)(x3:Vy5)(x4 x5:Int):Option (Int×Unit):=itr Zjp prog 95 F95 n 37 (x0,x1,x2,x3,x4,x5,())
def Qd (n:Nat)(x0:Int)(x1:Bool)(x2:(List Vy1))(x3 x4:Int):Option (Int×Unit):=itr Zjp prog 95 F95 n 45 (x0,x1,x2,x3,x4,())
def Zk4 (n:Nat):Option (Int×Unit):=itr Zjp prog 95 F95 n 50 ()
theorem Z14 a0:Eq (Zar a0) <| (Zkw a0.1).bind fun e0=>Znj fuel a0.1 a0.2.1 a0.2.2.1 a0.2.2.2.1 a0.2.2.2.2.1 a0.2.2.2.2.2.1 a0.2.2.2.2.2.2.1 a0.2.2.2.2.2.2.2.1 a0.2.2.2.2.2.2.2.2.1 e0.1 e0.2.1 e0.2.2.1 e0.2.2.2.1 e0.2.2.2.2.1 e0.2.2.2.2.2.1:=mkE
theorem Zxe n x0 x1 x2 x3 x4 x5 x6 x7 x8 x9 x10 x11 x12 x13 x14:Eq (Znj (n+1) x0 x1 x2 x3 x4 x5 x6 x7 x8 x9 x10 x11 x12 x13 x14) <| let k1:=Zed n x0 x3 x4 x5 x6 x7 x8 x9 x10 x11 x12 x13 x14 false;bif x2>=0 then bif x2<20 then bif x1>=0 then Zed n x0 x3 x4 x5 x6 x7 x8 x9 x10 x11 x12 x13 x14 (decide (x1<4)) else k1 else k1 else k1:=mkI
theorem Zxf n x0 x1 x2 x3 x4 x5 x6 x7 x8 x9 x10 x11 x12 x13:Eq (Zed (n+1) x0 x1 x2 x3 x4 x5 x6 x7 x8 x9 x10 x11 x12 x13) <| let k1:=Zee n x0 x1 x2 x3 x4 x5 x6 x13 false;bif ofNat x1.length<=4000 then bif ofNat x2.length>=x7 then bif ofNat x2.length<=x8 then (Zd4 x9 4000).bind fun e0=>bif ofNat x3.length<=e0.1 then (Zd4 x10 60).bind fun e1=>bif ofNat x4.length<=e1.1 then (Zd4 x11 4000).bind fun e2=>bif ofNat x5.length<=e2.1 then (Zd4 x12 4000).bind fun e3=>Zee n x0 x1 x2 x3 x4 x5 x6 x13 (decide (ofNat x6.length<=e3.1)) else k1 else k1 else k1 else k1 else k1 else k1:=mkI
theorem Zxg n x0 x1 x2 x3 x4 x5 x6 x7 x8:Eq (Zee (n+1) x0 x1 x2 x3 x4 x5 x6 x7 x8) <| let k1:=Zef n x0 x2 x3 x4 x5 x6 true;bif !x7 then k1 else bif !x8 then k1 else (Zir x1).bind fun e0=>bif !e0.1 then k1 else (Zk2 x3).bind fun e1=>Zef n x0 x2 x3 x4 x5 x6 (e1.1 !=0):=mkI
theorem Zxh n x0 x1 x2 x3 x4 x5:Eq (Znk (n+1) x0 x1 x2 x3 x4 x5) <| Zae n x0 x2 x3 x4 x5 true x1 (ofNat x1.length) 0:=mkI
theorem Zxi n x0 x1 x2 x3 x4 x5 x6:Eq (Zef (n+1) x0 x1 x2 x3 x4 x5 x6) <| bif x6 then some (8,()) else Znk n x0 x1 x2 x3 x4 x5:=mkI
theorem Zk5 n x0 x1 x2 x3 x4 x5 x6 x7 x8:Eq (Zae (n+1) x0 x1 x2 x3 x4 x5 x6 x7 x8) <| bif x8<x7 then ix x6 x8 fun e0=>bif x5 then (Zkx e0.1).bind fun e1=>Zae n x0 x1 x2 x3 x4 e1.1 x6 x7 (wrap .i64 (x8+1)) else Zae n x0 x1 x2 x3 x4 false x6 x7 (wrap .i64 (x8+1)) else Zaf n x0 x1 x3 x4 x5 x2 (ofNat x2.length) 0:=mkI
theorem Zk6 n x0 x1 x2 x3 x4 x5 x6 x7:Eq (Zaf (n+1) x0 x1 x2 x3 x4 x5 x6 x7) <| bif x7<x6 then ix x5 x7 fun e0=>bif x4 then (Zb3 e0).bind fun e1=>Zaf n x0 x1 x2 x3 (e1.1==0) x5 x6 (wrap .i64 (x7+1)) else Zaf n x0 x1 x2 x3 false x5 x6 (wrap .i64 (x7+1)) else Zag n x0 x1 x3 x4 x2 (ofNat x2.length) 0:=mkI
theorem Zk7 n x0 x1 x2 x3 x4 x5 x6:Eq (Zag (n+1) x0 x1 x2 x3 x4 x5 x6) <| bif x6<x5 then ix x4 x6 fun e0=>bif x3 then (Q3 (3,0,0,0,0,e0)).bind fun e1=>Zag n x0 x1 x2 (e1.1==0) x4 x5 (wrap .i64 (x6+1)) else Zag n x0 x1 x2 false x4 x5 (wrap .i64 (x6+1)) else Zah n x0 x1 x3 x2 (ofNat x2.length) 0:=mkI
theorem Zk8 n x0 x1 x2 x3 x4 x5:Eq (Zah (n+1) x0 x1 x2 x3 x4 x5) <| bif x5<x4 then ix x3 x5 fun e0=>bif x2 then (Q3 (4,e0.1,e0.2.1,e0.2.2.1,0,0,0,0,0,0,())).bind fun e1=>Zah n x0 x1 (e1.1==0) x3 x4 (wrap .i64 (x5+1)) else Zah n x0 x1 false x3 x4 (wrap .i64 (x5+1)) else Qd n x0 x2 x1 (ofNat x1.length) 0:=mkI
theorem Zk9 n x0 x1 x2 x3 x4:Eq (Qd (n+1) x0 x1 x2 x3 x4) <| bif x4<x3 then ix x2 x4 fun e0=>bif x1 then bif x0 !=4 then Qd n x0 true x2 x3 (wrap .i64 (x4+1)) else Qd n x0 (e0.2.2.2.2.2.2.2.1==0) x2 x3 (wrap .i64 (x4+1)) else Qd n x0 false x2 x3 (wrap .i64 (x4+1)) else bif !x1 then some (8,()) else Zk4 n:=mkI
theorem Zvi n  : Eq (Zk4 (n+1) ) <| some (0,()):=mkI
end
end Tg
