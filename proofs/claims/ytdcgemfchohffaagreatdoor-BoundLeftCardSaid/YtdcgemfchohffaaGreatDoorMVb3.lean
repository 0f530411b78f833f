import Derived.Test.YtdcgemfchohffaaGreatDoorMVT
/- Functions of the code, told plainly and checked by the kernel. -/
set_option linter.unusedVariables false
set_option linter.unusedSimpArgs false
set_option maxRecDepth 100000
namespace Tg
noncomputable section
open Go.Abs hiding fuel
open Go.Proofs.Tryz (prog)
open Int (ofNat toNat)
open Go.IntKind (wrap)
def Yln:Tb:=[]
def F86:TFun:=⟨[],[],[.c di],[.c (.p db)],qc [qn 2,qb,qn 6],[],[],0⟩
def Z2x:=mkC Yln prog 86 F86
theorem ok86:Z2x.ok prog 86:=mkO trivial
def Za6 (a0:Int):Option (Bool×Unit):=Z2x.fn (a0,())
theorem Zpi a0:Eq (Za6 a0) <| bif a0≥(-1099511627776) then some (decide (a0≤1099511627776),()) else some (false,()):=mkE
def Ylo:Tb:=[(86,Z2x)]
def F87:TFun:=⟨[],[],[.c di],[.c (.p db)],qc [qn 2,qb,qn 6],[],[],0⟩
def Z7y:=mkC Ylo prog 87 F87
theorem ok87:Z7y.ok prog 87:=mkO ⟨ok86,trivial⟩
def Zcl (a0:Int):Option (Bool×Unit):=Z7y.fn (a0,())
theorem Zpj a0:Eq (Zcl a0) <| (Za6 a0).bind fun e0=>bif e0.1 then some (true,()) else some (a0==9223372036854775807,()):=mkE
def Ycj:Tb:=[(86,Z2x),(87,Z7y)]
def F44:TFun:=⟨[5,3],[(3,qc [qn 1,[.boxN 79 10 [.p (.int .u8),.p di,.p di,.p di,.p di,.p di,.p di,.p di,.p di,.p di]],qn 1,qb,[.boxN 79 10 [.p (.int .u8),.p di,.p di,.p di,.p di,.p di,.p di,.p di,.p di,.p di]],qn 54]),(5,qc [qn 1,[.boxN 79 10 [.p (.int .u8),.p di,.p di,.p di,.p di,.p di,.p di,.p di,.p di,.p di]],qn 1,qb,[.boxN 79 10 [.p (.int .u8),.p di,.p di,.p di,.p di,.p di,.p di,.p di,.p di,.p di]],qn 5,[.c (.p (.int .u8))],qb,qn 47])],[.a Vq4],[.c (.p di)],qc [qn 2,qi,qn 56],[],[],0⟩
def Zyc:=mkC Ycj prog 44 F44
theorem ok44:Zyc.ok prog 44:=mkO ⟨ok86,ok87,trivial⟩
def Qs (a0:Vy4):Option (Int×Unit):=Zyc.fn (a0,())
def Xv (n:Nat)(x0 x1 x2 x3 x4 x5 x6 x7 x8 x9:Int)(x10:Bool)(x11 x12 x13 x14 x15 x16 x17 x18 x19 x20:Int):Option (Int×Unit):=itr Ycj prog 44 F44 n 3 (x0,x1,x2,x3,x4,x5,x6,x7,x8,x9,x10,x11,x12,x13,x14,x15,x16,x17,x18,x19,x20,())
def Zdd (n:Nat)(x0 x1 x2 x3 x4 x5 x6 x7 x8 x9:Int)(x10:Bool)(x11 x12 x13 x14 x15 x16 x17 x18 x19 x20 x21:Int)(x22:Bool):Option (Int×Unit):=itr Ycj prog 44 F44 n 5 (x0,x1,x2,x3,x4,x5,x6,x7,x8,x9,x10,x11,x12,x13,x14,x15,x16,x17,x18,x19,x20,x21,x22,())
theorem Zqy a0:Eq (Qs a0) <| bif a0.1==1 then Zdd fuel a0.1 a0.2.1 a0.2.2.1 a0.2.2.2.1 a0.2.2.2.2.1 a0.2.2.2.2.2.1 a0.2.2.2.2.2.2.1 a0.2.2.2.2.2.2.2.1 a0.2.2.2.2.2.2.2.2.1 a0.2.2.2.2.2.2.2.2.2.1 false a0.1 0 0 0 0 0 0 0 0 0 a0.1 true else Zdd fuel a0.1 a0.2.1 a0.2.2.1 a0.2.2.2.1 a0.2.2.2.2.1 a0.2.2.2.2.2.1 a0.2.2.2.2.2.2.1 a0.2.2.2.2.2.2.2.1 a0.2.2.2.2.2.2.2.2.1 a0.2.2.2.2.2.2.2.2.2.1 false a0.1 0 0 0 0 0 0 0 0 0 a0.1 (a0.1==4):=mkE
theorem Zpk n x0 x1 x2 x3 x4 x5 x6 x7 x8 x9 x10 x11 x12 x13 x14 x15 x16 x17 x18 x19 x20:Eq (Xv (n+1) x0 x1 x2 x3 x4 x5 x6 x7 x8 x9 x10 x11 x12 x13 x14 x15 x16 x17 x18 x19 x20) <| bif !x10 then some (8,()) else bif !(x0==x11&&(x1==x12&&(x2==x13&&(x3==x14&&(x4==x15&&(x5==x16&&(x6==x17&&(x7==x18&&(x8==x19&&(x9==x20&&true)))))))))) then some (8,()) else some (0,()):=mkI
theorem Zpl n x0 x1 x2 x3 x4 x5 x6 x7 x8 x9 x10 x11 x12 x13 x14 x15 x16 x17 x18 x19 x20 x21 x22:Eq (Zdd (n+1) x0 x1 x2 x3 x4 x5 x6 x7 x8 x9 x10 x11 x12 x13 x14 x15 x16 x17 x18 x19 x20 x21 x22) <| bif x22 then (Za6 x2).bind fun e0=>Xv n x0 x1 x2 x3 x4 x5 x6 x7 x8 x9 e0.1 x11 x1 x2 x3 x15 x16 x17 x18 x19 x20 else bif x21==2 then (Zcl x4).bind fun e0=>Xv n x0 x1 x2 x3 x4 x5 x6 x7 x8 x9 e0.1 x11 x12 x13 x14 x4 x16 x17 x18 x19 x20 else bif x21==3 then let k1:=Xv n x0 x1 x2 x3 x4 x5 x6 x7 x8 x9 false x11 x12 x13 x14 x15 x5 x6 x7 x8 x9;bif (-2199023255552)≤x6 then bif x6<x7 then Xv n x0 x1 x2 x3 x4 x5 x6 x7 x8 x9 (decide (x7≤2199023255552)) x11 x12 x13 x14 x15 x5 x6 x7 x8 x9 else k1 else k1 else Xv n x0 x1 x2 x3 x4 x5 x6 x7 x8 x9 x10 x11 x12 x13 x14 x15 x16 x17 x18 x19 x20:=mkI
def Yh5:Tb:=[(44,Zyc)]
def F28:TFun:=⟨[],[(6,qc [qn 23,[.c (.p (.sl Vq4))],qi,qi,qn 9])],[.a [.int .i64,.sl Vq4]],[.c (.p di)],qc [qn 2,qi,qn 32],[],[],0⟩
def Yck:=mkC Yh5 prog 28 F28
theorem ok28:Yck.ok prog 28:=mkO ⟨ok44,trivial⟩
def Zgl (a0:(Int×List Vy4×Unit)):Option (Int×Unit):=Yck.fn (a0,())
def Zbf (n:Nat)(x0:(List Vy4))(x1 x2:Int):Option (Int×Unit):=itr Yh5 prog 28 F28 n 6 (x0,x1,x2,())
theorem Zqz a0:Eq (Zgl a0) <| bif a0.1<1 then some (8,()) else bif a0.1>8 then some (8,()) else bif ofNat a0.2.1.length>a0.1 then some (8,()) else Zbf fuel a0.2.1 (ofNat a0.2.1.length) 0:=mkE
theorem Zgx n x0 x1 x2:Eq (Zbf (n+1) x0 x1 x2) <| bif x2<x1 then ix x0 x2 fun e0=>(Qs e0).bind fun e1=>bif e1.1 !=0 then some (e1.1,()) else Zbf n x0 x1 (wrap .i64 (x2+1)) else some (0,()):=mkI
def Yju:Tb:=[(87,Z7y),(86,Z2x)]
def F126:TFun:=⟨[],[],[.a Vq7],[.a [.p (.int .u8),.p di,.p di,.p di,.p di,.p di,.p di,.p di,.p di,.p di],.c (.p di)],qc [qn 2,[.boxN 79 10 [.p (.int .u8),.p di,.p di,.p di,.p di,.p di,.p di,.p di,.p di,.p di]],qi,qn 30],[],[],0⟩
def Z48:=mkC Yju prog 126 F126
theorem Ylp:Z48.ok prog 126:=mkO ⟨ok87,ok86,trivial⟩
def Zty (a0:Vy5):Option (Vy4×Int×Unit):=Z48.fn (a0,())
theorem Zz6 a0:Eq (Zty a0) <| let k1:Option (Vy4×Int×Unit):=some (((0,0,0,0,0,0,0,0,0,0,()),8,()));bif a0.1 then (Zcl a0.2.1).bind fun e0=>bif !e0.1 then k1 else bif !(a0.2.2.1==0&&(a0.2.2.2.1==0&&(a0.2.2.2.2.1==0&&true))) then k1 else some (((2,0,0,0,a0.2.1,0,0,0,0,0,()),0,())) else bif a0.2.1 !=0 then k1 else (Za6 a0.2.2.2.1).bind fun e0=>bif !e0.1 then k1 else some (((1,a0.2.2.1,a0.2.2.2.1,a0.2.2.2.2.1,0,0,0,0,0,0,()),0,())):=mkE
def Ylq:Tb:=[(126,Z48)]
def F93:TFun:=⟨[],[],[.a Vq7],[.c (.p di)],qc [qn 2,qi,qn 8],[],[],0⟩
def Ycl:=mkC Ylq prog 93 F93
theorem ok93:Ycl.ok prog 93:=mkO ⟨Ylp,trivial⟩
def Zgm (a0:Vy5):Option (Int×Unit):=Ycl.fn (a0,())
theorem Zq0 a0:Eq (Zgm a0) <| (Zty a0).bind fun e0=>some (e0.2.1,()):=mkE
def Ylr:Tb:=[]
def F88:TFun:=⟨[],[],[.c (.int .u8)],[.c (.p di),.c (.p di),.c (.p db),.c (.p db),.c (.p db),.c (.p db)],qc [qn 2,qi,qi,qb,qb,qb,qb,qn 15],[],[],0⟩
def Ycm:=mkC Ylr prog 88 F88
theorem ok88:Ycm.ok prog 88:=mkO trivial
def Zjw (a0:Int):Option (Int×Int×Bool×Bool×Bool×Bool×Unit):=Ycm.fn (a0,())
theorem Zvm a0:Eq (Zjw a0) <| bif a0==1 then some (0,0,false,true,false,false,()) else bif a0==2 then some (1,1,false,false,false,false,()) else bif a0==3 then some (0,0,false,false,false,false,()) else bif a0==4 then some (1,4,true,false,false,false,()) else bif a0==5 then some (2,2,true,false,false,false,()) else bif a0==6 then some (0,0,false,false,true,false,()) else bif a0==7 then some (0,0,false,false,false,true,()) else some (1,0,false,false,false,false,()):=mkE
def Yls:Tb:=[]
def F89:TFun:=⟨[],[],[.c db,.c di],[.c (.p di)],qc [qn 4,qi,qn 2],[],[],0⟩
def Ycn:=mkC Yls prog 89 F89
theorem ok89:Ycn.ok prog 89:=mkO trivial
def Zde (a0:Bool)(a1:Int):Option (Int×Unit):=Ycn.fn (a0,a1,())
theorem Zqn a0 a1:Eq (Zde a0 a1) <| bif a0 then some (a1,()) else some (0,()):=mkE
def Yh6:Tb:=[(44,Zyc)]
def F90:TFun:=⟨[],[(3,qc [qn 5,[.c (.p (.sl Vq6))],qi,qi,qn 18])],[.c (.sl Vq6)],[.c (.p db)],qc [qn 2,qb,qn 23],[],[],0⟩
def Yco:=mkC Yh6 prog 90 F90
theorem ok90:Yco.ok prog 90:=mkO ⟨ok44,trivial⟩
def Zm6 (a0:(List Vy1)):Option (Bool×Unit):=Yco.fn (a0,())
def Zdk (n:Nat)(x0:(List Vy1))(x1 x2:Int):Option (Bool×Unit):=itr Yh6 prog 90 F90 n 3 (x0,x1,x2,())
theorem Zz7 a0:Eq (Zm6 a0) <| Zdk fuel a0 (ofNat a0.length) 0:=mkE
theorem Zmh n x0 x1 x2:Eq (Zdk (n+1) x0 x1 x2) <| bif x2<x1 then ix x0 x2 fun e0=>bif e0.1<0 then some (false,()) else bif e0.1≥3 then some (false,()) else (Qs e0.2).bind fun e1=>bif e1.1 !=0 then some (false,()) else Zdk n x0 x1 (wrap .i64 (x2+1)) else some (true,()):=mkI
def Ylt:Tb:=[(44,Zyc)]
def F92:TFun:=⟨[],[],[.c di],[.c (.p db)],qc [qn 2,qb,qn 8],[],[],0⟩
def Ycp:=mkC Ylt prog 92 F92
theorem ok92:Ycp.ok prog 92:=mkO ⟨ok44,trivial⟩
def Zjx (a0:Int):Option (Bool×Unit):=Ycp.fn (a0,())
theorem Zvn a0:Eq (Zjx a0) <| bif a0==(-9223372036854775808) then some (true,()) else (Qs (2,0,0,0,a0,0,0,0,0,0,())).bind fun e0=>some (e0.1==0,()):=mkE
def Yjv:Tb:=[]
def F148:TFun:=⟨[],[],[.a [.int .i64,.int .i64,.int .i64,.int .i64]],[.c (.p di)],qc [qn 2,qi,qn 40],[],[],0⟩
def Z49:=mkC Yjv prog 148 F148
theorem Ylu:Z49.ok prog 148:=mkO trivial
def Zel (a0:(Int×Int×Int×Int×Unit)):Option (Int×Unit):=Z49.fn (a0,())
theorem Ztz a0:Eq (Zel a0) <| let k1:Option (Int×Unit):=some (8,());bif a0.1==0 then bif !(a0.1==0&&(a0.2.1==0&&(a0.2.2.1==0&&(a0.2.2.2.1==0&&true)))) then k1 else some (0,()) else bif a0.1==1 then bif a0.2.1==a0.2.2.1 then bif !a0.2.1==a0.2.2.2.1 then k1 else some (0,()) else k1 else bif a0.1>1 then bif a0.1≤1073741824 then bif !decide (a0.2.2.1≤a0.2.2.2.1) then k1 else some (0,()) else k1 else k1:=mkE
def Yjw:Tb:=[(148,Z49)]
def F124:TFun:=⟨[],[],[.a Vq1],[.c (.p db)],qc [qn 2,qb,qn 43],[],[],0⟩
def Z5a:=mkC Yjw prog 124 F124
theorem Ylv:Z5a.ok prog 124:=mkO ⟨Ylu,trivial⟩
def Zjy (a0:Vy1):Option (Bool×Unit):=Z5a.fn (a0,())
theorem Zvo a0:Eq (Zjy a0) <| let k1:=some (false,());bif a0.2.1<(-1100585369600) then k1 else bif a0.2.2.1≤a0.2.1 then k1 else bif a0.2.2.1>1100585369600 then k1 else (Zel (a0.2.2.2.1,a0.2.2.2.2.1,a0.2.2.2.2.2.1,a0.2.2.2.2.2.2.1,())).bind fun e0=>bif e0.1==0 then (Zel a0.2.2.2.2.2.2.2).bind fun e1=>bif e1.1==0 then some ((decide (wrap .i64 (a0.2.2.2.1+a0.2.2.2.2.2.2.2.1)>0),())) else k1 else k1:=mkE
def Yjx:Tb:=[]
def F187:TFun:=⟨[],[],[.c di],[.c (.p db)],qc [qn 2,qb,qn 3],[],[],0⟩
def Z5b:=mkC Yjx prog 187 F187
theorem Ylw:Z5b.ok prog 187:=mkO trivial
def Zdf (a0:Int):Option (Bool×Unit):=Z5b.fn (a0,())
theorem Zm7 a0:Eq (Zdf a0) <| some (a0 !=a0,()):=mkE
def Yjy:Tb:=[(187,Z5b)]
def F150:TFun:=⟨[],[],[.c di,.c di],[.c (.p di)],qc [qn 4,qi,qn 15],[],[],0⟩
def Z5c:=mkC Yjy prog 150 F150
theorem Ylx:Z5c.ok prog 150:=mkO ⟨Ylw,trivial⟩
def X3 (a0 a1:Int):Option (Int×Unit):=Z5c.fn (a0,a1,())
theorem Zjz a0 a1:Eq (X3 a0 a1) <| (Zdf a0).bind fun e0=>(Zdf a1).bind fun e1=>bif e0.1 then bif e1.1 then some (0,()) else some ((-1),()) else bif e1.1 then some (1,()) else bif a0<a1 then some ((-1),()) else bif a0>a1 then some (1,()) else some (0,()):=mkE
def Ycq:Tb:=[]
def F149:TFun:=⟨[],[(4,qc [qn 3,qi,qn 2,[.c (.p (.sl Vq10))],qi,qi,qn 9])],[.c (.sl Vq10)],[.c (.p di)],qc [qn 2,qi,qn 15],[],[],0⟩
def Z5d:=mkC Ycq prog 149 F149
theorem Yly:Z5d.ok prog 149:=mkO trivial
def Zj0 (a0:Vy8):Option (Int×Unit):=Z5d.fn (a0,())
def Zcm (n:Nat)(x0:Int)(x1:Vy8)(x2 x3:Int):Option (Int×Unit):=itr Ycq prog 149 F149 n 4 (x0,x1,x2,x3,())
theorem Zvp a0:Eq (Zj0 a0) <| Zcm fuel 0 a0 (ofNat a0.length) 0:=mkE
theorem Zt0 n x0 x1 x2 x3:Eq (Zcm (n+1) x0 x1 x2 x3) <| bif x3<x2 then ix x1 x3 fun e0=>bif e0.1 !=x0 then some (e0.1,()) else Zcm n x0 x1 x2 (wrap .i64 (x3+1)) else some (x0,()):=mkI
def Yjz:Tb:=[(150,Z5c),(149,Z5d)]
def F125:TFun:=⟨[],[],[.a Vq1,.a Vq1],[.c (.p di)],qc [qn 4,qi,qn 21],[],[],0⟩
def Z5e:=mkC Yjz prog 125 F125
theorem Ylz:Z5e.ok prog 125:=mkO ⟨Ylx,Yly,trivial⟩
def Zj1 (a0 a1:Vy1):Option (Int×Unit):=Z5e.fn (a0,a1,())
theorem Zvq a0 a1:Eq (Zj1 a0 a1) <| (X3 a0.2.2.1 a1.2.2.1).bind fun e0=>(X3 a0.2.1 a1.2.1).bind fun e1=>(X3 a0.1 a1.1).bind fun e2=>(Zj0 [(e0.1,()),(e1.1,()),(e2.1,())]).bind fun e3=>some (e3.1,()):=mkE
def Yh7:Tb:=[(124,Z5a),(125,Z5e)]
def F91:TFun:=⟨[],[(6,qc [[.c (.p (.sl Vq1))],qn 7,[.c (.p (.sl Vq1))],qi,qi,qn 22])],[.c (.sl Vq1)],[.c (.p di)],qc [qn 2,qi,qn 30],[],[],0⟩
def Ycr:=mkC Yh7 prog 91 F91
theorem ok91:Ycr.ok prog 91:=mkO ⟨Ylv,Ylz,trivial⟩
def Zj2 (a0:(List Vy1)):Option (Int×Unit):=Ycr.fn (a0,())
def Zcn (n:Nat)(x0 x1:(List Vy1))(x2 x3:Int):Option (Int×Unit):=itr Yh7 prog 91 F91 n 6 (x0,x1,x2,x3,())
theorem Zvr a0:Eq (Zj2 a0) <| bif ofNat a0.length>4000 then some (4,()) else Zcn fuel a0 a0 (ofNat a0.length) 0:=mkE
theorem Zj3 n x0 x1 x2 x3:Eq (Zcn (n+1) x0 x1 x2 x3) <| bif x3<x2 then ix x1 x3 fun e0=>(Zjy e0).bind fun e1=>bif !e1.1 then some (8,()) else let k1:=Zcn n x0 x1 x2 (wrap .i64 (x3+1));bif x3>0 then ix x0 (wrap .i64 (x3 - 1)) fun e2=>(Zj1 e2 e0).bind fun e3=>bif e3.1≥0 then some (8,()) else k1 else k1 else some (0,()):=mkI
def Zh4:Tb:=[(88,Ycm),(89,Ycn),(90,Yco),(91,Ycr),(92,Ycp),(93,Ycl),(44,Zyc)]
def F45:TFun:=⟨[1,3,4,5,6,13,21,29,37,45,50],[(1,qc [qn 1,[.boxN 58 9 [.p (.int .u8),.p di,.p di,.p (.sl Vq6),.p (.sl Vq10),.p (.sl Vq1),.p (.sl Vq7),.p (.sl Vq3),.p (.sl Vq8)]],qn 1,qi,qi,qb,qb,qb,qb,qn 193]),(3,qc [qn 1,[.boxN 58 9 [.p (.int .u8),.any,.any,.p (.sl Vq6),.p (.sl Vq10),.p (.sl Vq1),.p (.sl Vq7),.p (.sl Vq3),.p (.sl Vq8)]],qn 1,qi,qi,qb,qb,qb,qb,qb,qn 192]),(4,qc [qn 1,[.boxN 58 9 [.p (.int .u8),.any,.any,.p (.sl Vq6),.p (.sl Vq10),.p (.sl Vq1),.p (.sl Vq7),.p (.sl Vq3),.p (.sl Vq8)]],qn 7,qb,qb,qn 191]),(5,qc [qn 1,[.boxN 58 9 [.p (.int .u8),.any,.any,.any,.p (.sl Vq10),.p (.sl Vq1),.p (.sl Vq7),.p (.sl Vq3),.p (.sl Vq8)]],qn 200]),(6,qc [qn 1,[.boxN 58 9 [.p (.int .u8),.any,.any,.any,.p (.sl Vq10),.p (.sl Vq1),.p (.sl Vq7),.p (.sl Vq3),.p (.sl Vq8)]],qn 118,qb,qn 81]),(13,qc [qn 1,[.boxN 58 9 [.p (.int .u8),.any,.any,.any,.any,.p (.sl Vq1),.p (.sl Vq7),.p (.sl Vq3),.p (.sl Vq8)]],qn 9,qb,qn 110,[.c (.p (.sl Vq10))],qi,qi,qn 77]),(21,qc [qn 1,[.boxN 58 9 [.p (.int .u8),.any,.any,.any,.any,.p (.sl Vq1),.any,.p (.sl Vq3),.p (.sl Vq8)]],qn 9,qb,qn 123,[.c (.p (.sl Vq7))],qi,qi,qn 64]),(29,qc [qn 1,[.boxN 58 9 [.p (.int .u8),.any,.any,.any,.any,.p (.sl Vq1),.any,.any,.p (.sl Vq8)]],qn 9,qb,qn 137,[.c (.p (.sl Vq3))],qi,qi,qn 50]),(37,qc [qn 1,[.boxN 58 9 [.p (.int .u8),.any,.any,.any,.any,.p (.sl Vq1),.any,.any,.any]],qn 9,qb,qn 152,[.c (.p (.sl Vq8))],qi,qi,qn 35]),(45,qc [qn 1,[.boxN 58 9 [.p (.int .u8),.any,.any,.any,.any,.any,.any,.any,.any]],qn 9,qb,qn 167,[.c (.p (.sl Vq1))],qi,qi,qn 20]),(50,qn 202)],[.a Vq2],[.c (.p di)],qc [qn 2,qi,qn 199],[],[],0⟩
def Ycs:=mkC Zh4 prog 45 F45
theorem ok45:Ycs.ok prog 45:=mkO ⟨ok88,ok89,ok90,ok91,ok92,ok93,ok44,trivial⟩
def Zhr (a0:Vy3):Option (Int×Unit):=Ycs.fn (a0,())
def Zmi (n:Nat)(x0 x1 x2:Int)(x3:(List Vy1))(x4:Vy8)(x5:(List Vy1))(x6:(List Vy5))(x7:(List Vy2))(x8:Vy6)(x9 x10:Int)(x11 x12 x13 x14:Bool):Option (Int×Unit):=itr Zh4 prog 45 F45 n 1 (x0,x1,x2,x3,x4,x5,x6,x7,x8,x9,x10,x11,x12,x13,x14,())
def Zdl (n:Nat)(x0:Int)(x1:(List Vy1))(x2:Vy8)(x3:(List Vy1))(x4:(List Vy5))(x5:(List Vy2))(x6:Vy6)(x7 x8:Int)(x9 x10 x11 x12 x13:Bool):Option (Int×Unit):=itr Zh4 prog 45 F45 n 3 (x0,x1,x2,x3,x4,x5,x6,x7,x8,x9,x10,x11,x12,x13,())
def Zdm (n:Nat)(x0:Int)(x1:(List Vy1))(x2:Vy8)(x3:(List Vy1))(x4:(List Vy5))(x5:(List Vy2))(x6:Vy6)(x7 x8:Bool):Option (Int×Unit):=itr Zh4 prog 45 F45 n 4 (x0,x1,x2,x3,x4,x5,x6,x7,x8,())
def Zmj (n:Nat)(x0:Int)(x1:Vy8)(x2:(List Vy1))(x3:(List Vy5))(x4:(List Vy2))(x5:Vy6):Option (Int×Unit):=itr Zh4 prog 45 F45 n 5 (x0,x1,x2,x3,x4,x5,())
def Zdn (n:Nat)(x0:Int)(x1:Vy8)(x2:(List Vy1))(x3:(List Vy5))(x4:(List Vy2))(x5:Vy6)(x6:Bool):Option (Int×Unit):=itr Zh4 prog 45 F45 n 6 (x0,x1,x2,x3,x4,x5,x6,())
def Q3 (n:Nat)(x0:Int)(x1:(List Vy1))(x2:(List Vy5))(x3:(List Vy2))(x4:Vy6)(x5:Bool)(x6:Vy8)(x7 x8:Int):Option (Int×Unit):=itr Zh4 prog 45 F45 n 13 (x0,x1,x2,x3,x4,x5,x6,x7,x8,())
def Q4 (n:Nat)(x0:Int)(x1:(List Vy1))(x2:(List Vy2))(x3:Vy6)(x4:Bool)(x5:(List Vy5))(x6 x7:Int):Option (Int×Unit):=itr Zh4 prog 45 F45 n 21 (x0,x1,x2,x3,x4,x5,x6,x7,())
def Q5 (n:Nat)(x0:Int)(x1:(List Vy1))(x2:Vy6)(x3:Bool)(x4:(List Vy2))(x5 x6:Int):Option (Int×Unit):=itr Zh4 prog 45 F45 n 29 (x0,x1,x2,x3,x4,x5,x6,())
def Q6 (n:Nat)(x0:Int)(x1:(List Vy1))(x2:Bool)(x3:Vy6)(x4 x5:Int):Option (Int×Unit):=itr Zh4 prog 45 F45 n 37 (x0,x1,x2,x3,x4,x5,())
def X4 (n:Nat)(x0:Int)(x1:Bool)(x2:(List Vy1))(x3 x4:Int):Option (Int×Unit):=itr Zh4 prog 45 F45 n 45 (x0,x1,x2,x3,x4,())
def Zj4 (n:Nat):Option (Int×Unit):=itr Zh4 prog 45 F45 n 50 ()
theorem Zz8 a0:Eq (Zhr a0) <| (Zjw a0.1).bind fun e0=>Zmi fuel a0.1 a0.2.1 a0.2.2.1 a0.2.2.2.1 a0.2.2.2.2.1 a0.2.2.2.2.2.1 a0.2.2.2.2.2.2.1 a0.2.2.2.2.2.2.2.1 a0.2.2.2.2.2.2.2.2.1 e0.1 e0.2.1 e0.2.2.1 e0.2.2.2.1 e0.2.2.2.2.1 e0.2.2.2.2.2.1:=mkE
theorem Zvs n x0 x1 x2 x3 x4 x5 x6 x7 x8 x9 x10 x11 x12 x13 x14:Eq (Zmi (n+1) x0 x1 x2 x3 x4 x5 x6 x7 x8 x9 x10 x11 x12 x13 x14) <| let k1:=Zdl n x0 x3 x4 x5 x6 x7 x8 x9 x10 x11 x12 x13 x14 false;bif x2≥0 then bif x2<20 then bif x1≥0 then Zdl n x0 x3 x4 x5 x6 x7 x8 x9 x10 x11 x12 x13 x14 (decide (x1<4)) else k1 else k1 else k1:=mkI
theorem Zvt n x0 x1 x2 x3 x4 x5 x6 x7 x8 x9 x10 x11 x12 x13:Eq (Zdl (n+1) x0 x1 x2 x3 x4 x5 x6 x7 x8 x9 x10 x11 x12 x13) <| let k1:=Zdm n x0 x1 x2 x3 x4 x5 x6 x13 false;bif ofNat x1.length≤4000 then bif ofNat x2.length≥x7 then bif ofNat x2.length≤x8 then (Zde x9 4000).bind fun e0=>bif ofNat x3.length≤e0.1 then (Zde x10 60).bind fun e1=>bif ofNat x4.length≤e1.1 then (Zde x11 4000).bind fun e2=>bif ofNat x5.length≤e2.1 then (Zde x12 4000).bind fun e3=>Zdm n x0 x1 x2 x3 x4 x5 x6 x13 (decide (ofNat x6.length≤e3.1)) else k1 else k1 else k1 else k1 else k1 else k1:=mkI
theorem Zvu n x0 x1 x2 x3 x4 x5 x6 x7 x8:Eq (Zdm (n+1) x0 x1 x2 x3 x4 x5 x6 x7 x8) <| let k1:=Zdn n x0 x2 x3 x4 x5 x6 true;bif !x7 then k1 else bif !x8 then k1 else (Zm6 x1).bind fun e0=>bif !e0.1 then k1 else (Zj2 x3).bind fun e1=>Zdn n x0 x2 x3 x4 x5 x6 (e1.1 !=0):=mkI
theorem Zvv n x0 x1 x2 x3 x4 x5:Eq (Zmj (n+1) x0 x1 x2 x3 x4 x5) <| Q3 n x0 x2 x3 x4 x5 true x1 (ofNat x1.length) 0:=mkI
theorem Zvw n x0 x1 x2 x3 x4 x5 x6:Eq (Zdn (n+1) x0 x1 x2 x3 x4 x5 x6) <| bif x6 then some (8,()) else Zmj n x0 x1 x2 x3 x4 x5:=mkI
theorem Zj5 n x0 x1 x2 x3 x4 x5 x6 x7 x8:Eq (Q3 (n+1) x0 x1 x2 x3 x4 x5 x6 x7 x8) <| bif x8<x7 then ix x6 x8 fun e0=>bif x5 then (Zjx e0.1).bind fun e1=>Q3 n x0 x1 x2 x3 x4 e1.1 x6 x7 (wrap .i64 (x8+1)) else Q3 n x0 x1 x2 x3 x4 false x6 x7 (wrap .i64 (x8+1)) else Q4 n x0 x1 x3 x4 x5 x2 (ofNat x2.length) 0:=mkI
theorem Zj6 n x0 x1 x2 x3 x4 x5 x6 x7:Eq (Q4 (n+1) x0 x1 x2 x3 x4 x5 x6 x7) <| bif x7<x6 then ix x5 x7 fun e0=>bif x4 then (Zgm e0).bind fun e1=>Q4 n x0 x1 x2 x3 (e1.1==0) x5 x6 (wrap .i64 (x7+1)) else Q4 n x0 x1 x2 x3 false x5 x6 (wrap .i64 (x7+1)) else Q5 n x0 x1 x3 x4 x2 (ofNat x2.length) 0:=mkI
theorem Zj7 n x0 x1 x2 x3 x4 x5 x6:Eq (Q5 (n+1) x0 x1 x2 x3 x4 x5 x6) <| bif x6<x5 then ix x4 x6 fun e0=>bif x3 then (Qs (3,0,0,0,0,e0)).bind fun e1=>Q5 n x0 x1 x2 (e1.1==0) x4 x5 (wrap .i64 (x6+1)) else Q5 n x0 x1 x2 false x4 x5 (wrap .i64 (x6+1)) else Q6 n x0 x1 x3 x2 (ofNat x2.length) 0:=mkI
theorem Zj8 n x0 x1 x2 x3 x4 x5:Eq (Q6 (n+1) x0 x1 x2 x3 x4 x5) <| bif x5<x4 then ix x3 x5 fun e0=>bif x2 then (Qs (4,e0.1,e0.2.1,e0.2.2.1,0,0,0,0,0,0,())).bind fun e1=>Q6 n x0 x1 (e1.1==0) x3 x4 (wrap .i64 (x5+1)) else Q6 n x0 x1 false x3 x4 (wrap .i64 (x5+1)) else X4 n x0 x2 x1 (ofNat x1.length) 0:=mkI
theorem Zj9 n x0 x1 x2 x3 x4:Eq (X4 (n+1) x0 x1 x2 x3 x4) <| bif x4<x3 then ix x2 x4 fun e0=>bif x1 then bif x0 !=4 then X4 n x0 true x2 x3 (wrap .i64 (x4+1)) else X4 n x0 (e0.2.2.2.2.2.2.2.1==0) x2 x3 (wrap .i64 (x4+1)) else X4 n x0 false x2 x3 (wrap .i64 (x4+1)) else bif !x1 then some (8,()) else Zj4 n:=mkI
theorem Zt1 n  : Eq (Zj4 (n+1) ) <| some (0,()):=mkI
end
end Tg
