import Derived.Test.YtlnihcefchoofaaGreatDoorDVT
set_option linter.all false
set_option maxRecDepth 100000
namespace Tg
noncomputable section
open Go.Abs hiding fuel
open Go.Proofs.Tryz (prog)
open Int (ofNat toNat)
open Go.IntKind (wrap)
abbrev Zxg:List Go.Abs.SC:=[.p (.int .u8),.p di,.p di,.p di,.p di,.p di,.p di,.p di,.p di,.p di]
abbrev Yl8:List Go.Abs.SC:=[.p (.int .u8),.any,.any,.p (.sl Vq6),.p (.sl Vq10),.p (.sl Vq1),.p (.sl Vq7),.p (.sl Vq3),.p (.sl Vq8)]
abbrev Yl9:List Go.Abs.SC:=[.p (.int .u8),.any,.any,.any,.p (.sl Vq10),.p (.sl Vq1),.p (.sl Vq7),.p (.sl Vq3),.p (.sl Vq8)]
def Yvr:Tb:=[]
def F122:TFun:=⟨[],[],[.c di],[.c (.p db)],qc [qn 2,qb,qn 6],[],[],0⟩
def Zxh:=mkC Yvr prog 125 F122
theorem Yma:Zxh.ok prog 125:=mkO trivial
def Za5(a0:Int):Option (Bool×Unit):=Zxh.fn (a0,())
theorem Zsa a0:Eq (Za5 a0)<|bif a0>=(-1099511627776)then some (decide (a0<=1099511627776),())else some (false,()):=mkE
def Yvs:Tb:=[(125,Zxh)]
def F121:TFun:=⟨[],[],[.c di],[.c (.p db)],qc [qn 2,qb,qn 6],[],[],0⟩
def Z5d:=mkC Yvs prog 126 F121
theorem Ytq:Z5d.ok prog 126:=mkO ⟨Yma,trivial⟩
def Zcz(a0:Int):Option (Bool×Unit):=Z5d.fn (a0,())
theorem Zsb a0:Eq (Zcz a0)<|(Za5 a0).bind λe0=>bif e0.1 then some (true,())else some (a0==9223372036854775807,()):=mkE
def Ymb:Tb:=[(125,Zxh),(126,Z5d)]
def F87:TFun:=⟨[5,3],[(3,qc [qn 1,[.boxN 111 10 Zxg],qn 1,qb,[.boxN 111 10 Zxg],qn 54]),(5,qc [qn 1,[.boxN 111 10 Zxg],qn 1,qb,[.boxN 111 10 Zxg],qn 5,[.c (.p (.int .u8))],qb,qn 47])],[.a Vq4],[.c (.p di)],qc [qn 2,qi,qn 56],[],[],0⟩
def Zhc:=mkC Ymb prog 61 F87
theorem ok87:Zhc.ok prog 61:=mkO ⟨Yma,Ytq,trivial⟩
def Zt(a0:Vy4):Option (Int×Unit):=Zhc.fn (a0,())
def Xw(n:Nat)(x0 x1 x2 x3 x4 x5 x6 x7 x8 x9:Int)(x10:Bool)(x11 x12 x13 x14 x15 x16 x17 x18 x19 x20:Int):Option (Int×Unit):=itr Ymb prog 61 F87 n 3 (x0,x1,x2,x3,x4,x5,x6,x7,x8,x9,x10,x11,x12,x13,x14,x15,x16,x17,x18,x19,x20,())
def Zd2(n:Nat)(x0 x1 x2 x3 x4 x5 x6 x7 x8 x9:Int)(x10:Bool)(x11 x12 x13 x14 x15 x16 x17 x18 x19 x20 x21:Int)(x22:Bool):Option (Int×Unit):=itr Ymb prog 61 F87 n 5 (x0,x1,x2,x3,x4,x5,x6,x7,x8,x9,x10,x11,x12,x13,x14,x15,x16,x17,x18,x19,x20,x21,x22,())
theorem Zt8 a0:Eq (Zt a0)<|bif a0.1==1 then Zd2 fuel a0.1 a0.2.1 a0.2.2.1 a0.2.2.2.1 a0.2.2.2.2.1 a0.2.2.2.2.2.1 a0.2.2.2.2.2.2.1 a0.2.2.2.2.2.2.2.1 a0.2.2.2.2.2.2.2.2.1 a0.2.2.2.2.2.2.2.2.2.1 false a0.1 0 0 0 0 0 0 0 0 0 a0.1 true else Zd2 fuel a0.1 a0.2.1 a0.2.2.1 a0.2.2.2.1 a0.2.2.2.2.1 a0.2.2.2.2.2.1 a0.2.2.2.2.2.2.1 a0.2.2.2.2.2.2.2.1 a0.2.2.2.2.2.2.2.2.1 a0.2.2.2.2.2.2.2.2.2.1 false a0.1 0 0 0 0 0 0 0 0 0 a0.1 (a0.1==4):=mkE
theorem Zsc n x0 x1 x2 x3 x4 x5 x6 x7 x8 x9 x10 x11 x12 x13 x14 x15 x16 x17 x18 x19 x20:Eq (Xw (n+1) x0 x1 x2 x3 x4 x5 x6 x7 x8 x9 x10 x11 x12 x13 x14 x15 x16 x17 x18 x19 x20)<|bif !x10 then some (8,())else bif !(x0==x11&&(x1==x12&&(x2==x13&&(x3==x14&&(x4==x15&&(x5==x16&&(x6==x17&&(x7==x18&&(x8==x19&&(x9==x20&&true))))))))))then some (8,())else some (0,()):=mkI
theorem Zsd n x0 x1 x2 x3 x4 x5 x6 x7 x8 x9 x10 x11 x12 x13 x14 x15 x16 x17 x18 x19 x20 x21 x22:Eq (Zd2 (n+1) x0 x1 x2 x3 x4 x5 x6 x7 x8 x9 x10 x11 x12 x13 x14 x15 x16 x17 x18 x19 x20 x21 x22)<|bif x22 then(Za5 x2).bind λe0=>Xw n x0 x1 x2 x3 x4 x5 x6 x7 x8 x9 e0.1 x11 x1 x2 x3 x15 x16 x17 x18 x19 x20 else bif x21==2 then(Zcz x4).bind λe0=>Xw n x0 x1 x2 x3 x4 x5 x6 x7 x8 x9 e0.1 x11 x12 x13 x14 x4 x16 x17 x18 x19 x20 else bif x21==3 then let k1:=Xw n x0 x1 x2 x3 x4 x5 x6 x7 x8 x9 false x11 x12 x13 x14 x15 x5 x6 x7 x8 x9;bif (-2199023255552)<=x6 then bif x6<x7 then Xw n x0 x1 x2 x3 x4 x5 x6 x7 x8 x9 (decide (x7<=2199023255552)) x11 x12 x13 x14 x15 x5 x6 x7 x8 x9 else k1 else k1 else Xw n x0 x1 x2 x3 x4 x5 x6 x7 x8 x9 x10 x11 x12 x13 x14 x15 x16 x17 x18 x19 x20:=mkI
def Ytr:Tb:=[(61,Zhc)]
def F46:TFun:=⟨[],[(6,qc [qn 23,[.c (.p (.sl Vq4))],qi,qi,qn 9])],[.a [.int .i64,.sl Vq4]],[.c (.p di)],qc [qn 2,qi,qn 32],[],[],0⟩
def Z3a:=mkC Ytr prog 32 F46
theorem ok46:Z3a.ok prog 32:=mkO ⟨ok87,trivial⟩
def Yp(a0:(Int×List Vy4×Unit)):Option (Int×Unit):=Z3a.fn (a0,())
def Zbi(n:Nat)(x0:(List Vy4))(x1 x2:Int):Option (Int×Unit):=itr Ytr prog 32 F46 n 6 (x0,x1,x2,())
theorem Zt9 a0:Eq (Yp a0)<|bif a0.1<1 then some (8,())else bif a0.1>8 then some (8,())else bif ofNat a0.2.1.length>a0.1 then some (8,())else Zbi fuel a0.2.1 (ofNat a0.2.1.length) 0:=mkE
theorem Zie n x0 x1 x2:Eq (Zbi (n+1) x0 x1 x2)<|bif x2<x1 then ix x0 x2 λe0=>(Zt e0).bind λe1=>bif e1.1 !=0 then some (e1.1,())else Zbi n x0 x1 (wrap .i64 (x2+1))else some (0,()):=mkI
def Yym:Tb:=[(126,Z5d),(125,Zxh)]
def F64:TFun:=⟨[],[],[.a Vq7],[.a [.p (.int .u8),.p di,.p di,.p di,.p di,.p di,.p di,.p di,.p di,.p di],.c (.p di)],qc [qn 2,[.boxN 111 10 Zxg],qi,qn 30],[],[],0⟩
def Ygw:=mkC Yym prog 71 F64
theorem ok64:Ygw.ok prog 71:=mkO ⟨Ytq,Yma,trivial⟩
def Zja(a0:Vy5):Option (Vy4×Int×Unit):=Ygw.fn (a0,())
theorem Zqu a0:Eq (Zja a0)<|let k1:Option (Vy4×Int×Unit):=some (((0,0,0,0,0,0,0,0,0,0,()),8,()));bif a0.1 then(Zcz a0.2.1).bind λe0=>bif !e0.1 then k1 else bif !(a0.2.2.1==0&&(a0.2.2.2.1==0&&(a0.2.2.2.2.1==0&&true)))then k1 else some (((2,0,0,0,a0.2.1,0,0,0,0,0,()),0,()))else bif a0.2.1 !=0 then k1 else(Za5 a0.2.2.2.1).bind λe0=>bif !e0.1 then k1 else some (((1,a0.2.2.1,a0.2.2.2.1,a0.2.2.2.2.1,0,0,0,0,0,0,()),0,())):=mkE
def Yvt:Tb:=[(71,Ygw)]
def F127:TFun:=⟨[],[],[.a Vq7],[.c (.p di)],qc [qn 2,qi,qn 8],[],[],0⟩
def Ycm:=mkC Yvt prog 132 F127
theorem Yyn:Ycm.ok prog 132:=mkO ⟨ok64,trivial⟩
def Zhz(a0:Vy5):Option (Int×Unit):=Ycm.fn (a0,())
theorem Zua a0:Eq (Zhz a0)<|(Zja a0).bind λe0=>some (e0.2.1,()):=mkE
def Yvu:Tb:=[]
def F123:TFun:=⟨[],[],[.c (.int .u8)],[.c (.p di),.c (.p di),.c (.p db),.c (.p db),.c (.p db),.c (.p db)],qc [qn 2,qi,qi,qb,qb,qb,qb,qn 15],[],[],0⟩
def Ycn:=mkC Yvu prog 127 F123
theorem Yyo:Ycn.ok prog 127:=mkO trivial
def Zli(a0:Int):Option (Int×Int×Bool×Bool×Bool×Bool×Unit):=Ycn.fn (a0,())
theorem Zz8 a0:Eq (Zli a0)<|bif a0==1 then some (0,0,false,true,false,false,())else bif a0==2 then some (1,1,false,false,false,false,())else bif a0==3 then some (0,0,false,false,false,false,())else bif a0==4 then some (1,4,true,false,false,false,())else bif a0==5 then some (2,2,true,false,false,false,())else bif a0==6 then some (0,0,false,false,true,false,())else bif a0==7 then some (0,0,false,false,false,true,())else some (1,0,false,false,false,false,()):=mkE
def Yvv:Tb:=[]
def F124:TFun:=⟨[],[],[.c db,.c di],[.c (.p di)],qc [qn 4,qi,qn 2],[],[],0⟩
def Yco:=mkC Yvv prog 128 F124
theorem Yyp:Yco.ok prog 128:=mkO trivial
def Zd3(a0:Bool)(a1:Int):Option (Int×Unit):=Yco.fn (a0,a1,())
theorem Ztu a0 a1:Eq (Zd3 a0 a1)<|bif a0 then some (a1,())else some (0,()):=mkE
def Ymc:Tb:=[(61,Zhc)]
def F120:TFun:=⟨[],[(3,qc [qn 5,[.c (.p (.sl Vq6))],qi,qi,qn 18])],[.c (.sl Vq6)],[.c (.p db)],qc [qn 2,qb,qn 23],[],[],0⟩
def Z5e:=mkC Ymc prog 129 F120
theorem Yts:Z5e.ok prog 129:=mkO ⟨ok87,trivial⟩
def Zjb(a0:(List Vy1)):Option (Bool×Unit):=Z5e.fn (a0,())
def Zei(n:Nat)(x0:(List Vy1))(x1 x2:Int):Option (Bool×Unit):=itr Ymc prog 129 F120 n 3 (x0,x1,x2,())
theorem Z5f a0:Eq (Zjb a0)<|Zei fuel a0 (ofNat a0.length) 0:=mkE
theorem Zok n x0 x1 x2:Eq (Zei (n+1) x0 x1 x2)<|bif x2<x1 then ix x0 x2 λe0=>bif e0.1<0 then some (false,())else bif e0.1>=3 then some (false,())else(Zt e0.2).bind λe1=>bif e1.1 !=0 then some (false,())else Zei n x0 x1 (wrap .i64 (x2+1))else some (true,()):=mkI
def Yvw:Tb:=[(61,Zhc)]
def F126:TFun:=⟨[],[],[.c di],[.c (.p db)],qc [qn 2,qb,qn 8],[],[],0⟩
def Ycp:=mkC Yvw prog 131 F126
theorem Yyq:Ycp.ok prog 131:=mkO ⟨ok87,trivial⟩
def Zlj(a0:Int):Option (Bool×Unit):=Ycp.fn (a0,())
theorem Zz9 a0:Eq (Zlj a0)<|bif a0==(-9223372036854775808)then some (true,())else(Zt (2,0,0,0,a0,0,0,0,0,0,())).bind λe0=>some (e0.1==0,()):=mkE
def Yvx:Tb:=[]
def F215:TFun:=⟨[],[],[.a [.int .i64,.int .i64,.int .i64,.int .i64]],[.c (.p di)],qc [qn 2,qi,qn 40],[],[],0⟩
def Zxi:=mkC Yvx prog 218 F215
theorem Ymd:Zxi.ok prog 218:=mkO trivial
def Zaj(a0:(Int×Int×Int×Int×Unit)):Option (Int×Unit):=Zxi.fn (a0,())
theorem Zxj a0:Eq (Zaj a0)<|let k1:Option (Int×Unit):=some (8,());bif a0.1==0 then bif !(a0.1==0&&(a0.2.1==0&&(a0.2.2.1==0&&(a0.2.2.2.1==0&&true))))then k1 else some (0,())else bif a0.1==1 then bif a0.2.1==a0.2.2.1 then bif !a0.2.1==a0.2.2.2.1 then k1 else some (0,())else k1 else bif a0.1>1 then bif a0.1<=1073741824 then bif !decide (a0.2.2.1<=a0.2.2.2.1)then k1 else some (0,())else k1 else k1:=mkE
def Yvy:Tb:=[(218,Zxi)]
def F177:TFun:=⟨[],[],[.a Vq1],[.c (.p db)],qc [qn 2,qb,qn 43],[],[],0⟩
def Ycq:=mkC Yvy prog 182 F177
theorem Yyr:Ycq.ok prog 182:=mkO ⟨Ymd,trivial⟩
def Zlk(a0:Vy1):Option (Bool×Unit):=Ycq.fn (a0,())
theorem Z0a a0:Eq (Zlk a0)<|let k1:=some (false,());bif a0.2.1<(-1100585369600)then k1 else bif a0.2.2.1<=a0.2.1 then k1 else bif a0.2.2.1>1100585369600 then k1 else(Zaj (a0.2.2.2.1,a0.2.2.2.2.1,a0.2.2.2.2.2.1,a0.2.2.2.2.2.2.1,())).bind λe0=>bif e0.1==0 then(Zaj a0.2.2.2.2.2.2.2).bind λe1=>bif e1.1==0 then some ((decide (wrap .i64 (a0.2.2.2.1+a0.2.2.2.2.2.2.2.1)>0),()))else k1 else k1:=mkE
def Yvz:Tb:=[]
def F248:TFun:=⟨[],[],[.c di],[.c (.p db)],qc [qn 2,qb,qn 3],[],[],0⟩
def Ycr:=mkC Yvz prog 259 F248
theorem Yys:Ycr.ok prog 259:=mkO trivial
def Zd4(a0:Int):Option (Bool×Unit):=Ycr.fn (a0,())
theorem Zpj a0:Eq (Zd4 a0)<|some (a0 !=a0,()):=mkE
def Yv0:Tb:=[(259,Ycr)]
def F217:TFun:=⟨[],[],[.c di,.c di],[.c (.p di)],qc [qn 4,qi,qn 15],[],[],0⟩
def Ycs:=mkC Yv0 prog 220 F217
theorem Yyt:Ycs.ok prog 220:=mkO ⟨Yys,trivial⟩
def X5(a0 a1:Int):Option (Int×Unit):=Ycs.fn (a0,a1,())
theorem Zll a0 a1:Eq (X5 a0 a1)<|(Zd4 a0).bind λe0=>(Zd4 a1).bind λe1=>bif e0.1 then bif e1.1 then some (0,())else some ((-1),())else bif e1.1 then some (1,())else bif a0<a1 then some ((-1),())else bif a0>a1 then some (1,())else some (0,()):=mkE
def Yme:Tb:=[]
def F216:TFun:=⟨[],[(4,qc [qn 3,qi,qn 2,[.c (.p (.sl Vq10))],qi,qi,qn 9])],[.c (.sl Vq10)],[.c (.p di)],qc [qn 2,qi,qn 15],[],[],0⟩
def Yct:=mkC Yme prog 219 F216
theorem Yyu:Yct.ok prog 219:=mkO trivial
def Zlm(a0:Vy7):Option (Int×Unit):=Yct.fn (a0,())
def Zc0(n:Nat)(x0:Int)(x1:Vy7)(x2 x3:Int):Option (Int×Unit):=itr Yme prog 219 F216 n 4 (x0,x1,x2,x3,())
theorem Z0b a0:Eq (Zlm a0)<|Zc0 fuel 0 a0 (ofNat a0.length) 0:=mkE
theorem Zxk n x0 x1 x2 x3:Eq (Zc0 (n+1) x0 x1 x2 x3)<|bif x3<x2 then ix x1 x3 λe0=>bif e0.1 !=x0 then some (e0.1,())else Zc0 n x0 x1 x2 (wrap .i64 (x3+1))else some (x0,()):=mkI
def Yv1:Tb:=[(220,Ycs),(219,Yct)]
def F178:TFun:=⟨[],[],[.a Vq1,.a Vq1],[.c (.p di)],qc [qn 4,qi,qn 21],[],[],0⟩
def Ycu:=mkC Yv1 prog 183 F178
theorem Ytt:Ycu.ok prog 183:=mkO ⟨Yyt,Yyu,trivial⟩
def Zhd(a0 a1:Vy1):Option (Int×Unit):=Ycu.fn (a0,a1,())
theorem Z0c a0 a1:Eq (Zhd a0 a1)<|(X5 a0.2.2.1 a1.2.2.1).bind λe0=>(X5 a0.2.1 a1.2.1).bind λe1=>(X5 a0.1 a1.1).bind λe2=>(Zlm [(e0.1,()),(e1.1,()),(e2.1,())]).bind λe3=>some (e3.1,()):=mkE
def Ymf:Tb:=[(182,Ycq),(183,Ycu)]
def F125:TFun:=⟨[],[(6,qc [[.c (.p (.sl Vq1))],qn 7,[.c (.p (.sl Vq1))],qi,qi,qn 22])],[.c (.sl Vq1)],[.c (.p di)],qc [qn 2,qi,qn 30],[],[],0⟩
def Z5g:=mkC Ymf prog 130 F125
theorem Ymg:Z5g.ok prog 130:=mkO ⟨Yyr,Ytt,trivial⟩
def Zck(a0:(List Vy1)):Option (Int×Unit):=Z5g.fn (a0,())
def Zc1(n:Nat)(x0 x1:(List Vy1))(x2 x3:Int):Option (Int×Unit):=itr Ymf prog 130 F125 n 6 (x0,x1,x2,x3,())
theorem Z0d a0:Eq (Zck a0)<|bif ofNat a0.length>4000 then some (4,())else Zc1 fuel a0 a0 (ofNat a0.length) 0:=mkE
theorem Zln n x0 x1 x2 x3:Eq (Zc1 (n+1) x0 x1 x2 x3)<|bif x3<x2 then ix x1 x3 λe0=>(Zlk e0).bind λe1=>bif !e1.1 then some (8,())else let k1:=Zc1 n x0 x1 x2 (wrap .i64 (x3+1));bif x3>0 then ix x0 (wrap .i64 (x3-1)) λe2=>(Zhd e2 e0).bind λe3=>bif e3.1>=0 then some (8,())else k1 else k1 else some (0,()):=mkI
def Zj2:Tb:=[(127,Ycn),(128,Yco),(129,Z5e),(130,Z5g),(131,Ycp),(132,Ycm),(61,Zhc)]
def F66:TFun:=⟨[1,3,4,5,6,13,21,29,37,45,50],[(1,qc [qn 1,[.boxN 56 9 [.p (.int .u8),.p di,.p di,.p (.sl Vq6),.p (.sl Vq10),.p (.sl Vq1),.p (.sl Vq7),.p (.sl Vq3),.p (.sl Vq8)]],qn 1,qi,qi,qb,qb,qb,qb,qn 193]),(3,qc [qn 1,[.boxN 56 9 Yl8],qn 1,qi,qi,qb,qb,qb,qb,qb,qn 192]),(4,qc [qn 1,[.boxN 56 9 Yl8],qn 7,qb,qb,qn 191]),(5,qc [qn 1,[.boxN 56 9 Yl9],qn 200]),(6,qc [qn 1,[.boxN 56 9 Yl9],qn 118,qb,qn 81]),(13,qc [qn 1,[.boxN 56 9 [.p (.int .u8),.any,.any,.any,.any,.p (.sl Vq1),.p (.sl Vq7),.p (.sl Vq3),.p (.sl Vq8)]],qn 9,qb,qn 110,[.c (.p (.sl Vq10))],qi,qi,qn 77]),(21,qc [qn 1,[.boxN 56 9 [.p (.int .u8),.any,.any,.any,.any,.p (.sl Vq1),.any,.p (.sl Vq3),.p (.sl Vq8)]],qn 9,qb,qn 123,[.c (.p (.sl Vq7))],qi,qi,qn 64]),(29,qc [qn 1,[.boxN 56 9 [.p (.int .u8),.any,.any,.any,.any,.p (.sl Vq1),.any,.any,.p (.sl Vq8)]],qn 9,qb,qn 137,[.c (.p (.sl Vq3))],qi,qi,qn 50]),(37,qc [qn 1,[.boxN 56 9 [.p (.int .u8),.any,.any,.any,.any,.p (.sl Vq1),.any,.any,.any]],qn 9,qb,qn 152,[.c (.p (.sl Vq8))],qi,qi,qn 35]),(45,qc [qn 1,[.boxN 56 9 [.p (.int .u8),.any,.any,.any,.any,.any,.any,.any,.any]],qn 9,qb,qn 167,[.c (.p (.sl Vq1))],qi,qi,qn 20]),(50,qn 202)],[.a Vq2],[.c (.p di)],qc [qn 2,qi,qn 199],[],[],0⟩
def Zol:=mkC Zj2 prog 62 F66
theorem ok66:Zol.ok prog 62:=mkO ⟨Yyo,Yyp,Yts,Ymg,Yyq,Yyn,ok87,trivial⟩
def Yu(a0:Vy3):Option (Int×Unit):=Zol.fn (a0,())
def Zom(n:Nat)(x0 x1 x2:Int)(x3:(List Vy1))(x4:Vy7)(x5:(List Vy1))(x6:(List Vy5))(x7:(List Vy2))(x8:Vy6)(x9 x10:Int)(x11 x12 x13 x14:Bool):Option (Int×Unit):=itr Zj2 prog 62 F66 n 1 (x0,x1,x2,x3,x4,x5,x6,x7,x8,x9,x10,x11,x12,x13,x14,())
def Zej(n:Nat)(x0:Int)(x1:(List Vy1))(x2:Vy7)(x3:(List Vy1))(x4:(List Vy5))(x5:(List Vy2))(x6:Vy6)(x7 x8:Int)(x9 x10 x11 x12 x13:Bool):Option (Int×Unit):=itr Zj2 prog 62 F66 n 3 (x0,x1,x2,x3,x4,x5,x6,x7,x8,x9,x10,x11,x12,x13,())
def Zek(n:Nat)(x0:Int)(x1:(List Vy1))(x2:Vy7)(x3:(List Vy1))(x4:(List Vy5))(x5:(List Vy2))(x6:Vy6)(x7 x8:Bool):Option (Int×Unit):=itr Zj2 prog 62 F66 n 4 (x0,x1,x2,x3,x4,x5,x6,x7,x8,())
def Zon(n:Nat)(x0:Int)(x1:Vy7)(x2:(List Vy1))(x3:(List Vy5))(x4:(List Vy2))(x5:Vy6):Option (Int×Unit):=itr Zj2 prog 62 F66 n 5 (x0,x1,x2,x3,x4,x5,())
def Zel(n:Nat)(x0:Int)(x1:Vy7)(x2:(List Vy1))(x3:(List Vy5))(x4:(List Vy2))(x5:Vy6)(x6:Bool):Option (Int×Unit):=itr Zj2 prog 62 F66 n 6 (x0,x1,x2,x3,x4,x5,x6,())
def Qz(n:Nat)(x0:Int)(x1:(List Vy1))(x2:(List Vy5))(x3:(List Vy2))(x4:Vy6)(x5:Bool)(x6:Vy7)(x7 x8:Int):Option (Int×Unit):=itr Zj2 prog 62 F66 n 13 (x0,x1,x2,x3,x4,x5,x6,x7,x8,())
def Q0(n:Nat)(x0:Int)(x1:(List Vy1))(x2:(List Vy2))(x3:Vy6)(x4:Bool)(x5:(List Vy5))(x6 x7:Int):Option (Int×Unit):=itr Zj2 prog 62 F66 n 21 (x0,x1,x2,x3,x4,x5,x6,x7,())
def Q3(n:Nat)(x0:Int)(x1:(List Vy1))(x2:Vy6)(x3:Bool)(x4:(List Vy2))(x5 x6:Int):Option (Int×Unit):=itr Zj2 prog 62 F66 n 29 (x0,x1,x2,x3,x4,x5,x6,())
def Q4(n:Nat)(x0:Int)(x1:(List Vy1))(x2:Bool)(x3:Vy6)(x4 x5:Int):Option (Int×Unit):=itr Zj2 prog 62 F66 n 37 (x0,x1,x2,x3,x4,x5,())
def X6(n:Nat)(x0:Int)(x1:Bool)(x2:(List Vy1))(x3 x4:Int):Option (Int×Unit):=itr Zj2 prog 62 F66 n 45 (x0,x1,x2,x3,x4,())
def Zlo(n:Nat):Option (Int×Unit):=itr Zj2 prog 62 F66 n 50 ()
theorem Z5h a0:Eq (Yu a0)<|(Zli a0.1).bind λe0=>Zom fuel a0.1 a0.2.1 a0.2.2.1 a0.2.2.2.1 a0.2.2.2.2.1 a0.2.2.2.2.2.1 a0.2.2.2.2.2.2.1 a0.2.2.2.2.2.2.2.1 a0.2.2.2.2.2.2.2.2.1 e0.1 e0.2.1 e0.2.2.1 e0.2.2.2.1 e0.2.2.2.2.1 e0.2.2.2.2.2.1:=mkE
theorem Z0e n x0 x1 x2 x3 x4 x5 x6 x7 x8 x9 x10 x11 x12 x13 x14:Eq (Zom (n+1) x0 x1 x2 x3 x4 x5 x6 x7 x8 x9 x10 x11 x12 x13 x14)<|let k1:=Zej n x0 x3 x4 x5 x6 x7 x8 x9 x10 x11 x12 x13 x14 false;bif x2>=0 then bif x2<20 then bif x1>=0 then Zej n x0 x3 x4 x5 x6 x7 x8 x9 x10 x11 x12 x13 x14 (decide (x1<4))else k1 else k1 else k1:=mkI
theorem Z0f n x0 x1 x2 x3 x4 x5 x6 x7 x8 x9 x10 x11 x12 x13:Eq (Zej (n+1) x0 x1 x2 x3 x4 x5 x6 x7 x8 x9 x10 x11 x12 x13)<|let k1:=Zek n x0 x1 x2 x3 x4 x5 x6 x13 false;bif ofNat x1.length<=4000 then bif ofNat x2.length>=x7 then bif ofNat x2.length<=x8 then(Zd3 x9 4000).bind λe0=>bif ofNat x3.length<=e0.1 then(Zd3 x10 60).bind λe1=>bif ofNat x4.length<=e1.1 then(Zd3 x11 4000).bind λe2=>bif ofNat x5.length<=e2.1 then(Zd3 x12 4000).bind λe3=>Zek n x0 x1 x2 x3 x4 x5 x6 x13 (decide (ofNat x6.length<=e3.1))else k1 else k1 else k1 else k1 else k1 else k1:=mkI
theorem Z0g n x0 x1 x2 x3 x4 x5 x6 x7 x8:Eq (Zek (n+1) x0 x1 x2 x3 x4 x5 x6 x7 x8)<|let k1:=Zel n x0 x2 x3 x4 x5 x6 true;bif !x7 then k1 else bif !x8 then k1 else(Zjb x1).bind λe0=>bif !e0.1 then k1 else(Zck x3).bind λe1=>Zel n x0 x2 x3 x4 x5 x6 (e1.1 !=0):=mkI
theorem Z0h n x0 x1 x2 x3 x4 x5:Eq (Zon (n+1) x0 x1 x2 x3 x4 x5)<|Qz n x0 x2 x3 x4 x5 true x1 (ofNat x1.length) 0:=mkI
theorem Z0i n x0 x1 x2 x3 x4 x5 x6:Eq (Zel (n+1) x0 x1 x2 x3 x4 x5 x6)<|bif x6 then some (8,())else Zon n x0 x1 x2 x3 x4 x5:=mkI
theorem Zlp n x0 x1 x2 x3 x4 x5 x6 x7 x8:Eq (Qz (n+1) x0 x1 x2 x3 x4 x5 x6 x7 x8)<|bif x8<x7 then ix x6 x8 λe0=>bif x5 then(Zlj e0.1).bind λe1=>Qz n x0 x1 x2 x3 x4 e1.1 x6 x7 (wrap .i64 (x8+1))else Qz n x0 x1 x2 x3 x4 false x6 x7 (wrap .i64 (x8+1))else Q0 n x0 x1 x3 x4 x5 x2 (ofNat x2.length) 0:=mkI
theorem Zlq n x0 x1 x2 x3 x4 x5 x6 x7:Eq (Q0 (n+1) x0 x1 x2 x3 x4 x5 x6 x7)<|bif x7<x6 then ix x5 x7 λe0=>bif x4 then(Zhz e0).bind λe1=>Q0 n x0 x1 x2 x3 (e1.1==0) x5 x6 (wrap .i64 (x7+1))else Q0 n x0 x1 x2 x3 false x5 x6 (wrap .i64 (x7+1))else Q3 n x0 x1 x3 x4 x2 (ofNat x2.length) 0:=mkI
theorem Zlr n x0 x1 x2 x3 x4 x5 x6:Eq (Q3 (n+1) x0 x1 x2 x3 x4 x5 x6)<|bif x6<x5 then ix x4 x6 λe0=>bif x3 then(Zt (3,0,0,0,0,e0)).bind λe1=>Q3 n x0 x1 x2 (e1.1==0) x4 x5 (wrap .i64 (x6+1))else Q3 n x0 x1 x2 false x4 x5 (wrap .i64 (x6+1))else Q4 n x0 x1 x3 x2 (ofNat x2.length) 0:=mkI
theorem Zls n x0 x1 x2 x3 x4 x5:Eq (Q4 (n+1) x0 x1 x2 x3 x4 x5)<|bif x5<x4 then ix x3 x5 λe0=>bif x2 then(Zt (4,e0.1,e0.2.1,e0.2.2.1,0,0,0,0,0,0,())).bind λe1=>Q4 n x0 x1 (e1.1==0) x3 x4 (wrap .i64 (x5+1))else Q4 n x0 x1 false x3 x4 (wrap .i64 (x5+1))else X6 n x0 x2 x1 (ofNat x1.length) 0:=mkI
theorem Zlt n x0 x1 x2 x3 x4:Eq (X6 (n+1) x0 x1 x2 x3 x4)<|bif x4<x3 then ix x2 x4 λe0=>bif x1 then bif x0 !=4 then X6 n x0 true x2 x3 (wrap .i64 (x4+1))else X6 n x0 (e0.2.2.2.2.2.2.2.1==0) x2 x3 (wrap .i64 (x4+1))else X6 n x0 false x2 x3 (wrap .i64 (x4+1))else bif !x1 then some (8,())else Zlo n:=mkI
theorem Zxl n  : Eq (Zlo (n+1) )<|some (0,()):=mkI
end
end Tg
