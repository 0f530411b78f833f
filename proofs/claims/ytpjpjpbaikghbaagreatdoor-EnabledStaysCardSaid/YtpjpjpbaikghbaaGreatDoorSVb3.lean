import Derived.Test.YtpjpjpbaikghbaaGreatDoorSVT
set_option linter.all false
/- Functions of the code, told plainly and checked by the kernel. -/
set_option maxRecDepth 100000
namespace Tg
noncomputable section
open Go.Abs hiding fuel
open Go.Proofs.Tryz (prog)
open Int (ofNat toNat)
open Go.IntKind (wrap)
abbrev Zw0:List Go.Abs.SC:=[.p (.int .u8),.p di,.p di,.p di,.p di,.p di,.p di,.p di,.p di,.p di]
abbrev Ylq:List Go.Abs.SC:=[.p (.int .u8),.any,.any,.p (.sl Vq6),.p (.sl Vq10),.p (.sl Vq1),.p (.sl Vq7),.p (.sl Vq3),.p (.sl Vq8)]
abbrev Ylr:List Go.Abs.SC:=[.p (.int .u8),.any,.any,.any,.p (.sl Vq10),.p (.sl Vq1),.p (.sl Vq7),.p (.sl Vq3),.p (.sl Vq8)]
def Yu5:Tb:=[]
def F122:TFun:=⟨[],[],[.c di],[.c (.p db)],qc [qn 2,qb,qn 6],[],[],0⟩
def Zw1:=mkC Yu5 prog 122 F122
theorem Yls:Zw1.ok prog 122:=mkO trivial
def Za6(a0:Int):Option (Bool×Unit):=Zw1.fn (a0,())
theorem Zry a0:Eq (Za6 a0)<|bif a0>=(-1099511627776)then some (decide (a0<=1099511627776),())else some (false,()):=mkE
def Yu6:Tb:=[(122,Zw1)]
def F121:TFun:=⟨[],[],[.c di],[.c (.p db)],qc [qn 2,qb,qn 6],[],[],0⟩
def Z4w:=mkC Yu6 prog 121 F121
theorem Ys4:Z4w.ok prog 121:=mkO ⟨Yls,trivial⟩
def Zcw(a0:Int):Option (Bool×Unit):=Z4w.fn (a0,())
theorem Zrz a0:Eq (Zcw a0)<|(Za6 a0).bind λe0=>bif e0.1 then some (true,())else some (a0==9223372036854775807,()):=mkE
def Ylt:Tb:=[(122,Zw1),(121,Z4w)]
def F87:TFun:=⟨[5,3],[(3,qc [qn 1,[.boxN 108 10 Zw0],qn 1,qb,[.boxN 108 10 Zw0],qn 54]),(5,qc [qn 1,[.boxN 108 10 Zw0],qn 1,qb,[.boxN 108 10 Zw0],qn 5,[.c (.p (.int .u8))],qb,qn 47])],[.a Vq4],[.c (.p di)],qc [qn 2,qi,qn 56],[],[],0⟩
def Zg1:=mkC Ylt prog 87 F87
theorem ok87:Zg1.ok prog 87:=mkO ⟨Yls,Ys4,trivial⟩
def Zr(a0:Vy4):Option (Int×Unit):=Zg1.fn (a0,())
def Xx(n:Nat)(x0 x1 x2 x3 x4 x5 x6 x7 x8 x9:Int)(x10:Bool)(x11 x12 x13 x14 x15 x16 x17 x18 x19 x20:Int):Option (Int×Unit):=itr Ylt prog 87 F87 n 3 (x0,x1,x2,x3,x4,x5,x6,x7,x8,x9,x10,x11,x12,x13,x14,x15,x16,x17,x18,x19,x20,())
def Zdt(n:Nat)(x0 x1 x2 x3 x4 x5 x6 x7 x8 x9:Int)(x10:Bool)(x11 x12 x13 x14 x15 x16 x17 x18 x19 x20 x21:Int)(x22:Bool):Option (Int×Unit):=itr Ylt prog 87 F87 n 5 (x0,x1,x2,x3,x4,x5,x6,x7,x8,x9,x10,x11,x12,x13,x14,x15,x16,x17,x18,x19,x20,x21,x22,())
theorem Ztu a0:Eq (Zr a0)<|bif a0.1==1 then Zdt fuel a0.1 a0.2.1 a0.2.2.1 a0.2.2.2.1 a0.2.2.2.2.1 a0.2.2.2.2.2.1 a0.2.2.2.2.2.2.1 a0.2.2.2.2.2.2.2.1 a0.2.2.2.2.2.2.2.2.1 a0.2.2.2.2.2.2.2.2.2.1 false a0.1 0 0 0 0 0 0 0 0 0 a0.1 true else Zdt fuel a0.1 a0.2.1 a0.2.2.1 a0.2.2.2.1 a0.2.2.2.2.1 a0.2.2.2.2.2.1 a0.2.2.2.2.2.2.1 a0.2.2.2.2.2.2.2.1 a0.2.2.2.2.2.2.2.2.1 a0.2.2.2.2.2.2.2.2.2.1 false a0.1 0 0 0 0 0 0 0 0 0 a0.1 (a0.1==4):=mkE
theorem Zr0 n x0 x1 x2 x3 x4 x5 x6 x7 x8 x9 x10 x11 x12 x13 x14 x15 x16 x17 x18 x19 x20:Eq (Xx (n+1) x0 x1 x2 x3 x4 x5 x6 x7 x8 x9 x10 x11 x12 x13 x14 x15 x16 x17 x18 x19 x20)<|bif !x10 then some (8,())else bif !(x0==x11&&(x1==x12&&(x2==x13&&(x3==x14&&(x4==x15&&(x5==x16&&(x6==x17&&(x7==x18&&(x8==x19&&(x9==x20&&true))))))))))then some (8,())else some (0,()):=mkI
theorem Zr1 n x0 x1 x2 x3 x4 x5 x6 x7 x8 x9 x10 x11 x12 x13 x14 x15 x16 x17 x18 x19 x20 x21 x22:Eq (Zdt (n+1) x0 x1 x2 x3 x4 x5 x6 x7 x8 x9 x10 x11 x12 x13 x14 x15 x16 x17 x18 x19 x20 x21 x22)<|bif x22 then(Za6 x2).bind λe0=>Xx n x0 x1 x2 x3 x4 x5 x6 x7 x8 x9 e0.1 x11 x1 x2 x3 x15 x16 x17 x18 x19 x20 else bif x21==2 then(Zcw x4).bind λe0=>Xx n x0 x1 x2 x3 x4 x5 x6 x7 x8 x9 e0.1 x11 x12 x13 x14 x4 x16 x17 x18 x19 x20 else bif x21==3 then let k1:=Xx n x0 x1 x2 x3 x4 x5 x6 x7 x8 x9 false x11 x12 x13 x14 x15 x5 x6 x7 x8 x9;bif (-2199023255552)<=x6 then bif x6<x7 then Xx n x0 x1 x2 x3 x4 x5 x6 x7 x8 x9 (decide (x7<=2199023255552)) x11 x12 x13 x14 x15 x5 x6 x7 x8 x9 else k1 else k1 else Xx n x0 x1 x2 x3 x4 x5 x6 x7 x8 x9 x10 x11 x12 x13 x14 x15 x16 x17 x18 x19 x20:=mkI
def Ys5:Tb:=[(87,Zg1)]
def F46:TFun:=⟨[],[(6,qc [qn 23,[.c (.p (.sl Vq4))],qi,qi,qn 9])],[.a [.int .i64,.sl Vq4]],[.c (.p di)],qc [qn 2,qi,qn 32],[],[],0⟩
def Z2r:=mkC Ys5 prog 46 F46
theorem ok46:Z2r.ok prog 46:=mkO ⟨ok87,trivial⟩
def Yo(a0:(Int×List Vy4×Unit)):Option (Int×Unit):=Z2r.fn (a0,())
def Zbj(n:Nat)(x0:(List Vy4))(x1 x2:Int):Option (Int×Unit):=itr Ys5 prog 46 F46 n 6 (x0,x1,x2,())
theorem Ztv a0:Eq (Yo a0)<|bif a0.1<1 then some (8,())else bif a0.1>8 then some (8,())else bif ofNat a0.2.1.length>a0.1 then some (8,())else Zbj fuel a0.2.1 (ofNat a0.2.1.length) 0:=mkE
theorem Zh5 n x0 x1 x2:Eq (Zbj (n+1) x0 x1 x2)<|bif x2<x1 then ix x0 x2 λe0=>(Zr e0).bind λe1=>bif e1.1 !=0 then some (e1.1,())else Zbj n x0 x1 (wrap .i64 (x2+1))else some (0,()):=mkI
def Yxz:Tb:=[(121,Z4w),(122,Zw1)]
def F64:TFun:=⟨[],[],[.a Vq7],[.a [.p (.int .u8),.p di,.p di,.p di,.p di,.p di,.p di,.p di,.p di,.p di],.c (.p di)],qc [qn 2,[.boxN 108 10 Zw0],qi,qn 30],[],[],0⟩
def Yge:=mkC Yxz prog 64 F64
theorem ok64:Yge.ok prog 64:=mkO ⟨Ys4,Yls,trivial⟩
def Zi0(a0:Vy5):Option (Vy4×Int×Unit):=Yge.fn (a0,())
theorem Zqj a0:Eq (Zi0 a0)<|let k1:Option (Vy4×Int×Unit):=some (((0,0,0,0,0,0,0,0,0,0,()),8,()));bif a0.1 then(Zcw a0.2.1).bind λe0=>bif !e0.1 then k1 else bif !(a0.2.2.1==0&&(a0.2.2.2.1==0&&(a0.2.2.2.2.1==0&&true)))then k1 else some (((2,0,0,0,a0.2.1,0,0,0,0,0,()),0,()))else bif a0.2.1 !=0 then k1 else(Za6 a0.2.2.2.1).bind λe0=>bif !e0.1 then k1 else some (((1,a0.2.2.1,a0.2.2.2.1,a0.2.2.2.2.1,0,0,0,0,0,0,()),0,())):=mkE
def Yu7:Tb:=[(64,Yge)]
def F127:TFun:=⟨[],[],[.a Vq7],[.c (.p di)],qc [qn 2,qi,qn 8],[],[],0⟩
def Yb4:=mkC Yu7 prog 127 F127
theorem Yx0:Yb4.ok prog 127:=mkO ⟨ok64,trivial⟩
def Zhq(a0:Vy5):Option (Int×Unit):=Yb4.fn (a0,())
theorem Ztw a0:Eq (Zhq a0)<|(Zi0 a0).bind λe0=>some (e0.2.1,()):=mkE
def Yu8:Tb:=[]
def F123:TFun:=⟨[],[],[.c (.int .u8)],[.c (.p di),.c (.p di),.c (.p db),.c (.p db),.c (.p db),.c (.p db)],qc [qn 2,qi,qi,qb,qb,qb,qb,qn 15],[],[],0⟩
def Yb5:=mkC Yu8 prog 123 F123
theorem Yx1:Yb5.ok prog 123:=mkO trivial
def Zk5(a0:Int):Option (Int×Int×Bool×Bool×Bool×Bool×Unit):=Yb5.fn (a0,())
theorem Zzp a0:Eq (Zk5 a0)<|bif a0==1 then some (0,0,false,true,false,false,())else bif a0==2 then some (1,1,false,false,false,false,())else bif a0==3 then some (0,0,false,false,false,false,())else bif a0==4 then some (1,4,true,false,false,false,())else bif a0==5 then some (2,2,true,false,false,false,())else bif a0==6 then some (0,0,false,false,true,false,())else bif a0==7 then some (0,0,false,false,false,true,())else some (1,0,false,false,false,false,()):=mkE
def Yu9:Tb:=[]
def F124:TFun:=⟨[],[],[.c db,.c di],[.c (.p di)],qc [qn 4,qi,qn 2],[],[],0⟩
def Yb6:=mkC Yu9 prog 124 F124
theorem Yx2:Yb6.ok prog 124:=mkO trivial
def Zdu(a0:Bool)(a1:Int):Option (Int×Unit):=Yb6.fn (a0,a1,())
theorem Zth a0 a1:Eq (Zdu a0 a1)<|bif a0 then some (a1,())else some (0,()):=mkE
def Ylu:Tb:=[(87,Zg1)]
def F120:TFun:=⟨[],[(3,qc [qn 5,[.c (.p (.sl Vq6))],qi,qi,qn 18])],[.c (.sl Vq6)],[.c (.p db)],qc [qn 2,qb,qn 23],[],[],0⟩
def Z4x:=mkC Ylu prog 120 F120
theorem Ys6:Z4x.ok prog 120:=mkO ⟨ok87,trivial⟩
def Zi1(a0:(List Vy1)):Option (Bool×Unit):=Z4x.fn (a0,())
def Zea(n:Nat)(x0:(List Vy1))(x1 x2:Int):Option (Bool×Unit):=itr Ylu prog 120 F120 n 3 (x0,x1,x2,())
theorem Z4y a0:Eq (Zi1 a0)<|Zea fuel a0 (ofNat a0.length) 0:=mkE
theorem Zn9 n x0 x1 x2:Eq (Zea (n+1) x0 x1 x2)<|bif x2<x1 then ix x0 x2 λe0=>bif e0.1<0 then some (false,())else bif e0.1>=3 then some (false,())else(Zr e0.2).bind λe1=>bif e1.1 !=0 then some (false,())else Zea n x0 x1 (wrap .i64 (x2+1))else some (true,()):=mkI
def Yva:Tb:=[(87,Zg1)]
def F126:TFun:=⟨[],[],[.c di],[.c (.p db)],qc [qn 2,qb,qn 8],[],[],0⟩
def Yb7:=mkC Yva prog 126 F126
theorem Yx3:Yb7.ok prog 126:=mkO ⟨ok87,trivial⟩
def Zk6(a0:Int):Option (Bool×Unit):=Yb7.fn (a0,())
theorem Zzq a0:Eq (Zk6 a0)<|bif a0==(-9223372036854775808)then some (true,())else(Zr (2,0,0,0,a0,0,0,0,0,0,())).bind λe0=>some (e0.1==0,()):=mkE
def Yvb:Tb:=[]
def F215:TFun:=⟨[],[],[.a [.int .i64,.int .i64,.int .i64,.int .i64]],[.c (.p di)],qc [qn 2,qi,qn 40],[],[],0⟩
def Zw2:=mkC Yvb prog 215 F215
theorem Ylv:Zw2.ok prog 215:=mkO trivial
def Zak(a0:(Int×Int×Int×Int×Unit)):Option (Int×Unit):=Zw2.fn (a0,())
theorem Zw3 a0:Eq (Zak a0)<|let k1:Option (Int×Unit):=some (8,());bif a0.1==0 then bif !(a0.1==0&&(a0.2.1==0&&(a0.2.2.1==0&&(a0.2.2.2.1==0&&true))))then k1 else some (0,())else bif a0.1==1 then bif a0.2.1==a0.2.2.1 then bif !a0.2.1==a0.2.2.2.1 then k1 else some (0,())else k1 else bif a0.1>1 then bif a0.1<=1073741824 then bif !decide (a0.2.2.1<=a0.2.2.2.1)then k1 else some (0,())else k1 else k1:=mkE
def Yvc:Tb:=[(215,Zw2)]
def F177:TFun:=⟨[],[],[.a Vq1],[.c (.p db)],qc [qn 2,qb,qn 43],[],[],0⟩
def Yb8:=mkC Yvc prog 177 F177
theorem Yx4:Yb8.ok prog 177:=mkO ⟨Ylv,trivial⟩
def Zk7(a0:Vy1):Option (Bool×Unit):=Yb8.fn (a0,())
theorem Zzr a0:Eq (Zk7 a0)<|let k1:=some (false,());bif a0.2.1<(-1100585369600)then k1 else bif a0.2.2.1<=a0.2.1 then k1 else bif a0.2.2.1>1100585369600 then k1 else(Zak (a0.2.2.2.1,a0.2.2.2.2.1,a0.2.2.2.2.2.1,a0.2.2.2.2.2.2.1,())).bind λe0=>bif e0.1==0 then(Zak a0.2.2.2.2.2.2.2).bind λe1=>bif e1.1==0 then some ((decide (wrap .i64 (a0.2.2.2.1+a0.2.2.2.2.2.2.2.1)>0),()))else k1 else k1:=mkE
def Yvd:Tb:=[]
def F248:TFun:=⟨[],[],[.c di],[.c (.p db)],qc [qn 2,qb,qn 3],[],[],0⟩
def Yb9:=mkC Yvd prog 248 F248
theorem Yx5:Yb9.ok prog 248:=mkO trivial
def Zdv(a0:Int):Option (Bool×Unit):=Yb9.fn (a0,())
theorem Zo8 a0:Eq (Zdv a0)<|some (a0 !=a0,()):=mkE
def Yve:Tb:=[(248,Yb9)]
def F217:TFun:=⟨[],[],[.c di,.c di],[.c (.p di)],qc [qn 4,qi,qn 15],[],[],0⟩
def Yca:=mkC Yve prog 217 F217
theorem Yx6:Yca.ok prog 217:=mkO ⟨Yx5,trivial⟩
def X5(a0 a1:Int):Option (Int×Unit):=Yca.fn (a0,a1,())
theorem Zk8 a0 a1:Eq (X5 a0 a1)<|(Zdv a0).bind λe0=>(Zdv a1).bind λe1=>bif e0.1 then bif e1.1 then some (0,())else some ((-1),())else bif e1.1 then some (1,())else bif a0<a1 then some ((-1),())else bif a0>a1 then some (1,())else some (0,()):=mkE
def Ylw:Tb:=[]
def F216:TFun:=⟨[],[(4,qc [qn 3,qi,qn 2,[.c (.p (.sl Vq10))],qi,qi,qn 9])],[.c (.sl Vq10)],[.c (.p di)],qc [qn 2,qi,qn 15],[],[],0⟩
def Ycb:=mkC Ylw prog 216 F216
theorem Yx7:Ycb.ok prog 216:=mkO trivial
def Zk9(a0:Vy7):Option (Int×Unit):=Ycb.fn (a0,())
def Zcx(n:Nat)(x0:Int)(x1:Vy7)(x2 x3:Int):Option (Int×Unit):=itr Ylw prog 216 F216 n 4 (x0,x1,x2,x3,())
theorem Zzs a0:Eq (Zk9 a0)<|Zcx fuel 0 a0 (ofNat a0.length) 0:=mkE
theorem Zw4 n x0 x1 x2 x3:Eq (Zcx (n+1) x0 x1 x2 x3)<|bif x3<x2 then ix x1 x3 λe0=>bif e0.1 !=x0 then some (e0.1,())else Zcx n x0 x1 x2 (wrap .i64 (x3+1))else some (x0,()):=mkI
def Yvf:Tb:=[(217,Yca),(216,Ycb)]
def F178:TFun:=⟨[],[],[.a Vq1,.a Vq1],[.c (.p di)],qc [qn 4,qi,qn 21],[],[],0⟩
def Ycc:=mkC Yvf prog 178 F178
theorem Ys7:Ycc.ok prog 178:=mkO ⟨Yx6,Yx7,trivial⟩
def Zg2(a0 a1:Vy1):Option (Int×Unit):=Ycc.fn (a0,a1,())
theorem Zzt a0 a1:Eq (Zg2 a0 a1)<|(X5 a0.2.2.1 a1.2.2.1).bind λe0=>(X5 a0.2.1 a1.2.1).bind λe1=>(X5 a0.1 a1.1).bind λe2=>(Zk9 [(e0.1,()),(e1.1,()),(e2.1,())]).bind λe3=>some (e3.1,()):=mkE
def Ylx:Tb:=[(177,Yb8),(178,Ycc)]
def F125:TFun:=⟨[],[(6,qc [[.c (.p (.sl Vq1))],qn 7,[.c (.p (.sl Vq1))],qi,qi,qn 22])],[.c (.sl Vq1)],[.c (.p di)],qc [qn 2,qi,qn 30],[],[],0⟩
def Z4z:=mkC Ylx prog 125 F125
theorem Yly:Z4z.ok prog 125:=mkO ⟨Yx4,Ys7,trivial⟩
def Zci(a0:(List Vy1)):Option (Int×Unit):=Z4z.fn (a0,())
def Zcy(n:Nat)(x0 x1:(List Vy1))(x2 x3:Int):Option (Int×Unit):=itr Ylx prog 125 F125 n 6 (x0,x1,x2,x3,())
theorem Zzu a0:Eq (Zci a0)<|bif ofNat a0.length>4000 then some (4,())else Zcy fuel a0 a0 (ofNat a0.length) 0:=mkE
theorem Zla n x0 x1 x2 x3:Eq (Zcy (n+1) x0 x1 x2 x3)<|bif x3<x2 then ix x1 x3 λe0=>(Zk7 e0).bind λe1=>bif !e1.1 then some (8,())else let k1:=Zcy n x0 x1 x2 (wrap .i64 (x3+1));bif x3>0 then ix x0 (wrap .i64 (x3-1)) λe2=>(Zg2 e2 e0).bind λe3=>bif e3.1>=0 then some (8,())else k1 else k1 else some (0,()):=mkI
def Zjq:Tb:=[(123,Yb5),(124,Yb6),(120,Z4x),(125,Z4z),(126,Yb7),(127,Yb4),(87,Zg1)]
def F66:TFun:=⟨[1,3,4,5,6,13,21,29,37,45,50],[(1,qc [qn 1,[.boxN 59 9 [.p (.int .u8),.p di,.p di,.p (.sl Vq6),.p (.sl Vq10),.p (.sl Vq1),.p (.sl Vq7),.p (.sl Vq3),.p (.sl Vq8)]],qn 1,qi,qi,qb,qb,qb,qb,qn 193]),(3,qc [qn 1,[.boxN 59 9 Ylq],qn 1,qi,qi,qb,qb,qb,qb,qb,qn 192]),(4,qc [qn 1,[.boxN 59 9 Ylq],qn 7,qb,qb,qn 191]),(5,qc [qn 1,[.boxN 59 9 Ylr],qn 200]),(6,qc [qn 1,[.boxN 59 9 Ylr],qn 118,qb,qn 81]),(13,qc [qn 1,[.boxN 59 9 [.p (.int .u8),.any,.any,.any,.any,.p (.sl Vq1),.p (.sl Vq7),.p (.sl Vq3),.p (.sl Vq8)]],qn 9,qb,qn 110,[.c (.p (.sl Vq10))],qi,qi,qn 77]),(21,qc [qn 1,[.boxN 59 9 [.p (.int .u8),.any,.any,.any,.any,.p (.sl Vq1),.any,.p (.sl Vq3),.p (.sl Vq8)]],qn 9,qb,qn 123,[.c (.p (.sl Vq7))],qi,qi,qn 64]),(29,qc [qn 1,[.boxN 59 9 [.p (.int .u8),.any,.any,.any,.any,.p (.sl Vq1),.any,.any,.p (.sl Vq8)]],qn 9,qb,qn 137,[.c (.p (.sl Vq3))],qi,qi,qn 50]),(37,qc [qn 1,[.boxN 59 9 [.p (.int .u8),.any,.any,.any,.any,.p (.sl Vq1),.any,.any,.any]],qn 9,qb,qn 152,[.c (.p (.sl Vq8))],qi,qi,qn 35]),(45,qc [qn 1,[.boxN 59 9 [.p (.int .u8),.any,.any,.any,.any,.any,.any,.any,.any]],qn 9,qb,qn 167,[.c (.p (.sl Vq1))],qi,qi,qn 20]),(50,qn 202)],[.a Vq2],[.c (.p di)],qc [qn 2,qi,qn 199],[],[],0⟩
def Zoa:=mkC Zjq prog 66 F66
theorem ok66:Zoa.ok prog 66:=mkO ⟨Yx1,Yx2,Ys6,Yly,Yx3,Yx0,ok87,trivial⟩
def Yt(a0:Vy3):Option (Int×Unit):=Zoa.fn (a0,())
def Zob(n:Nat)(x0 x1 x2:Int)(x3:(List Vy1))(x4:Vy7)(x5:(List Vy1))(x6:(List Vy5))(x7:(List Vy2))(x8:Vy6)(x9 x10:Int)(x11 x12 x13 x14:Bool):Option (Int×Unit):=itr Zjq prog 66 F66 n 1 (x0,x1,x2,x3,x4,x5,x6,x7,x8,x9,x10,x11,x12,x13,x14,())
def Zeb(n:Nat)(x0:Int)(x1:(List Vy1))(x2:Vy7)(x3:(List Vy1))(x4:(List Vy5))(x5:(List Vy2))(x6:Vy6)(x7 x8:Int)(x9 x10 x11 x12 x13:Bool):Option (Int×Unit):=itr Zjq prog 66 F66 n 3 (x0,x1,x2,x3,x4,x5,x6,x7,x8,x9,x10,x11,x12,x13,())
def Zec(n:Nat)(x0:Int)(x1:(List Vy1))(x2:Vy7)(x3:(List Vy1))(x4:(List Vy5))(x5:(List Vy2))(x6:Vy6)(x7 x8:Bool):Option (Int×Unit):=itr Zjq prog 66 F66 n 4 (x0,x1,x2,x3,x4,x5,x6,x7,x8,())
def Zoc(n:Nat)(x0:Int)(x1:Vy7)(x2:(List Vy1))(x3:(List Vy5))(x4:(List Vy2))(x5:Vy6):Option (Int×Unit):=itr Zjq prog 66 F66 n 5 (x0,x1,x2,x3,x4,x5,())
def Zed(n:Nat)(x0:Int)(x1:Vy7)(x2:(List Vy1))(x3:(List Vy5))(x4:(List Vy2))(x5:Vy6)(x6:Bool):Option (Int×Unit):=itr Zjq prog 66 F66 n 6 (x0,x1,x2,x3,x4,x5,x6,())
def Qy(n:Nat)(x0:Int)(x1:(List Vy1))(x2:(List Vy5))(x3:(List Vy2))(x4:Vy6)(x5:Bool)(x6:Vy7)(x7 x8:Int):Option (Int×Unit):=itr Zjq prog 66 F66 n 13 (x0,x1,x2,x3,x4,x5,x6,x7,x8,())
def Qz(n:Nat)(x0:Int)(x1:(List Vy1))(x2:(List Vy2))(x3:Vy6)(x4:Bool)(x5:(List Vy5))(x6 x7:Int):Option (Int×Unit):=itr Zjq prog 66 F66 n 21 (x0,x1,x2,x3,x4,x5,x6,x7,())
def Q0(n:Nat)(x0:Int)(x1:(List Vy1))(x2:Vy6)(x3:Bool)(x4:(List Vy2))(x5 x6:Int):Option (Int×Unit):=itr Zjq prog 66 F66 n 29 (x0,x1,x2,x3,x4,x5,x6,())
def Q3(n:Nat)(x0:Int)(x1:(List Vy1))(x2:Bool)(x3:Vy6)(x4 x5:Int):Option (Int×Unit):=itr Zjq prog 66 F66 n 37 (x0,x1,x2,x3,x4,x5,())
def X6(n:Nat)(x0:Int)(x1:Bool)(x2:(List Vy1))(x3 x4:Int):Option (Int×Unit):=itr Zjq prog 66 F66 n 45 (x0,x1,x2,x3,x4,())
def Zlb(n:Nat):Option (Int×Unit):=itr Zjq prog 66 F66 n 50 ()
theorem Z40 a0:Eq (Yt a0)<|(Zk5 a0.1).bind λe0=>Zob fuel a0.1 a0.2.1 a0.2.2.1 a0.2.2.2.1 a0.2.2.2.2.1 a0.2.2.2.2.2.1 a0.2.2.2.2.2.2.1 a0.2.2.2.2.2.2.2.1 a0.2.2.2.2.2.2.2.2.1 e0.1 e0.2.1 e0.2.2.1 e0.2.2.2.1 e0.2.2.2.2.1 e0.2.2.2.2.2.1:=mkE
theorem Zzv n x0 x1 x2 x3 x4 x5 x6 x7 x8 x9 x10 x11 x12 x13 x14:Eq (Zob (n+1) x0 x1 x2 x3 x4 x5 x6 x7 x8 x9 x10 x11 x12 x13 x14)<|let k1:=Zeb n x0 x3 x4 x5 x6 x7 x8 x9 x10 x11 x12 x13 x14 false;bif x2>=0 then bif x2<20 then bif x1>=0 then Zeb n x0 x3 x4 x5 x6 x7 x8 x9 x10 x11 x12 x13 x14 (decide (x1<4))else k1 else k1 else k1:=mkI
theorem Zzw n x0 x1 x2 x3 x4 x5 x6 x7 x8 x9 x10 x11 x12 x13:Eq (Zeb (n+1) x0 x1 x2 x3 x4 x5 x6 x7 x8 x9 x10 x11 x12 x13)<|let k1:=Zec n x0 x1 x2 x3 x4 x5 x6 x13 false;bif ofNat x1.length<=4000 then bif ofNat x2.length>=x7 then bif ofNat x2.length<=x8 then(Zdu x9 4000).bind λe0=>bif ofNat x3.length<=e0.1 then(Zdu x10 60).bind λe1=>bif ofNat x4.length<=e1.1 then(Zdu x11 4000).bind λe2=>bif ofNat x5.length<=e2.1 then(Zdu x12 4000).bind λe3=>Zec n x0 x1 x2 x3 x4 x5 x6 x13 (decide (ofNat x6.length<=e3.1))else k1 else k1 else k1 else k1 else k1 else k1:=mkI
theorem Zzx n x0 x1 x2 x3 x4 x5 x6 x7 x8:Eq (Zec (n+1) x0 x1 x2 x3 x4 x5 x6 x7 x8)<|let k1:=Zed n x0 x2 x3 x4 x5 x6 true;bif !x7 then k1 else bif !x8 then k1 else(Zi1 x1).bind λe0=>bif !e0.1 then k1 else(Zci x3).bind λe1=>Zed n x0 x2 x3 x4 x5 x6 (e1.1 !=0):=mkI
theorem Zzy n x0 x1 x2 x3 x4 x5:Eq (Zoc (n+1) x0 x1 x2 x3 x4 x5)<|Qy n x0 x2 x3 x4 x5 true x1 (ofNat x1.length) 0:=mkI
theorem Zzz n x0 x1 x2 x3 x4 x5 x6:Eq (Zed (n+1) x0 x1 x2 x3 x4 x5 x6)<|bif x6 then some (8,())else Zoc n x0 x1 x2 x3 x4 x5:=mkI
theorem Zlc n x0 x1 x2 x3 x4 x5 x6 x7 x8:Eq (Qy (n+1) x0 x1 x2 x3 x4 x5 x6 x7 x8)<|bif x8<x7 then ix x6 x8 λe0=>bif x5 then(Zk6 e0.1).bind λe1=>Qy n x0 x1 x2 x3 x4 e1.1 x6 x7 (wrap .i64 (x8+1))else Qy n x0 x1 x2 x3 x4 false x6 x7 (wrap .i64 (x8+1))else Qz n x0 x1 x3 x4 x5 x2 (ofNat x2.length) 0:=mkI
theorem Zld n x0 x1 x2 x3 x4 x5 x6 x7:Eq (Qz (n+1) x0 x1 x2 x3 x4 x5 x6 x7)<|bif x7<x6 then ix x5 x7 λe0=>bif x4 then(Zhq e0).bind λe1=>Qz n x0 x1 x2 x3 (e1.1==0) x5 x6 (wrap .i64 (x7+1))else Qz n x0 x1 x2 x3 false x5 x6 (wrap .i64 (x7+1))else Q0 n x0 x1 x3 x4 x2 (ofNat x2.length) 0:=mkI
theorem Zle n x0 x1 x2 x3 x4 x5 x6:Eq (Q0 (n+1) x0 x1 x2 x3 x4 x5 x6)<|bif x6<x5 then ix x4 x6 λe0=>bif x3 then(Zr (3,0,0,0,0,e0)).bind λe1=>Q0 n x0 x1 x2 (e1.1==0) x4 x5 (wrap .i64 (x6+1))else Q0 n x0 x1 x2 false x4 x5 (wrap .i64 (x6+1))else Q3 n x0 x1 x3 x2 (ofNat x2.length) 0:=mkI
theorem Zlf n x0 x1 x2 x3 x4 x5:Eq (Q3 (n+1) x0 x1 x2 x3 x4 x5)<|bif x5<x4 then ix x3 x5 λe0=>bif x2 then(Zr (4,e0.1,e0.2.1,e0.2.2.1,0,0,0,0,0,0,())).bind λe1=>Q3 n x0 x1 (e1.1==0) x3 x4 (wrap .i64 (x5+1))else Q3 n x0 x1 false x3 x4 (wrap .i64 (x5+1))else X6 n x0 x2 x1 (ofNat x1.length) 0:=mkI
theorem Zlg n x0 x1 x2 x3 x4:Eq (X6 (n+1) x0 x1 x2 x3 x4)<|bif x4<x3 then ix x2 x4 λe0=>bif x1 then bif x0 !=4 then X6 n x0 true x2 x3 (wrap .i64 (x4+1))else X6 n x0 (e0.2.2.2.2.2.2.2.1==0) x2 x3 (wrap .i64 (x4+1))else X6 n x0 false x2 x3 (wrap .i64 (x4+1))else bif !x1 then some (8,())else Zlb n:=mkI
theorem Zw5 n  : Eq (Zlb (n+1) )<|some (0,()):=mkI
end
end Tg
