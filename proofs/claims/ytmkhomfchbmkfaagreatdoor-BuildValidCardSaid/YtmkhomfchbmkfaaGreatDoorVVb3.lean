import Derived.Test.YtmkhomfchbmkfaaGreatDoorVVT
/- Functions of the code, told plainly and checked by the kernel. -/
set_option linter.unusedVariables false
set_option linter.unusedSimpArgs false
set_option maxRecDepth 100000
namespace Tg
noncomputable section
open Go.Abs hiding fuel
open Go.Proofs.Tryz (prog)
open Int (ofNat toNat)
open Go.IntKind (wrap)
def Yrp:Tb:=[]
def F100:TFun:=⟨[],[],[.c di],[.c (.p db)],qc [qn 2,qb,qn 6],[],[],0⟩
def Zwe:=mkC Yrp prog 100 F100
theorem Yix:Zwe.ok prog 100:=mkO trivial
def Zbp (a0:Int):Option (Bool×Unit):=Zwe.fn (a0,())
theorem Zr1 a0:Eq (Zbp a0) <| bif a0>=(-1099511627776) then some (decide (a0<=1099511627776),()) else some (false,()):=mkE
def Yrq:Tb:=[(100,Zwe)]
def F101:TFun:=⟨[],[],[.c di],[.c (.p db)],qc [qn 2,qb,qn 6],[],[],0⟩
def Z3u:=mkC Yrq prog 101 F101
theorem Ypm:Z3u.ok prog 101:=mkO ⟨Yix,trivial⟩
def Zdl (a0:Int):Option (Bool×Unit):=Z3u.fn (a0,())
theorem Zr2 a0:Eq (Zdl a0) <| (Zbp a0).bind fun e0=>bif e0.1 then some (true,()) else some (a0==9223372036854775807,()):=mkE
def Yiy:Tb:=[(100,Zwe),(101,Z3u)]
def F75:TFun:=⟨[5,3],[(3,qc [qn 1,[.boxN 143 10 [.p (.int .u8),.p di,.p di,.p di,.p di,.p di,.p di,.p di,.p di,.p di]],qn 1,qb,[.boxN 143 10 [.p (.int .u8),.p di,.p di,.p di,.p di,.p di,.p di,.p di,.p di,.p di]],qn 54]),(5,qc [qn 1,[.boxN 143 10 [.p (.int .u8),.p di,.p di,.p di,.p di,.p di,.p di,.p di,.p di,.p di]],qn 1,qb,[.boxN 143 10 [.p (.int .u8),.p di,.p di,.p di,.p di,.p di,.p di,.p di,.p di,.p di]],qn 5,[.c (.p (.int .u8))],qb,qn 47])],[.a Vq7],[.c (.p di)],qc [qn 2,qi,qn 56],[],[],0⟩
def Z1y:=mkC Yiy prog 75 F75
theorem ok75:Z1y.ok prog 75:=mkO ⟨Yix,Ypm,trivial⟩
def Zac (a0:Vy4):Option (Int×Unit):=Z1y.fn (a0,())
def Qg (n:Nat)(x0 x1 x2 x3 x4 x5 x6 x7 x8 x9:Int)(x10:Bool)(x11 x12 x13 x14 x15 x16 x17 x18 x19 x20:Int):Option (Int×Unit):=itr Yiy prog 75 F75 n 3 (x0,x1,x2,x3,x4,x5,x6,x7,x8,x9,x10,x11,x12,x13,x14,x15,x16,x17,x18,x19,x20,())
def Zem (n:Nat)(x0 x1 x2 x3 x4 x5 x6 x7 x8 x9:Int)(x10:Bool)(x11 x12 x13 x14 x15 x16 x17 x18 x19 x20 x21:Int)(x22:Bool):Option (Int×Unit):=itr Yiy prog 75 F75 n 5 (x0,x1,x2,x3,x4,x5,x6,x7,x8,x9,x10,x11,x12,x13,x14,x15,x16,x17,x18,x19,x20,x21,x22,())
theorem Zti a0:Eq (Zac a0) <| bif a0.1==1 then Zem fuel a0.1 a0.2.1 a0.2.2.1 a0.2.2.2.1 a0.2.2.2.2.1 a0.2.2.2.2.2.1 a0.2.2.2.2.2.2.1 a0.2.2.2.2.2.2.2.1 a0.2.2.2.2.2.2.2.2.1 a0.2.2.2.2.2.2.2.2.2.1 false a0.1 0 0 0 0 0 0 0 0 0 a0.1 true else Zem fuel a0.1 a0.2.1 a0.2.2.1 a0.2.2.2.1 a0.2.2.2.2.1 a0.2.2.2.2.2.1 a0.2.2.2.2.2.2.1 a0.2.2.2.2.2.2.2.1 a0.2.2.2.2.2.2.2.2.1 a0.2.2.2.2.2.2.2.2.2.1 false a0.1 0 0 0 0 0 0 0 0 0 a0.1 (a0.1==4):=mkE
theorem Zr3 n x0 x1 x2 x3 x4 x5 x6 x7 x8 x9 x10 x11 x12 x13 x14 x15 x16 x17 x18 x19 x20:Eq (Qg (n+1) x0 x1 x2 x3 x4 x5 x6 x7 x8 x9 x10 x11 x12 x13 x14 x15 x16 x17 x18 x19 x20) <| bif !x10 then some (8,()) else bif !(x0==x11&&(x1==x12&&(x2==x13&&(x3==x14&&(x4==x15&&(x5==x16&&(x6==x17&&(x7==x18&&(x8==x19&&(x9==x20&&true)))))))))) then some (8,()) else some (0,()):=mkI
theorem Zr4 n x0 x1 x2 x3 x4 x5 x6 x7 x8 x9 x10 x11 x12 x13 x14 x15 x16 x17 x18 x19 x20 x21 x22:Eq (Zem (n+1) x0 x1 x2 x3 x4 x5 x6 x7 x8 x9 x10 x11 x12 x13 x14 x15 x16 x17 x18 x19 x20 x21 x22) <| bif x22 then (Zbp x2).bind fun e0=>Qg n x0 x1 x2 x3 x4 x5 x6 x7 x8 x9 e0.1 x11 x1 x2 x3 x15 x16 x17 x18 x19 x20 else bif x21==2 then (Zdl x4).bind fun e0=>Qg n x0 x1 x2 x3 x4 x5 x6 x7 x8 x9 e0.1 x11 x12 x13 x14 x4 x16 x17 x18 x19 x20 else bif x21==3 then let k1:=Qg n x0 x1 x2 x3 x4 x5 x6 x7 x8 x9 false x11 x12 x13 x14 x15 x5 x6 x7 x8 x9;bif (-2199023255552)<=x6 then bif x6<x7 then Qg n x0 x1 x2 x3 x4 x5 x6 x7 x8 x9 (decide (x7<=2199023255552)) x11 x12 x13 x14 x15 x5 x6 x7 x8 x9 else k1 else k1 else Qg n x0 x1 x2 x3 x4 x5 x6 x7 x8 x9 x10 x11 x12 x13 x14 x15 x16 x17 x18 x19 x20:=mkI
def Ypn:Tb:=[(75,Z1y)]
def F47:TFun:=⟨[],[(6,qc [qn 23,[.c (.p (.sl Vq7))],qi,qi,qn 9])],[.a [.int .i64,.sl Vq7]],[.c (.p di)],qc [qn 2,qi,qn 32],[],[],0⟩
def Ydw:=mkC Ypn prog 47 F47
theorem ok47:Ydw.ok prog 47:=mkO ⟨ok75,trivial⟩
def X9 (a0:(Int×List Vy4×Unit)):Option (Int×Unit):=Ydw.fn (a0,())
def Zb2 (n:Nat)(x0:(List Vy4))(x1 x2:Int):Option (Int×Unit):=itr Ypn prog 47 F47 n 6 (x0,x1,x2,())
theorem Ztj a0:Eq (X9 a0) <| bif a0.1<1 then some (8,()) else bif a0.1>8 then some (8,()) else bif ofNat a0.2.1.length>a0.1 then some (8,()) else Zb2 fuel a0.2.1 (ofNat a0.2.1.length) 0:=mkE
theorem Zip n x0 x1 x2:Eq (Zb2 (n+1) x0 x1 x2) <| bif x2<x1 then ix x0 x2 fun e0=>(Zac e0).bind fun e1=>bif e1.1 !=0 then some (e1.1,()) else Zb2 n x0 x1 (wrap .i64 (x2+1)) else some (0,()):=mkI
def Yt5:Tb:=[(101,Z3u),(100,Zwe)]
def F95:TFun:=⟨[],[],[.a Vq5],[.a [.p (.int .u8),.p di,.p di,.p di,.p di,.p di,.p di,.p di,.p di,.p di],.c (.p di)],qc [qn 2,[.boxN 143 10 [.p (.int .u8),.p di,.p di,.p di,.p di,.p di,.p di,.p di,.p di,.p di]],qi,qn 30],[],[],0⟩
def Yiz:=mkC Yt5 prog 95 F95
theorem ok95:Yiz.ok prog 95:=mkO ⟨Ypm,Yix,trivial⟩
def Zwf (a0:Vy5):Option (Vy4×Int×Unit):=Yiz.fn (a0,())
theorem Z3v a0:Eq (Zwf a0) <| let k1:Option (Vy4×Int×Unit):=some (((0,0,0,0,0,0,0,0,0,0,()),8,()));bif a0.1 then (Zdl a0.2.1).bind fun e0=>bif !e0.1 then k1 else bif !(a0.2.2.1==0&&(a0.2.2.2.1==0&&(a0.2.2.2.2.1==0&&true))) then k1 else some (((2,0,0,0,a0.2.1,0,0,0,0,0,()),0,())) else bif a0.2.1 !=0 then k1 else (Zbp a0.2.2.2.1).bind fun e0=>bif !e0.1 then k1 else some (((1,a0.2.2.1,a0.2.2.2.1,a0.2.2.2.2.1,0,0,0,0,0,0,()),0,())):=mkE
def Yt6:Tb:=[(95,Yiz)]
def F65:TFun:=⟨[],[],[.a Vq5],[.c (.p di)],qc [qn 2,qi,qn 8],[],[],0⟩
def Ydx:=mkC Yt6 prog 65 F65
theorem ok65:Ydx.ok prog 65:=mkO ⟨ok95,trivial⟩
def Zcb (a0:Vy5):Option (Int×Unit):=Ydx.fn (a0,())
theorem Ztk a0:Eq (Zcb a0) <| (Zwf a0).bind fun e0=>some (e0.2.1,()):=mkE
def Yrr:Tb:=[]
def F102:TFun:=⟨[],[],[.c (.int .u8)],[.c (.p di),.c (.p di),.c (.p db),.c (.p db),.c (.p db),.c (.p db)],qc [qn 2,qi,qi,qb,qb,qb,qb,qn 15],[],[],0⟩
def Yab:=mkC Yrr prog 102 F102
theorem Yt7:Yab.ok prog 102:=mkO trivial
def Zly (a0:Int):Option (Int×Int×Bool×Bool×Bool×Bool×Unit):=Yab.fn (a0,())
theorem Zyn a0:Eq (Zly a0) <| bif a0==1 then some (0,0,false,true,false,false,()) else bif a0==2 then some (1,1,false,false,false,false,()) else bif a0==3 then some (0,0,false,false,false,false,()) else bif a0==4 then some (1,4,true,false,false,false,()) else bif a0==5 then some (2,2,true,false,false,false,()) else bif a0==6 then some (0,0,false,false,true,false,()) else bif a0==7 then some (0,0,false,false,false,true,()) else some (1,0,false,false,false,false,()):=mkE
def Yrs:Tb:=[]
def F103:TFun:=⟨[],[],[.c db,.c di],[.c (.p di)],qc [qn 4,qi,qn 2],[],[],0⟩
def Yac:=mkC Yrs prog 103 F103
theorem Yt8:Yac.ok prog 103:=mkO trivial
def Zen (a0:Bool)(a1:Int):Option (Int×Unit):=Yac.fn (a0,a1,())
theorem Zs8 a0 a1:Eq (Zen a0 a1) <| bif a0 then some (a1,()) else some (0,()):=mkE
def Yi0:Tb:=[(75,Z1y)]
def F104:TFun:=⟨[],[(3,qc [qn 5,[.c (.p (.sl Vq3))],qi,qi,qn 18])],[.c (.sl Vq3)],[.c (.p db)],qc [qn 2,qb,qn 23],[],[],0⟩
def Yad:=mkC Yi0 prog 104 F104
theorem Yt9:Yad.ok prog 104:=mkO ⟨ok75,trivial⟩
def Zpk (a0:(List Vy1)):Option (Bool×Unit):=Yad.fn (a0,())
def Zet (n:Nat)(x0:(List Vy1))(x1 x2:Int):Option (Bool×Unit):=itr Yi0 prog 104 F104 n 3 (x0,x1,x2,())
theorem Z3w a0:Eq (Zpk a0) <| Zet fuel a0 (ofNat a0.length) 0:=mkE
theorem Zov n x0 x1 x2:Eq (Zet (n+1) x0 x1 x2) <| bif x2<x1 then ix x0 x2 fun e0=>bif e0.1<0 then some (false,()) else bif e0.1>=3 then some (false,()) else (Zac e0.2).bind fun e1=>bif e1.1 !=0 then some (false,()) else Zet n x0 x1 (wrap .i64 (x2+1)) else some (true,()):=mkI
def Yrt:Tb:=[(75,Z1y)]
def F106:TFun:=⟨[],[],[.c di],[.c (.p db)],qc [qn 2,qb,qn 8],[],[],0⟩
def Yae:=mkC Yrt prog 106 F106
theorem Yua:Yae.ok prog 106:=mkO ⟨ok75,trivial⟩
def Zlz (a0:Int):Option (Bool×Unit):=Yae.fn (a0,())
theorem Zyo a0:Eq (Zlz a0) <| bif a0==(-9223372036854775808) then some (true,()) else (Zac (2,0,0,0,a0,0,0,0,0,0,())).bind fun e0=>some (e0.1==0,()):=mkE
def Yru:Tb:=[]
def F169:TFun:=⟨[],[],[.a [.int .i64,.int .i64,.int .i64,.int .i64]],[.c (.p di)],qc [qn 2,qi,qn 40],[],[],0⟩
def Yaf:=mkC Yru prog 169 F169
theorem Yub:Yaf.ok prog 169:=mkO trivial
def Zfy (a0:(Int×Int×Int×Int×Unit)):Option (Int×Unit):=Yaf.fn (a0,())
theorem Zwg a0:Eq (Zfy a0) <| let k1:Option (Int×Unit):=some (8,());bif a0.1==0 then bif !(a0.1==0&&(a0.2.1==0&&(a0.2.2.1==0&&(a0.2.2.2.1==0&&true)))) then k1 else some (0,()) else bif a0.1==1 then bif a0.2.1==a0.2.2.1 then bif !a0.2.1==a0.2.2.2.1 then k1 else some (0,()) else k1 else bif a0.1>1 then bif a0.1<=1073741824 then bif !decide (a0.2.2.1<=a0.2.2.2.1) then k1 else some (0,()) else k1 else k1:=mkE
def Yrv:Tb:=[(169,Yaf)]
def F141:TFun:=⟨[],[],[.a Vq1],[.c (.p db)],qc [qn 2,qb,qn 43],[],[],0⟩
def Yag:=mkC Yrv prog 141 F141
theorem Yuc:Yag.ok prog 141:=mkO ⟨Yub,trivial⟩
def Zl0 (a0:Vy1):Option (Bool×Unit):=Yag.fn (a0,())
theorem Zyp a0:Eq (Zl0 a0) <| let k1:=some (false,());bif a0.2.1<(-1100585369600) then k1 else bif a0.2.2.1<=a0.2.1 then k1 else bif a0.2.2.1>1100585369600 then k1 else (Zfy (a0.2.2.2.1,a0.2.2.2.2.1,a0.2.2.2.2.2.1,a0.2.2.2.2.2.2.1,())).bind fun e0=>bif e0.1==0 then (Zfy a0.2.2.2.2.2.2.2).bind fun e1=>bif e1.1==0 then some ((decide (wrap .i64 (a0.2.2.2.1+a0.2.2.2.2.2.2.2.1)>0),())) else k1 else k1:=mkE
def Yrw:Tb:=[]
def F208:TFun:=⟨[],[],[.c di],[.c (.p db)],qc [qn 2,qb,qn 3],[],[],0⟩
def Yah:=mkC Yrw prog 208 F208
theorem Yud:Yah.ok prog 208:=mkO trivial
def Zeo (a0:Int):Option (Bool×Unit):=Yah.fn (a0,())
theorem Zpl a0:Eq (Zeo a0) <| some (a0 !=a0,()):=mkE
def Yrx:Tb:=[(208,Yah)]
def F171:TFun:=⟨[],[],[.c di,.c di],[.c (.p di)],qc [qn 4,qi,qn 15],[],[],0⟩
def Yai:=mkC Yrx prog 171 F171
theorem Yue:Yai.ok prog 171:=mkO ⟨Yud,trivial⟩
def Ql (a0 a1:Int):Option (Int×Unit):=Yai.fn (a0,a1,())
theorem Zl1 a0 a1:Eq (Ql a0 a1) <| (Zeo a0).bind fun e0=>(Zeo a1).bind fun e1=>bif e0.1 then bif e1.1 then some (0,()) else some ((-1),()) else bif e1.1 then some (1,()) else bif a0<a1 then some ((-1),()) else bif a0>a1 then some (1,()) else some (0,()):=mkE
def Yi1:Tb:=[]
def F170:TFun:=⟨[],[(4,qc [qn 3,qi,qn 2,[.c (.p (.sl Vq11))],qi,qi,qn 9])],[.c (.sl Vq11)],[.c (.p di)],qc [qn 2,qi,qn 15],[],[],0⟩
def Yaj:=mkC Yi1 prog 170 F170
theorem Yuf:Yaj.ok prog 170:=mkO trivial
def Zl2 (a0:Vy8):Option (Int×Unit):=Yaj.fn (a0,())
def Zdm (n:Nat)(x0:Int)(x1:Vy8)(x2 x3:Int):Option (Int×Unit):=itr Yi1 prog 170 F170 n 4 (x0,x1,x2,x3,())
theorem Zyq a0:Eq (Zl2 a0) <| Zdm fuel 0 a0 (ofNat a0.length) 0:=mkE
theorem Zwh n x0 x1 x2 x3:Eq (Zdm (n+1) x0 x1 x2 x3) <| bif x3<x2 then ix x1 x3 fun e0=>bif e0.1 !=x0 then some (e0.1,()) else Zdm n x0 x1 x2 (wrap .i64 (x3+1)) else some (x0,()):=mkI
def Yry:Tb:=[(171,Yai),(170,Yaj)]
def F142:TFun:=⟨[],[],[.a Vq1,.a Vq1],[.c (.p di)],qc [qn 4,qi,qn 21],[],[],0⟩
def Yak:=mkC Yry prog 142 F142
theorem Yug:Yak.ok prog 142:=mkO ⟨Yue,Yuf,trivial⟩
def Zl3 (a0 a1:Vy1):Option (Int×Unit):=Yak.fn (a0,a1,())
theorem Zyr a0 a1:Eq (Zl3 a0 a1) <| (Ql a0.2.2.1 a1.2.2.1).bind fun e0=>(Ql a0.2.1 a1.2.1).bind fun e1=>(Ql a0.1 a1.1).bind fun e2=>(Zl2 [(e0.1,()),(e1.1,()),(e2.1,())]).bind fun e3=>some (e3.1,()):=mkE
def Yi2:Tb:=[(141,Yag),(142,Yak)]
def F105:TFun:=⟨[],[(6,qc [[.c (.p (.sl Vq1))],qn 7,[.c (.p (.sl Vq1))],qi,qi,qn 22])],[.c (.sl Vq1)],[.c (.p di)],qc [qn 2,qi,qn 30],[],[],0⟩
def Yal:=mkC Yi2 prog 105 F105
theorem Yuh:Yal.ok prog 105:=mkO ⟨Yuc,Yug,trivial⟩
def Zl4 (a0:(List Vy1)):Option (Int×Unit):=Yal.fn (a0,())
def Zdn (n:Nat)(x0 x1:(List Vy1))(x2 x3:Int):Option (Int×Unit):=itr Yi2 prog 105 F105 n 6 (x0,x1,x2,x3,())
theorem Zys a0:Eq (Zl4 a0) <| bif ofNat a0.length>4000 then some (4,()) else Zdn fuel a0 a0 (ofNat a0.length) 0:=mkE
theorem Zl5 n x0 x1 x2 x3:Eq (Zdn (n+1) x0 x1 x2 x3) <| bif x3<x2 then ix x1 x3 fun e0=>(Zl0 e0).bind fun e1=>bif !e1.1 then some (8,()) else let k1:=Zdn n x0 x1 x2 (wrap .i64 (x3+1));bif x3>0 then ix x0 (wrap .i64 (x3 - 1)) fun e2=>(Zl3 e2 e0).bind fun e3=>bif e3.1>=0 then some (8,()) else k1 else k1 else some (0,()):=mkI
def Zkd:Tb:=[(102,Yab),(103,Yac),(104,Yad),(105,Yal),(106,Yae),(65,Ydx),(75,Z1y)]
def F76:TFun:=⟨[1,3,4,5,6,13,21,29,37,45,50],[(1,qc [qn 1,[.boxN 69 9 [.p (.int .u8),.p di,.p di,.p (.sl Vq3),.p (.sl Vq11),.p (.sl Vq1),.p (.sl Vq5),.p (.sl Vq2),.p (.sl Vq6)]],qn 1,qi,qi,qb,qb,qb,qb,qn 193]),(3,qc [qn 1,[.boxN 69 9 [.p (.int .u8),.any,.any,.p (.sl Vq3),.p (.sl Vq11),.p (.sl Vq1),.p (.sl Vq5),.p (.sl Vq2),.p (.sl Vq6)]],qn 1,qi,qi,qb,qb,qb,qb,qb,qn 192]),(4,qc [qn 1,[.boxN 69 9 [.p (.int .u8),.any,.any,.p (.sl Vq3),.p (.sl Vq11),.p (.sl Vq1),.p (.sl Vq5),.p (.sl Vq2),.p (.sl Vq6)]],qn 7,qb,qb,qn 191]),(5,qc [qn 1,[.boxN 69 9 [.p (.int .u8),.any,.any,.any,.p (.sl Vq11),.p (.sl Vq1),.p (.sl Vq5),.p (.sl Vq2),.p (.sl Vq6)]],qn 200]),(6,qc [qn 1,[.boxN 69 9 [.p (.int .u8),.any,.any,.any,.p (.sl Vq11),.p (.sl Vq1),.p (.sl Vq5),.p (.sl Vq2),.p (.sl Vq6)]],qn 118,qb,qn 81]),(13,qc [qn 1,[.boxN 69 9 [.p (.int .u8),.any,.any,.any,.any,.p (.sl Vq1),.p (.sl Vq5),.p (.sl Vq2),.p (.sl Vq6)]],qn 9,qb,qn 110,[.c (.p (.sl Vq11))],qi,qi,qn 77]),(21,qc [qn 1,[.boxN 69 9 [.p (.int .u8),.any,.any,.any,.any,.p (.sl Vq1),.any,.p (.sl Vq2),.p (.sl Vq6)]],qn 9,qb,qn 123,[.c (.p (.sl Vq5))],qi,qi,qn 64]),(29,qc [qn 1,[.boxN 69 9 [.p (.int .u8),.any,.any,.any,.any,.p (.sl Vq1),.any,.any,.p (.sl Vq6)]],qn 9,qb,qn 137,[.c (.p (.sl Vq2))],qi,qi,qn 50]),(37,qc [qn 1,[.boxN 69 9 [.p (.int .u8),.any,.any,.any,.any,.p (.sl Vq1),.any,.any,.any]],qn 9,qb,qn 152,[.c (.p (.sl Vq6))],qi,qi,qn 35]),(45,qc [qn 1,[.boxN 69 9 [.p (.int .u8),.any,.any,.any,.any,.any,.any,.any,.any]],qn 9,qb,qn 167,[.c (.p (.sl Vq1))],qi,qi,qn 20]),(50,qn 202)],[.a Vq9],[.c (.p di)],qc [qn 2,qi,qn 199],[],[],0⟩
def Yi3:=mkC Zkd prog 76 F76
theorem ok76:Yi3.ok prog 76:=mkO ⟨Yt7,Yt8,Yt9,Yuh,Yua,ok65,ok75,trivial⟩
def Zcy (a0:Vy3):Option (Int×Unit):=Yi3.fn (a0,())
def Zow (n:Nat)(x0 x1 x2:Int)(x3:(List Vy1))(x4:Vy8)(x5:(List Vy1))(x6:(List Vy5))(x7:(List Vy2))(x8:Vy6)(x9 x10:Int)(x11 x12 x13 x14:Bool):Option (Int×Unit):=itr Zkd prog 76 F76 n 1 (x0,x1,x2,x3,x4,x5,x6,x7,x8,x9,x10,x11,x12,x13,x14,())
def Zeu (n:Nat)(x0:Int)(x1:(List Vy1))(x2:Vy8)(x3:(List Vy1))(x4:(List Vy5))(x5:(List Vy2))(x6:Vy6)(x7 x8:Int)(x9 x10 x11 x12 x13:Bool):Option (Int×Unit):=itr Zkd prog 76 F76 n 3 (x0,x1,x2,x3,x4,x5,x6,x7,x8,x9,x10,x11,x12,x13,())
def Zev (n:Nat)(x0:Int)(x1:(List Vy1))(x2:Vy8)(x3:(List Vy1))(x4:(List Vy5))(x5:(List Vy2))(x6:Vy6)(x7 x8:Bool):Option (Int×Unit):=itr Zkd prog 76 F76 n 4 (x0,x1,x2,x3,x4,x5,x6,x7,x8,())
def Zox (n:Nat)(x0:Int)(x1:Vy8)(x2:(List Vy1))(x3:(List Vy5))(x4:(List Vy2))(x5:Vy6):Option (Int×Unit):=itr Zkd prog 76 F76 n 5 (x0,x1,x2,x3,x4,x5,())
def Zew (n:Nat)(x0:Int)(x1:Vy8)(x2:(List Vy1))(x3:(List Vy5))(x4:(List Vy2))(x5:Vy6)(x6:Bool):Option (Int×Unit):=itr Zkd prog 76 F76 n 6 (x0,x1,x2,x3,x4,x5,x6,())
def Zap (n:Nat)(x0:Int)(x1:(List Vy1))(x2:(List Vy5))(x3:(List Vy2))(x4:Vy6)(x5:Bool)(x6:Vy8)(x7 x8:Int):Option (Int×Unit):=itr Zkd prog 76 F76 n 13 (x0,x1,x2,x3,x4,x5,x6,x7,x8,())
def Zaq (n:Nat)(x0:Int)(x1:(List Vy1))(x2:(List Vy2))(x3:Vy6)(x4:Bool)(x5:(List Vy5))(x6 x7:Int):Option (Int×Unit):=itr Zkd prog 76 F76 n 21 (x0,x1,x2,x3,x4,x5,x6,x7,())
def Zar (n:Nat)(x0:Int)(x1:(List Vy1))(x2:Vy6)(x3:Bool)(x4:(List Vy2))(x5 x6:Int):Option (Int×Unit):=itr Zkd prog 76 F76 n 29 (x0,x1,x2,x3,x4,x5,x6,())
def Zas (n:Nat)(x0:Int)(x1:(List Vy1))(x2:Bool)(x3:Vy6)(x4 x5:Int):Option (Int×Unit):=itr Zkd prog 76 F76 n 37 (x0,x1,x2,x3,x4,x5,())
def Qm (n:Nat)(x0:Int)(x1:Bool)(x2:(List Vy1))(x3 x4:Int):Option (Int×Unit):=itr Zkd prog 76 F76 n 45 (x0,x1,x2,x3,x4,())
def Zl6 (n:Nat):Option (Int×Unit):=itr Zkd prog 76 F76 n 50 ()
theorem Z3x a0:Eq (Zcy a0) <| (Zly a0.1).bind fun e0=>Zow fuel a0.1 a0.2.1 a0.2.2.1 a0.2.2.2.1 a0.2.2.2.2.1 a0.2.2.2.2.2.1 a0.2.2.2.2.2.2.1 a0.2.2.2.2.2.2.2.1 a0.2.2.2.2.2.2.2.2.1 e0.1 e0.2.1 e0.2.2.1 e0.2.2.2.1 e0.2.2.2.2.1 e0.2.2.2.2.2.1:=mkE
theorem Zyt n x0 x1 x2 x3 x4 x5 x6 x7 x8 x9 x10 x11 x12 x13 x14:Eq (Zow (n+1) x0 x1 x2 x3 x4 x5 x6 x7 x8 x9 x10 x11 x12 x13 x14) <| let k1:=Zeu n x0 x3 x4 x5 x6 x7 x8 x9 x10 x11 x12 x13 x14 false;bif x2>=0 then bif x2<20 then bif x1>=0 then Zeu n x0 x3 x4 x5 x6 x7 x8 x9 x10 x11 x12 x13 x14 (decide (x1<4)) else k1 else k1 else k1:=mkI
theorem Zyu n x0 x1 x2 x3 x4 x5 x6 x7 x8 x9 x10 x11 x12 x13:Eq (Zeu (n+1) x0 x1 x2 x3 x4 x5 x6 x7 x8 x9 x10 x11 x12 x13) <| let k1:=Zev n x0 x1 x2 x3 x4 x5 x6 x13 false;bif ofNat x1.length<=4000 then bif ofNat x2.length>=x7 then bif ofNat x2.length<=x8 then (Zen x9 4000).bind fun e0=>bif ofNat x3.length<=e0.1 then (Zen x10 60).bind fun e1=>bif ofNat x4.length<=e1.1 then (Zen x11 4000).bind fun e2=>bif ofNat x5.length<=e2.1 then (Zen x12 4000).bind fun e3=>Zev n x0 x1 x2 x3 x4 x5 x6 x13 (decide (ofNat x6.length<=e3.1)) else k1 else k1 else k1 else k1 else k1 else k1:=mkI
theorem Zyv n x0 x1 x2 x3 x4 x5 x6 x7 x8:Eq (Zev (n+1) x0 x1 x2 x3 x4 x5 x6 x7 x8) <| let k1:=Zew n x0 x2 x3 x4 x5 x6 true;bif !x7 then k1 else bif !x8 then k1 else (Zpk x1).bind fun e0=>bif !e0.1 then k1 else (Zl4 x3).bind fun e1=>Zew n x0 x2 x3 x4 x5 x6 (e1.1 !=0):=mkI
theorem Zyw n x0 x1 x2 x3 x4 x5:Eq (Zox (n+1) x0 x1 x2 x3 x4 x5) <| Zap n x0 x2 x3 x4 x5 true x1 (ofNat x1.length) 0:=mkI
theorem Zyx n x0 x1 x2 x3 x4 x5 x6:Eq (Zew (n+1) x0 x1 x2 x3 x4 x5 x6) <| bif x6 then some (8,()) else Zox n x0 x1 x2 x3 x4 x5:=mkI
theorem Zl7 n x0 x1 x2 x3 x4 x5 x6 x7 x8:Eq (Zap (n+1) x0 x1 x2 x3 x4 x5 x6 x7 x8) <| bif x8<x7 then ix x6 x8 fun e0=>bif x5 then (Zlz e0.1).bind fun e1=>Zap n x0 x1 x2 x3 x4 e1.1 x6 x7 (wrap .i64 (x8+1)) else Zap n x0 x1 x2 x3 x4 false x6 x7 (wrap .i64 (x8+1)) else Zaq n x0 x1 x3 x4 x5 x2 (ofNat x2.length) 0:=mkI
theorem Zl8 n x0 x1 x2 x3 x4 x5 x6 x7:Eq (Zaq (n+1) x0 x1 x2 x3 x4 x5 x6 x7) <| bif x7<x6 then ix x5 x7 fun e0=>bif x4 then (Zcb e0).bind fun e1=>Zaq n x0 x1 x2 x3 (e1.1==0) x5 x6 (wrap .i64 (x7+1)) else Zaq n x0 x1 x2 x3 false x5 x6 (wrap .i64 (x7+1)) else Zar n x0 x1 x3 x4 x2 (ofNat x2.length) 0:=mkI
theorem Zl9 n x0 x1 x2 x3 x4 x5 x6:Eq (Zar (n+1) x0 x1 x2 x3 x4 x5 x6) <| bif x6<x5 then ix x4 x6 fun e0=>bif x3 then (Zac (3,0,0,0,0,e0)).bind fun e1=>Zar n x0 x1 x2 (e1.1==0) x4 x5 (wrap .i64 (x6+1)) else Zar n x0 x1 x2 false x4 x5 (wrap .i64 (x6+1)) else Zas n x0 x1 x3 x2 (ofNat x2.length) 0:=mkI
theorem Zma n x0 x1 x2 x3 x4 x5:Eq (Zas (n+1) x0 x1 x2 x3 x4 x5) <| bif x5<x4 then ix x3 x5 fun e0=>bif x2 then (Zac (4,e0.1,e0.2.1,e0.2.2.1,0,0,0,0,0,0,())).bind fun e1=>Zas n x0 x1 (e1.1==0) x3 x4 (wrap .i64 (x5+1)) else Zas n x0 x1 false x3 x4 (wrap .i64 (x5+1)) else Qm n x0 x2 x1 (ofNat x1.length) 0:=mkI
theorem Zmb n x0 x1 x2 x3 x4:Eq (Qm (n+1) x0 x1 x2 x3 x4) <| bif x4<x3 then ix x2 x4 fun e0=>bif x1 then bif x0 !=4 then Qm n x0 true x2 x3 (wrap .i64 (x4+1)) else Qm n x0 (e0.2.2.2.2.2.2.2.1==0) x2 x3 (wrap .i64 (x4+1)) else Qm n x0 false x2 x3 (wrap .i64 (x4+1)) else bif !x1 then some (8,()) else Zl6 n:=mkI
theorem Zwi n  : Eq (Zl6 (n+1) ) <| some (0,()):=mkI
end
end Tg
