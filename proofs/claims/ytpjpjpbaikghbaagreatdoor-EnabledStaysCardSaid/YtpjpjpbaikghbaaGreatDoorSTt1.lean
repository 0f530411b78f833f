import Derived.Test.YtpjpjpbaikghbaaGreatDoorSVb3
import Derived.Test.YtpjpjpbaikghbaaGreatDoorSXb6
set_option linter.all false
/- Functions of the code, told plainly and checked by the kernel. -/
set_option maxRecDepth 100000
namespace Tg
noncomputable section
open Go.Abs hiding fuel
open Go.Proofs.Tryz (prog)
open Int (ofNat toNat)
open Go.IntKind (wrap)
abbrev Yoj:List Go.Abs.SC:=[.p (.int .u8),.p di,.p di,.p di,.p di,.p di,.p di,.p di,.p di,.p di]
def Yzw:Tb:=[(46,Z2r)]
def F42:TFun:=⟨[],[],[.a Tq14],[.a [.p (.int .u8),.p di,.p di,.p di,.p di,.p di,.p di,.p di,.p di,.p di],.a [.p di,.p (.sl Tq4)],.c (.p di)],qc [qn 2,[.boxN 108 10 Yoj],[.boxN 75 2 [.p di,.p (.sl Tq4)]],qi,qn 33],[],[],0⟩
def Yok:=mkC Yzw prog 42 F42
theorem ok42:Yok.ok prog 42:=mkO ⟨ok46,trivial⟩
def Zjg(a0:Ty9):Option (Ty4×Ty9×Int×Unit):=Yok.fn (a0,())
theorem Zyj a0:Eq (Zjg a0)<|(Yo a0).bind λe0=>bif e0.1 !=0 then some (((0,0,0,0,0,0,0,0,0,0,()),(0,[],()),e0.1,()))else bif ofNat a0.2.1.length==0 then some (((0,0,0,0,0,0,0,0,0,0,()),(0,[],()),6,()))else bif decide (toNat (ofNat a0.2.1.length)<=toNat (ofNat a0.2.1.length))&&(decide (80*toNat (ofNat a0.2.1.length)<=281474976710656)&&decide (toNat (ofNat a0.2.1.length)<=9223372036854775807))then bif 0<List.length (List.take (min a0.2.1.length (List.length (List.replicate (toNat (ofNat a0.2.1.length)) ((0,0,0,0,0,0,0,0,0,0,()):Ty4)))) a0.2.1++List.drop (min a0.2.1.length (List.length (List.replicate (toNat (ofNat a0.2.1.length)) ((0,0,0,0,0,0,0,0,0,0,()):Ty4)))) (List.replicate (toNat (ofNat a0.2.1.length)) (0,0,0,0,0,0,0,0,0,0,())))then((List.take (min a0.2.1.length (List.length (List.replicate (toNat (ofNat a0.2.1.length)) ((0,0,0,0,0,0,0,0,0,0,()):Ty4)))) a0.2.1++List.drop (min a0.2.1.length (List.length (List.replicate (toNat (ofNat a0.2.1.length)) ((0,0,0,0,0,0,0,0,0,0,()):Ty4)))) (List.replicate (toNat (ofNat a0.2.1.length)) (0,0,0,0,0,0,0,0,0,0,())))[0]?).bind λe1=>bif toNat (ofNat a0.2.1.length)=toNat (ofNat a0.2.1.length)then bif decide (1<=toNat (ofNat a0.2.1.length))&&decide (toNat (ofNat a0.2.1.length)<=List.length (List.take (min a0.2.1.length (List.length (List.replicate (toNat (ofNat a0.2.1.length)) ((0,0,0,0,0,0,0,0,0,0,()):Ty4)))) a0.2.1++List.drop (min a0.2.1.length (List.length (List.replicate (toNat (ofNat a0.2.1.length)) ((0,0,0,0,0,0,0,0,0,0,()):Ty4)))) (List.replicate (toNat (ofNat a0.2.1.length)) (0,0,0,0,0,0,0,0,0,0,()))))then bif 1=toNat (ofNat a0.2.1.length)then some ((e1,(a0.1,[],()),0,()))else some ((e1,(a0.1,List.take (toNat (ofNat a0.2.1.length)-1) (List.drop 1 (List.take (min a0.2.1.length (List.length (List.replicate (toNat (ofNat a0.2.1.length)) ((0,0,0,0,0,0,0,0,0,0,()):Ty4)))) a0.2.1++List.drop (min a0.2.1.length (List.length (List.replicate (toNat (ofNat a0.2.1.length)) ((0,0,0,0,0,0,0,0,0,0,()):Ty4)))) (List.replicate (toNat (ofNat a0.2.1.length)) (0,0,0,0,0,0,0,0,0,0,())))),()),0,()))else none else none else none else none:=mkE
def Yzx:Tb:=[(46,Z2r),(87,Zg1)]
def F58:TFun:=⟨[],[],[.a Tq14,.a Tq4],[.a [.p di,.s 108 10 Tq4],.c (.p di)],qc [qn 4,[.boxN 75 2 [.p di,.rowN 108 10 Tq4]],qi,qn 39],[],[],0⟩
def Z9m:=mkC Yzx prog 58 F58
theorem ok58:Z9m.ok prog 58:=mkO ⟨ok46,ok87,trivial⟩
def Yol:TCon:=⟨Z9m.args,[.a [.p di,.p (.sl Tq4)],.c (.p di)],Z9m.fn⟩
theorem Yzy:Yol.ok prog 58:=TCon.frz (c:=Z9m) ok58 rfl
def Zmr(a0:Ty9)(a1:Ty4):Option (Ty9×Int×Unit):=Z9m.fn (a0,a1,())
theorem Z01 a0 a1:Eq (Zmr a0 a1)<|(Yo a0).bind λe0=>bif e0.1 !=0 then some (((0,[],()),e0.1,()))else(Zr a1).bind λe1=>bif e1.1 !=0 then some (((0,[],()),e1.1,()))else bif ofNat a0.2.1.length==a0.1 then some (((0,[],()),18,()))else bif 0<=wrap .i64 (ofNat a0.2.1.length+1)then bif 0<=wrap .i64 (ofNat a0.2.1.length+1)then bif decide (toNat (wrap .i64 (ofNat a0.2.1.length+1))<=toNat (wrap .i64 (ofNat a0.2.1.length+1)))&&(decide (80*toNat (wrap .i64 (ofNat a0.2.1.length+1))<=281474976710656)&&decide (toNat (wrap .i64 (ofNat a0.2.1.length+1))<=9223372036854775807))then bif toNat (ofNat a0.2.1.length)<List.length (List.take (min a0.2.1.length (List.length (List.replicate (toNat (wrap .i64 (ofNat a0.2.1.length+1))) ((0,0,0,0,0,0,0,0,0,0,()):Ty4)))) a0.2.1++List.drop (min a0.2.1.length (List.length (List.replicate (toNat (wrap .i64 (ofNat a0.2.1.length+1))) ((0,0,0,0,0,0,0,0,0,0,()):Ty4)))) (List.replicate (toNat (wrap .i64 (ofNat a0.2.1.length+1))) (0,0,0,0,0,0,0,0,0,0,())))then((List.take (min a0.2.1.length (List.length (List.replicate (toNat (wrap .i64 (ofNat a0.2.1.length+1))) ((0,0,0,0,0,0,0,0,0,0,()):Ty4)))) a0.2.1++List.drop (min a0.2.1.length (List.length (List.replicate (toNat (wrap .i64 (ofNat a0.2.1.length+1))) ((0,0,0,0,0,0,0,0,0,0,()):Ty4)))) (List.replicate (toNat (wrap .i64 (ofNat a0.2.1.length+1))) (0,0,0,0,0,0,0,0,0,0,())))[toNat (ofNat a0.2.1.length)]?).bind λe2=>some (((a0.1,List.set (List.take (min a0.2.1.length (List.length (List.replicate (toNat (wrap .i64 (ofNat a0.2.1.length+1))) ((0,0,0,0,0,0,0,0,0,0,()):Ty4)))) a0.2.1++List.drop (min a0.2.1.length (List.length (List.replicate (toNat (wrap .i64 (ofNat a0.2.1.length+1))) ((0,0,0,0,0,0,0,0,0,0,()):Ty4)))) (List.replicate (toNat (wrap .i64 (ofNat a0.2.1.length+1))) (0,0,0,0,0,0,0,0,0,0,()))) (toNat (ofNat a0.2.1.length)) (a1.1,a1.2.1,a1.2.2.1,a1.2.2.2.1,a1.2.2.2.2.1,a1.2.2.2.2.2.1,a1.2.2.2.2.2.2.1,a1.2.2.2.2.2.2.2.1,a1.2.2.2.2.2.2.2.2.1,a1.2.2.2.2.2.2.2.2.2.1,e2.2.2.2.2.2.2.2.2.2.2),()),0,()))else none else none else none else none:=mkE
def Ywk:Tb:=[(199,Z5i)]
def F249:TFun:=⟨[],[],[.c (.sl Tq5)],[.c (.p di)],qc [qn 2,qi,qn 10],[],[],0⟩
def Ydr:=mkC Ywk prog 249 F249
theorem Yzz:Ydr.ok prog 249:=mkO ⟨Ytf,trivial⟩
def Ztm(a0:(List Ty5)):Option (Int×Unit):=Ydr.fn (a0,())
theorem Z02 a0:Eq (Ztm a0)<|(Zme a0).bind λe0=>some (e0.2.2.1,()):=mkE
def Ywl:Tb:=[]
def F282:TFun:=⟨[],[],[.c db],[.c (.p di)],qc [qn 2,qi,qn 1],[],[],0⟩
def Yds:=mkC Ywl prog 282 F282
theorem Yz0:Yds.ok prog 282:=mkO trivial
def Xl(a0:Bool):Option (Int×Unit):=Yds.fn (a0,())
theorem Z5w a0:Eq (Xl a0)<|bif a0 then some (1,())else some (0,()):=mkE
def Ywm:Tb:=[(282,Yds)]
def F250:TFun:=⟨[],[],[.c (.int .u8),.c di,.c di],[.c (.p di),.c (.p di)],qc [qn 6,qi,qi,qn 89],[],[],0⟩
def Ydt:=mkC Ywm prog 250 F250
theorem Yz1:Ydt.ok prog 250:=mkO ⟨Yz0,trivial⟩
def Z5x(a0 a1 a2:Int):Option Ty8:=Ydt.fn (a0,a1,a2,())
theorem Yiz a0 a1 a2:Eq (Z5x a0 a1 a2)<|bif a0==5 then some (wrap .i64 (0-a1),0,())else bif a0==6 then(Xl (a1==0)).bind λe0=>some (e0.1,0,())else bif a0==7 then some (wrap .i64 (a1*a2),0,())else bif a0==8 then some (wrap .i64 (a1+a2),0,())else bif a0==9 then some (wrap .i64 (a1-a2),0,())else bif a0==10 then bif Go.bits Go.BinOp.and Go.IntKind.i64 a2 (63:Int)<0 then none else some ((wrap .i64 (a1*2 ^ min (toNat (Go.bits Go.BinOp.and Go.IntKind.i64 a2 63)) 64),0,()))else bif a0==11 then bif Go.bits Go.BinOp.and Go.IntKind.i64 a2 (63:Int)<0 then none else some ((Int.fdiv a1 (2 ^ min (toNat (Go.bits Go.BinOp.and Go.IntKind.i64 a2 63)) 64),0,()))else bif a0==12 then(Xl (decide (a1<a2))).bind λe0=>some (e0.1,0,())else bif a0==13 then(Xl (decide (a1<=a2))).bind λe0=>some (e0.1,0,())else bif a0==14 then(Xl (decide (a1>a2))).bind λe0=>some (e0.1,0,())else bif a0==15 then(Xl (decide (a1>=a2))).bind λe0=>some (e0.1,0,())else bif a0==16 then(Xl (a1==a2)).bind λe0=>some (e0.1,0,())else bif a0==17 then(Xl (a1 !=a2)).bind λe0=>some (e0.1,0,())else bif a0==18 then bif a1 !=0 then(Xl (a2 !=0)).bind λe0=>some (e0.1,0,())else(Xl false).bind λe0=>some (e0.1,0,())else bif a0==19 then(Xl (Go.bits Go.BinOp.or Go.IntKind.i64 a1 a2 !=0)).bind λe0=>some (e0.1,0,())else some (0,2,()):=mkE
def Ywn:Tb:=[]
def F141:TFun:=⟨[],[],[.c di,.c di],[.c (.p di),.c (.p di)],qc [qn 4,qi,qi,qn 15],[],[],0⟩
def Ydu:=mkC Ywn prog 141 F141
theorem Yz2:Ydu.ok prog 141:=mkO trivial
def Z5y(a0 a1:Int):Option Ty8:=Ydu.fn (a0,a1,())
theorem Yi0 a0 a1:Eq (Z5y a0 a1)<|bif a1<1 then some (0,2,())else bif a1>3 then some (0,2,())else bif a1=0 then none else bif a1=0 then none else some ((Int.tmod (wrap .i64 (Int.tmod a0 a1+a1)) a1,0,())):=mkE
def Yom:Tb:=[]
def F142:TFun:=⟨[],[(4,qc [qn 2,[.boxN 108 10 Yoj],qn 2,[.c (.rowN 126 11 Tq3)],qn 2,[.c (.p (.sl Tq13))],qi,qi,qn 11])],[.a Tq4,.c (.sl Tq13)],[.c (.s 126 11 Tq3)],qc [qn 4,[.c (.rowN 126 11 Tq3)],qn 17],[],[],0⟩
def Ydv:=mkC Yom prog 142 F142
theorem Yz3:Ydv.ok prog 142:=mkO trivial
def Zuu(a0:Ty4)(a1:Ty7):Option (List Ty3×Unit):=Ydv.fn (a0,a1,())
def Zjh(n:Nat)(x0 x1 x2 x3 x4 x5 x6 x7 x8 x9:Int)(x10:(List Ty3))(x11:Ty7)(x12 x13:Int):Option (List Ty3×Unit):=itr Yom prog 142 F142 n 4 (x0,x1,x2,x3,x4,x5,x6,x7,x8,x9,x10,x11,x12,x13,())
theorem Yi1 a0 a1:Eq (Zuu a0 a1)<|Zjh fuel a0.1 a0.2.1 a0.2.2.1 a0.2.2.2.1 a0.2.2.2.2.1 a0.2.2.2.2.2.1 a0.2.2.2.2.2.2.1 a0.2.2.2.2.2.2.2.1 a0.2.2.2.2.2.2.2.2.1 a0.2.2.2.2.2.2.2.2.2.1 ([]) a1 (ofNat a1.length) 0:=mkE
theorem Zyk n x0 x1 x2 x3 x4 x5 x6 x7 x8 x9 x10 x11 x12 x13:Eq (Zjh (n+1) x0 x1 x2 x3 x4 x5 x6 x7 x8 x9 x10 x11 x12 x13)<|bif x13<x12 then ix x11 x13 λe0=>bif Ze (x10.length+List.length [(e0.1,x0,x1,x2,x3,x4,x5,x6,x7,x8,x9,())]) 88 then Zjh n x0 x1 x2 x3 x4 x5 x6 x7 x8 x9 (x10++[(e0.1,x0,x1,x2,x3,x4,x5,x6,x7,x8,x9,())]) x11 x12 (wrap .i64 (x13+1))else none else some (x10,()):=mkI
def Ywo:Tb:=[]
def F185:TFun:=⟨[],[],[.c di],[.a [.p di,.p di,.p di,.p di]],qc [qn 2,[.boxN 143 4 [.p di,.p di,.p di,.p di]],qn 4],[],[],0⟩
def Yon:=mkC Ywo prog 185 F185
theorem Yz4:Yon.ok prog 185:=mkO trivial
def Yi2(a0:Int):Option ((Int×Int×Int×Int×Unit)×Unit):=Yon.fn (a0,())
theorem Z9n a0:Eq (Yi2 a0)<|some (((1,a0,a0,a0,()),())):=mkE
def Ywp:Tb:=[(215,Zw2)]
def F254:TFun:=⟨[],[],[.a [.int .i64,.int .i64,.int .i64,.int .i64],.a [.int .i64,.int .i64,.int .i64,.int .i64]],[.a [.p di,.p di,.p di,.p di],.c (.p di)],qc [qn 4,[.boxN 143 4 [.p di,.p di,.p di,.p di]],qi,qn 47],[],[],0⟩
def Yoo:=mkC Ywp prog 254 F254
theorem Yz5:Yoo.ok prog 254:=mkO ⟨Ylv,trivial⟩
def Zms(a0 a1:(Int×Int×Int×Int×Unit)):Option ((Int×Int×Int×Int×Unit)×Int×Unit):=Yoo.fn (a0,a1,())
theorem Z03 a0 a1:Eq (Zms a0 a1)<|(Zak a0).bind λe0=>bif e0.1 !=0 then some (((0,0,0,0,()),8,()))else(Zak a1).bind λe1=>bif e1.1 !=0 then some (((0,0,0,0,()),8,()))else bif wrap .i64 (a0.1+a1.1)>1073741824 then some (((0,0,0,0,()),4,()))else bif a0.1==0 then some (a1,0,())else bif a1.1==0 then some (a0,0,())else some (((wrap .i64 (a0.1+a1.1),wrap .i64 (a0.2.1+a1.2.1),tmm false a0.2.2.1 a1.2.2.1,tmm true a0.2.2.2.1 a1.2.2.2.1,()),0,())):=mkE
def Ywq:Tb:=[(215,Zw2)]
def F194:TFun:=⟨[],[],[.c (.int .u8),.a [.int .i64,.int .i64,.int .i64,.int .i64]],[.c (.p di),.c (.p di)],qc [qn 4,qi,qi,qn 28],[],[],0⟩
def Z5z:=mkC Ywq prog 194 F194
theorem Ytt:Z5z.ok prog 194:=mkO ⟨Ylv,trivial⟩
def Zde(a0:Int)(a1:(Int×Int×Int×Int×Unit)):Option Ty8:=Z5z.fn (a0,a1,())
theorem Zyl a0 a1:Eq (Zde a0 a1)<|bif a0<1 then some (0,2,())else bif a0>4 then some (0,2,())else(Zak a1).bind λe0=>bif e0.1 !=0 then some (0,e0.1,())else bif a1.1==0 then some (0,6,())else bif 0<=a0 then bif a0.toNat=nat_lit 4 then some (a1.2.2.2.1,0,())else bif a0.toNat=nat_lit 3 then some (a1.2.2.1,0,())else bif a0.toNat=nat_lit 2 then some (a1.2.1,0,())else bif a0.toNat=nat_lit 1 then some (a1.1,0,())else bif a0.toNat=nat_lit 0 then some (0,0,())else none else none:=mkE
def Ywr:Tb:=[(87,Zg1)]
def F190:TFun:=⟨[],[],[.c di],[.c (.p db)],qc [qn 2,qb,qn 4],[],[],0⟩
def Z50:=mkC Ywr prog 190 F190
theorem Ytu:Z50.ok prog 190:=mkO ⟨ok87,trivial⟩
def Zfk(a0:Int):Option (Bool×Unit):=Z50.fn (a0,())
theorem Zym a0:Eq (Zfk a0)<|(Zr (2,0,0,0,a0,0,0,0,0,0,())).bind λe0=>some (e0.1==0,()):=mkE
def Yop:Tb:=[(190,Z50)]
def F192:TFun:=⟨[],[(6,qc [qn 13,[.c (.p (.sl Tq13))],qi,qi,qn 11])],[.c (.sl Tq13)],[.c (.p di)],qc [qn 2,qi,qn 24],[],[],0⟩
def Ydw:=mkC Yop prog 192 F192
theorem Yz6:Ydw.ok prog 192:=mkO ⟨Ytu,trivial⟩
def Zmt(a0:Ty7):Option (Int×Unit):=Ydw.fn (a0,())
def Zdf(n:Nat)(x0:Ty7)(x1 x2:Int):Option (Int×Unit):=itr Yop prog 192 F192 n 6 (x0,x1,x2,())
theorem Z04 a0:Eq (Zmt a0)<|bif ofNat a0.length==0 then some (8,())else bif ofNat a0.length>4 then some (8,())else Zdf fuel a0 (ofNat a0.length) 0:=mkE
theorem Zmu n x0 x1 x2:Eq (Zdf (n+1) x0 x1 x2)<|bif x2<x1 then ix x0 x2 λe0=>let k1:=Zdf n x0 x1 (wrap .i64 (x2+1));bif e0.1 !=(-9223372036854775808)then(Zfk e0.1).bind λe1=>bif !e1.1 then some (8,())else k1 else k1 else some (0,()):=mkI
end
end Tg

/- Functions of the code, told plainly and checked by the kernel. -/
namespace Tg
noncomputable section
open Go.Abs hiding fuel
open Go.Proofs.Tryz (prog)
open Int (ofNat toNat)
open Go.IntKind (wrap)
def Yws:Tb:=[]
def F284:TFun:=⟨[],[],[.c di,.c di],[.c (.p di)],qc [qn 4,qi,qn 12],[],[],0⟩
def Ydx:=mkC Yws prog 284 F284
theorem Yz7:Ydx.ok prog 284:=mkO trivial
def Zq0(a0 a1:Int):Option (Int×Unit):=Ydx.fn (a0,a1,())
theorem Zyn a0 a1:Eq (Zq0 a0 a1)<|bif a1<1 then some (2,())else bif a1>1073741824 then some (2,())else bif a0<(-1099511627776)then some (16,())else bif a0>1099511627776 then some (16,())else some (0,()):=mkE
def Ywt:Tb:=[(284,Ydx)]
def F255:TFun:=⟨[],[],[.c di,.c di],[.c (.p di),.c (.p di)],qc [qn 4,qi,qi,qn 18],[],[],0⟩
def Ydy:=mkC Ywt prog 255 F255
theorem Yz8:Ydy.ok prog 255:=mkO ⟨Yz7,trivial⟩
def Zoh(a0 a1:Int):Option Ty8:=Ydy.fn (a0,a1,())
theorem Zt8 a0 a1:Eq (Zoh a0 a1)<|(Zq0 a0 a1).bind λe0=>bif e0.1 !=0 then some (0,e0.1,())else bif a1=0 then none else bif a1=0 then none else bif Int.tmod a0 a1<0 then some ((wrap .i64 (wrap .i64 (Int.tdiv a0 a1)-1),0,()))else some (wrap .i64 (Int.tdiv a0 a1),0,()):=mkE
def Ywu:Tb:=[(255,Ydy)]
def F226:TFun:=⟨[],[],[.c di,.c di],[.a [.p di,.p di],.c (.p di)],qc [qn 4,[.boxN 103 2 [.p di,.p di]],qi,qn 20],[],[],0⟩
def Z51:=mkC Ywu prog 226 F226
theorem Ytv:Z51.ok prog 226:=mkO ⟨Yz8,trivial⟩
def Znq(a0 a1:Int):Option (Ty8×Int×Unit):=Z51.fn (a0,a1,())
theorem Z9o a0 a1:Eq (Znq a0 a1)<|(Zoh a0 a1).bind λe0=>bif e0.2.1 !=0 then some (((0,0,()),e0.2.1,()))else some (((wrap .i64 (e0.1*a1),wrap .i64 (wrap .i64 (e0.1+1)*a1),()),0,())):=mkE
def Z52:Tb:=[(226,Z51)]
def F227:TFun:=⟨[10],[(10,qc [qn 6,[.c (.nil)],qn 3,[.c (.rowN 103 2 Tq19)],qn 59]),(12,qc [qi,qi,qi,qn 3,[.c (.nil)],qn 3,[.c (.rowN 103 2 Tq19)],qi,qn 58]),(24,qc [[.c (.yl)],[.boxN 280 1 [.rowN 103 2 Tq19]],qn 1,qi,qn 15,[.c (.k 0)],qn 6,[.c (.nil)],qn 5,[.boxN 280 1 [.rowN 103 2 Tq19]],qn 57])],[.c di,.c di,.c di],[.c (.s 103 2 Tq19),.c (.p di)],qc [qn 6,[.c (.rowN 103 2 Tq19)],qi,qn 62],[(29,[4294967295]),(22,[285]),(19,[256])],[(24,[1,70])],8⟩
def Zyo:=mkC Z52 prog 227 F227
theorem Yz9:Zyo.ok prog 227:=mkO ⟨Ytv,trivial⟩
def Yhb:TCon:=⟨Zyo.args,[.c (.p (.sl Tq19)),.c (.p di)],Zyo.fn⟩
theorem Ywv:Yhb.ok prog 227:=TCon.frz (c:=Zyo) Yz9 rfl
def Z28(a0 a1 a2:Int):Option (List Ty8×Int×Unit):=Zyo.fn (a0,a1,a2,())
def Zoi(n:Nat)(x0:(List Ty8)):Option (List Ty8×Int×Unit):=itr Z52 prog 227 F227 n 10 (x0,())
def Zbu(n:Nat)(x0 x1 x2:Int)(x3:(List Ty8))(x4:Int):Option (List Ty8×Int×Unit):=itr Z52 prog 227 F227 n 12 (x0,x1,x2,x3,x4,())
def Zej(n:Nat)(x0:(List Ty8))(x1:Int)(x2:(List Ty8)):Option (List Ty8×Int×Unit):=itr Z52 prog 227 F227 n 24 (x0,x1,x2,())
theorem Z9p a0 a1 a2:Eq (Z28 a0 a1 a2)<|let k1:=some ([],2,());bif tmm false a1 a2<1 then k1 else bif a1>1073741824 then k1 else bif a2>a1 then k1 else bif a1>wrap .i64 (16*a2)then k1 else(Znq a0 a2).bind λe0=>bif e0.2.1 !=0 then some ([],e0.2.1,())else Zbu fuel a0 a1 a2 ([]) e0.1.1:=mkE
theorem Z05 n x0:Eq (Zoi (n+1) x0)<|Zej n x0 (wrap .i64 (ofNat x0.length-1)) ([]):=mkI
theorem Zoj n x0 x1 x2 x3 x4:Eq (Zbu (n+1) x0 x1 x2 x3 x4)<|bif wrap .i64 (x4+x1)>x0 then bif Ze (x3.length+List.length [(x4,wrap .i64 (x4+x1),())]) 16 then Zbu n x0 x1 x2 (x3++[(x4,wrap .i64 (x4+x1),())]) (wrap .i64 (x4-x2))else none else Zoi n x3:=mkI
theorem Zok n x0 x1 x2:Eq (Zej (n+1) x0 x1 x2)<|bif x1>=0 then ixb x0 x1 λe0=>bif Ze (x2.length+List.length [e0]) 16 then Zej n x0 (wrap .i64 (x1-1)) (x2++[e0])else none else some (x2,0,()):=mkI
def Yww:Tb:=[(154,Z5g),(226,Z51),(227,Yhb)]
def F188:TFun:=⟨[],[],[.a [.int .u8,.int .i64,.int .i64],.c di],[.c (.p (.sl Tq19)),.c (.p di)],qc [qn 4,[.c (.p (.sl Tq19))],qi,qn 34],[],[],0⟩
def Yoq:=mkC Yww prog 188 F188
theorem Y0a:Yoq.ok prog 188:=mkO ⟨Ymw,Ytv,Ywv,trivial⟩
def Zmv(a0:Ty10)(a1:Int):Option (List Ty8×Int×Unit):=Yoq.fn (a0,a1,())
theorem Ydz a0 a1:Eq (Zmv a0 a1)<|(Yg a0).bind λe0=>bif e0.1 !=0 then some ([],e0.1,())else bif a0.1==1 then(Znq a1 a0.2.1).bind λe1=>bif e1.2.1 !=0 then some ([],e1.2.1,())else some ([e1.1],0,())else bif a0.1==2 then(Z28 a1 a0.2.1 a0.2.2.1).bind λe1=>some e1 else some ([],2,()):=mkE
def Ywx:Tb:=[]
def F220:TFun:=⟨[],[],[.c di,.c di],[.c (.p di)],qc [qn 4,qi,qn 12],[],[],0⟩
def Yor:=mkC Ywx prog 220 F220
theorem Y0b:Yor.ok prog 220:=mkO trivial
def Xa(a0 a1:Int):Option (Int×Unit):=Yor.fn (a0,a1,())
theorem Zt9 a0 a1:Eq (Xa a0 a1)<|bif a1<1 then some (2,())else bif a1>1073741824 then some (2,())else bif a0<(-1099511627776)then some (16,())else bif a0>1099511627776 then some (16,())else some (0,()):=mkE
end
end Tg
