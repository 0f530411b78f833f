import Derived.Test.YtlnihcefchoofaaGreatDoorDVb3
import Derived.Test.YtlnihcefchoofaaGreatDoorDXb6
set_option linter.all false
set_option maxRecDepth 100000
namespace Tg
noncomputable section
open Go.Abs hiding fuel
open Go.Proofs.Tryz (prog)
open Int (ofNat toNat)
open Go.IntKind (wrap)
abbrev Yo2:List Go.Abs.SC:=[.p (.int .u8),.p di,.p di,.p di,.p di,.p di,.p di,.p di,.p di,.p di]
def Y0j:Tb:=[(32,Z3a)]
def F42:TFun:=⟨[],[],[.a Tq14],[.a [.p (.int .u8),.p di,.p di,.p di,.p di,.p di,.p di,.p di,.p di,.p di],.a [.p di,.p (.sl Tq4)],.c (.p di)],qc [qn 2,[.boxN 111 10 Yo2],[.boxN 64 2 [.p di,.p (.sl Tq4)]],qi,qn 33],[],[],0⟩
def Yo3:=mkC Y0j prog 45 F42
theorem ok42:Yo3.ok prog 45:=mkO ⟨ok46,trivial⟩
def Zjp(a0:Ty9):Option (Ty4×Ty9×Int×Unit):=Yo3.fn (a0,())
theorem Zy2 a0:Eq (Zjp a0)<|(Yp a0).bind λe0=>bif e0.1 !=0 then some (((0,0,0,0,0,0,0,0,0,0,()),(0,[],()),e0.1,()))else bif ofNat a0.2.1.length==0 then some (((0,0,0,0,0,0,0,0,0,0,()),(0,[],()),6,()))else bif decide (toNat (ofNat a0.2.1.length)<=toNat (ofNat a0.2.1.length))&&(decide (80*toNat (ofNat a0.2.1.length)<=281474976710656)&&decide (toNat (ofNat a0.2.1.length)<=9223372036854775807))then bif 0<List.length (List.take (min a0.2.1.length (List.length (List.replicate (toNat (ofNat a0.2.1.length)) ((0,0,0,0,0,0,0,0,0,0,()):Ty4)))) a0.2.1++List.drop (min a0.2.1.length (List.length (List.replicate (toNat (ofNat a0.2.1.length)) ((0,0,0,0,0,0,0,0,0,0,()):Ty4)))) (List.replicate (toNat (ofNat a0.2.1.length)) (0,0,0,0,0,0,0,0,0,0,())))then((List.take (min a0.2.1.length (List.length (List.replicate (toNat (ofNat a0.2.1.length)) ((0,0,0,0,0,0,0,0,0,0,()):Ty4)))) a0.2.1++List.drop (min a0.2.1.length (List.length (List.replicate (toNat (ofNat a0.2.1.length)) ((0,0,0,0,0,0,0,0,0,0,()):Ty4)))) (List.replicate (toNat (ofNat a0.2.1.length)) (0,0,0,0,0,0,0,0,0,0,())))[0]?).bind λe1=>bif toNat (ofNat a0.2.1.length)=toNat (ofNat a0.2.1.length)then bif decide (1<=toNat (ofNat a0.2.1.length))&&decide (toNat (ofNat a0.2.1.length)<=List.length (List.take (min a0.2.1.length (List.length (List.replicate (toNat (ofNat a0.2.1.length)) ((0,0,0,0,0,0,0,0,0,0,()):Ty4)))) a0.2.1++List.drop (min a0.2.1.length (List.length (List.replicate (toNat (ofNat a0.2.1.length)) ((0,0,0,0,0,0,0,0,0,0,()):Ty4)))) (List.replicate (toNat (ofNat a0.2.1.length)) (0,0,0,0,0,0,0,0,0,0,()))))then bif 1=toNat (ofNat a0.2.1.length)then some ((e1,(a0.1,[],()),0,()))else some ((e1,(a0.1,List.take (toNat (ofNat a0.2.1.length)-1) (List.drop 1 (List.take (min a0.2.1.length (List.length (List.replicate (toNat (ofNat a0.2.1.length)) ((0,0,0,0,0,0,0,0,0,0,()):Ty4)))) a0.2.1++List.drop (min a0.2.1.length (List.length (List.replicate (toNat (ofNat a0.2.1.length)) ((0,0,0,0,0,0,0,0,0,0,()):Ty4)))) (List.replicate (toNat (ofNat a0.2.1.length)) (0,0,0,0,0,0,0,0,0,0,())))),()),0,()))else none else none else none else none:=mkE
def Y0k:Tb:=[(32,Z3a),(61,Zhc)]
def F58:TFun:=⟨[],[],[.a Tq14,.a Tq4],[.a [.p di,.s 111 10 Tq4],.c (.p di)],qc [qn 4,[.boxN 64 2 [.p di,.rowN 111 10 Tq4]],qi,qn 39],[],[],0⟩
def Z94:=mkC Y0k prog 65 F58
theorem ok58:Z94.ok prog 65:=mkO ⟨ok46,ok87,trivial⟩
def Yo4:TCon:=⟨Z94.args,[.a [.p di,.p (.sl Tq4)],.c (.p di)],Z94.fn⟩
theorem Y0l:Yo4.ok prog 65:=TCon.frz (c:=Z94) ok58 rfl
def Zm6(a0:Ty9)(a1:Ty4):Option (Ty9×Int×Unit):=Z94.fn (a0,a1,())
theorem Z1k a0 a1:Eq (Zm6 a0 a1)<|(Yp a0).bind λe0=>bif e0.1 !=0 then some (((0,[],()),e0.1,()))else(Zt a1).bind λe1=>bif e1.1 !=0 then some (((0,[],()),e1.1,()))else bif ofNat a0.2.1.length==a0.1 then some (((0,[],()),18,()))else bif 0<=wrap .i64 (ofNat a0.2.1.length+1)then bif 0<=wrap .i64 (ofNat a0.2.1.length+1)then bif decide (toNat (wrap .i64 (ofNat a0.2.1.length+1))<=toNat (wrap .i64 (ofNat a0.2.1.length+1)))&&(decide (80*toNat (wrap .i64 (ofNat a0.2.1.length+1))<=281474976710656)&&decide (toNat (wrap .i64 (ofNat a0.2.1.length+1))<=9223372036854775807))then bif toNat (ofNat a0.2.1.length)<List.length (List.take (min a0.2.1.length (List.length (List.replicate (toNat (wrap .i64 (ofNat a0.2.1.length+1))) ((0,0,0,0,0,0,0,0,0,0,()):Ty4)))) a0.2.1++List.drop (min a0.2.1.length (List.length (List.replicate (toNat (wrap .i64 (ofNat a0.2.1.length+1))) ((0,0,0,0,0,0,0,0,0,0,()):Ty4)))) (List.replicate (toNat (wrap .i64 (ofNat a0.2.1.length+1))) (0,0,0,0,0,0,0,0,0,0,())))then((List.take (min a0.2.1.length (List.length (List.replicate (toNat (wrap .i64 (ofNat a0.2.1.length+1))) ((0,0,0,0,0,0,0,0,0,0,()):Ty4)))) a0.2.1++List.drop (min a0.2.1.length (List.length (List.replicate (toNat (wrap .i64 (ofNat a0.2.1.length+1))) ((0,0,0,0,0,0,0,0,0,0,()):Ty4)))) (List.replicate (toNat (wrap .i64 (ofNat a0.2.1.length+1))) (0,0,0,0,0,0,0,0,0,0,())))[toNat (ofNat a0.2.1.length)]?).bind λe2=>some (((a0.1,List.set (List.take (min a0.2.1.length (List.length (List.replicate (toNat (wrap .i64 (ofNat a0.2.1.length+1))) ((0,0,0,0,0,0,0,0,0,0,()):Ty4)))) a0.2.1++List.drop (min a0.2.1.length (List.length (List.replicate (toNat (wrap .i64 (ofNat a0.2.1.length+1))) ((0,0,0,0,0,0,0,0,0,0,()):Ty4)))) (List.replicate (toNat (wrap .i64 (ofNat a0.2.1.length+1))) (0,0,0,0,0,0,0,0,0,0,()))) (toNat (ofNat a0.2.1.length)) (a1.1,a1.2.1,a1.2.2.1,a1.2.2.2.1,a1.2.2.2.2.1,a1.2.2.2.2.2.1,a1.2.2.2.2.2.2.1,a1.2.2.2.2.2.2.2.1,a1.2.2.2.2.2.2.2.2.1,a1.2.2.2.2.2.2.2.2.2.1,e2.2.2.2.2.2.2.2.2.2.2),()),0,()))else none else none else none else none:=mkE
def Yw5:Tb:=[(180,Z5z)]
def F249:TFun:=⟨[],[],[.c (.sl Tq5)],[.c (.p di)],qc [qn 2,qi,qn 10],[],[],0⟩
def Yea:=mkC Yw5 prog 260 F249
theorem Y0m:Yea.ok prog 260:=mkO ⟨Yt1,trivial⟩
def Ztz(a0:(List Ty5)):Option (Int×Unit):=Yea.fn (a0,())
theorem Z1l a0:Eq (Ztz a0)<|(Zmr a0).bind λe0=>some (e0.2.2.1,()):=mkE
def Yw6:Tb:=[]
def F282:TFun:=⟨[],[],[.c db],[.c (.p di)],qc [qn 2,qi,qn 1],[],[],0⟩
def Yeb:=mkC Yw6 prog 284 F282
theorem Y0n:Yeb.ok prog 284:=mkO trivial
def Xl(a0:Bool):Option (Int×Unit):=Yeb.fn (a0,())
theorem Z6e a0:Eq (Xl a0)<|bif a0 then some (1,())else some (0,()):=mkE
def Yw7:Tb:=[(284,Yeb)]
def F250:TFun:=⟨[],[],[.c (.int .u8),.c di,.c di],[.c (.p di),.c (.p di)],qc [qn 6,qi,qi,qn 89],[],[],0⟩
def Yec:=mkC Yw7 prog 261 F250
theorem Y0o:Yec.ok prog 261:=mkO ⟨Y0n,trivial⟩
def Z6f(a0 a1 a2:Int):Option Ty8:=Yec.fn (a0,a1,a2,())
theorem Yji a0 a1 a2:Eq (Z6f a0 a1 a2)<|bif a0==5 then some (wrap .i64 (0-a1),0,())else bif a0==6 then(Xl (a1==0)).bind λe0=>some (e0.1,0,())else bif a0==7 then some (wrap .i64 (a1*a2),0,())else bif a0==8 then some (wrap .i64 (a1+a2),0,())else bif a0==9 then some (wrap .i64 (a1-a2),0,())else bif a0==10 then bif Go.bits Go.BinOp.and Go.IntKind.i64 a2 (63:Int)<0 then none else some ((wrap .i64 (a1*2 ^ min (toNat (Go.bits Go.BinOp.and Go.IntKind.i64 a2 63)) 64),0,()))else bif a0==11 then bif Go.bits Go.BinOp.and Go.IntKind.i64 a2 (63:Int)<0 then none else some ((Int.fdiv a1 (2 ^ min (toNat (Go.bits Go.BinOp.and Go.IntKind.i64 a2 63)) 64),0,()))else bif a0==12 then(Xl (decide (a1<a2))).bind λe0=>some (e0.1,0,())else bif a0==13 then(Xl (decide (a1<=a2))).bind λe0=>some (e0.1,0,())else bif a0==14 then(Xl (decide (a1>a2))).bind λe0=>some (e0.1,0,())else bif a0==15 then(Xl (decide (a1>=a2))).bind λe0=>some (e0.1,0,())else bif a0==16 then(Xl (a1==a2)).bind λe0=>some (e0.1,0,())else bif a0==17 then(Xl (a1 !=a2)).bind λe0=>some (e0.1,0,())else bif a0==18 then bif a1 !=0 then(Xl (a2 !=0)).bind λe0=>some (e0.1,0,())else(Xl false).bind λe0=>some (e0.1,0,())else bif a0==19 then(Xl (Go.bits Go.BinOp.or Go.IntKind.i64 a1 a2 !=0)).bind λe0=>some (e0.1,0,())else some (0,2,()):=mkE
def Yw8:Tb:=[]
def F141:TFun:=⟨[],[],[.c di,.c di],[.c (.p di),.c (.p di)],qc [qn 4,qi,qi,qn 15],[],[],0⟩
def Yed:=mkC Yw8 prog 146 F141
theorem Y0p:Yed.ok prog 146:=mkO trivial
def Z6g(a0 a1:Int):Option Ty8:=Yed.fn (a0,a1,())
theorem Yjj a0 a1:Eq (Z6g a0 a1)<|bif a1<1 then some (0,2,())else bif a1>3 then some (0,2,())else bif a1=0 then none else bif a1=0 then none else some ((Int.tmod (wrap .i64 (Int.tmod a0 a1+a1)) a1,0,())):=mkE
def Yo5:Tb:=[]
def F142:TFun:=⟨[],[(4,qc [qn 2,[.boxN 111 10 Yo2],qn 2,[.c (.rowN 125 11 Tq3)],qn 2,[.c (.p (.sl Tq13))],qi,qi,qn 11])],[.a Tq4,.c (.sl Tq13)],[.c (.s 125 11 Tq3)],qc [qn 4,[.c (.rowN 125 11 Tq3)],qn 17],[],[],0⟩
def Yee:=mkC Yo5 prog 147 F142
theorem Y0q:Yee.ok prog 147:=mkO trivial
def Zu8(a0:Ty4)(a1:Ty7):Option (List Ty3×Unit):=Yee.fn (a0,a1,())
def Zjq(n:Nat)(x0 x1 x2 x3 x4 x5 x6 x7 x8 x9:Int)(x10:(List Ty3))(x11:Ty7)(x12 x13:Int):Option (List Ty3×Unit):=itr Yo5 prog 147 F142 n 4 (x0,x1,x2,x3,x4,x5,x6,x7,x8,x9,x10,x11,x12,x13,())
theorem Yjk a0 a1:Eq (Zu8 a0 a1)<|Zjq fuel a0.1 a0.2.1 a0.2.2.1 a0.2.2.2.1 a0.2.2.2.2.1 a0.2.2.2.2.2.1 a0.2.2.2.2.2.2.1 a0.2.2.2.2.2.2.2.1 a0.2.2.2.2.2.2.2.2.1 a0.2.2.2.2.2.2.2.2.2.1 ([]) a1 (ofNat a1.length) 0:=mkE
theorem Zy3 n x0 x1 x2 x3 x4 x5 x6 x7 x8 x9 x10 x11 x12 x13:Eq (Zjq (n+1) x0 x1 x2 x3 x4 x5 x6 x7 x8 x9 x10 x11 x12 x13)<|bif x13<x12 then ix x11 x13 λe0=>bif Ze (x10.length+List.length [(e0.1,x0,x1,x2,x3,x4,x5,x6,x7,x8,x9,())]) 88 then Zjq n x0 x1 x2 x3 x4 x5 x6 x7 x8 x9 (x10++[(e0.1,x0,x1,x2,x3,x4,x5,x6,x7,x8,x9,())]) x11 x12 (wrap .i64 (x13+1))else none else some (x10,()):=mkI
def Yw9:Tb:=[]
def F185:TFun:=⟨[],[],[.c di],[.a [.p di,.p di,.p di,.p di]],qc [qn 2,[.boxN 149 4 [.p di,.p di,.p di,.p di]],qn 4],[],[],0⟩
def Yo6:=mkC Yw9 prog 190 F185
theorem Y0r:Yo6.ok prog 190:=mkO trivial
def Yjl(a0:Int):Option ((Int×Int×Int×Int×Unit)×Unit):=Yo6.fn (a0,())
theorem Z95 a0:Eq (Yjl a0)<|some (((1,a0,a0,a0,()),())):=mkE
def Yxa:Tb:=[(218,Zxi)]
def F254:TFun:=⟨[],[],[.a [.int .i64,.int .i64,.int .i64,.int .i64],.a [.int .i64,.int .i64,.int .i64,.int .i64]],[.a [.p di,.p di,.p di,.p di],.c (.p di)],qc [qn 4,[.boxN 149 4 [.p di,.p di,.p di,.p di]],qi,qn 47],[],[],0⟩
def Yo7:=mkC Yxa prog 265 F254
theorem Y0s:Yo7.ok prog 265:=mkO ⟨Ymd,trivial⟩
def Zm7(a0 a1:(Int×Int×Int×Int×Unit)):Option ((Int×Int×Int×Int×Unit)×Int×Unit):=Yo7.fn (a0,a1,())
theorem Z1m a0 a1:Eq (Zm7 a0 a1)<|(Zaj a0).bind λe0=>bif e0.1 !=0 then some (((0,0,0,0,()),8,()))else(Zaj a1).bind λe1=>bif e1.1 !=0 then some (((0,0,0,0,()),8,()))else bif wrap .i64 (a0.1+a1.1)>1073741824 then some (((0,0,0,0,()),4,()))else bif a0.1==0 then some (a1,0,())else bif a1.1==0 then some (a0,0,())else some (((wrap .i64 (a0.1+a1.1),wrap .i64 (a0.2.1+a1.2.1),tmm false a0.2.2.1 a1.2.2.1,tmm true a0.2.2.2.1 a1.2.2.2.1,()),0,())):=mkE
def Yxb:Tb:=[(218,Zxi)]
def F194:TFun:=⟨[],[],[.c (.int .u8),.a [.int .i64,.int .i64,.int .i64,.int .i64]],[.c (.p di),.c (.p di)],qc [qn 4,qi,qi,qn 28],[],[],0⟩
def Z6h:=mkC Yxb prog 199 F194
theorem Yuf:Z6h.ok prog 199:=mkO ⟨Ymd,trivial⟩
def Zdg(a0:Int)(a1:(Int×Int×Int×Int×Unit)):Option Ty8:=Z6h.fn (a0,a1,())
theorem Zy4 a0 a1:Eq (Zdg a0 a1)<|bif a0<1 then some (0,2,())else bif a0>4 then some (0,2,())else(Zaj a1).bind λe0=>bif e0.1 !=0 then some (0,e0.1,())else bif a1.1==0 then some (0,6,())else bif 0<=a0 then bif a0.toNat=nat_lit 4 then some (a1.2.2.2.1,0,())else bif a0.toNat=nat_lit 3 then some (a1.2.2.1,0,())else bif a0.toNat=nat_lit 2 then some (a1.2.1,0,())else bif a0.toNat=nat_lit 1 then some (a1.1,0,())else bif a0.toNat=nat_lit 0 then some (0,0,())else none else none:=mkE
def Yxc:Tb:=[(61,Zhc)]
def F190:TFun:=⟨[],[],[.c di],[.c (.p db)],qc [qn 2,qb,qn 4],[],[],0⟩
def Z6i:=mkC Yxc prog 195 F190
theorem Yug:Z6i.ok prog 195:=mkO ⟨ok87,trivial⟩
def Zfu(a0:Int):Option (Bool×Unit):=Z6i.fn (a0,())
theorem Zy5 a0:Eq (Zfu a0)<|(Zt (2,0,0,0,a0,0,0,0,0,0,())).bind λe0=>some (e0.1==0,()):=mkE
def Yo8:Tb:=[(195,Z6i)]
def F192:TFun:=⟨[],[(6,qc [qn 13,[.c (.p (.sl Tq13))],qi,qi,qn 11])],[.c (.sl Tq13)],[.c (.p di)],qc [qn 2,qi,qn 24],[],[],0⟩
def Yef:=mkC Yo8 prog 197 F192
theorem Y0t:Yef.ok prog 197:=mkO ⟨Yug,trivial⟩
def Zm8(a0:Ty7):Option (Int×Unit):=Yef.fn (a0,())
def Zdh(n:Nat)(x0:Ty7)(x1 x2:Int):Option (Int×Unit):=itr Yo8 prog 197 F192 n 6 (x0,x1,x2,())
theorem Z1n a0:Eq (Zm8 a0)<|bif ofNat a0.length==0 then some (8,())else bif ofNat a0.length>4 then some (8,())else Zdh fuel a0 (ofNat a0.length) 0:=mkE
theorem Zm9 n x0 x1 x2:Eq (Zdh (n+1) x0 x1 x2)<|bif x2<x1 then ix x0 x2 λe0=>let k1:=Zdh n x0 x1 (wrap .i64 (x2+1));bif e0.1 !=(-9223372036854775808)then(Zfu e0.1).bind λe1=>bif !e1.1 then some (8,())else k1 else k1 else some (0,()):=mkI
end
noncomputable section
open Go.Abs hiding fuel
open Go.Proofs.Tryz (prog)
open Int (ofNat toNat)
open Go.IntKind (wrap)
def Yxd:Tb:=[]
def F284:TFun:=⟨[],[],[.c di,.c di],[.c (.p di)],qc [qn 4,qi,qn 12],[],[],0⟩
def Yeg:=mkC Yxd prog 286 F284
theorem Y0u:Yeg.ok prog 286:=mkO trivial
def Zrc(a0 a1:Int):Option (Int×Unit):=Yeg.fn (a0,a1,())
theorem Zy6 a0 a1:Eq (Zrc a0 a1)<|bif a1<1 then some (2,())else bif a1>1073741824 then some (2,())else bif a0<(-1099511627776)then some (16,())else bif a0>1099511627776 then some (16,())else some (0,()):=mkE
def Yxe:Tb:=[(286,Yeg)]
def F255:TFun:=⟨[],[],[.c di,.c di],[.c (.p di),.c (.p di)],qc [qn 4,qi,qi,qn 18],[],[],0⟩
def Yeh:=mkC Yxe prog 266 F255
theorem Y0v:Yeh.ok prog 266:=mkO ⟨Y0u,trivial⟩
def Zos(a0 a1:Int):Option Ty8:=Yeh.fn (a0,a1,())
theorem Zun a0 a1:Eq (Zos a0 a1)<|(Zrc a0 a1).bind λe0=>bif e0.1 !=0 then some (0,e0.1,())else bif a1=0 then none else bif a1=0 then none else bif Int.tmod a0 a1<0 then some ((wrap .i64 (wrap .i64 (Int.tdiv a0 a1)-1),0,()))else some (wrap .i64 (Int.tdiv a0 a1),0,()):=mkE
def Yxf:Tb:=[(266,Yeh)]
def F226:TFun:=⟨[],[],[.c di,.c di],[.a [.p di,.p di],.c (.p di)],qc [qn 4,[.boxN 106 2 [.p di,.p di]],qi,qn 20],[],[],0⟩
def Z6j:=mkC Yxf prog 229 F226
theorem Yuh:Z6j.ok prog 229:=mkO ⟨Y0v,trivial⟩
def Zn1(a0 a1:Int):Option (Ty8×Int×Unit):=Z6j.fn (a0,a1,())
theorem Z96 a0 a1:Eq (Zn1 a0 a1)<|(Zos a0 a1).bind λe0=>bif e0.2.1 !=0 then some (((0,0,()),e0.2.1,()))else some (((wrap .i64 (e0.1*a1),wrap .i64 (wrap .i64 (e0.1+1)*a1),()),0,())):=mkE
def Z6k:Tb:=[(229,Z6j)]
def F227:TFun:=⟨[10],[(10,qc [qn 6,[.c (.nil)],qn 3,[.c (.rowN 106 2 Tq19)],qn 59]),(12,qc [qi,qi,qi,qn 3,[.c (.nil)],qn 3,[.c (.rowN 106 2 Tq19)],qi,qn 58]),(24,qc [[.c (.yl)],[.boxN 287 1 [.rowN 106 2 Tq19]],qn 1,qi,qn 15,[.c (.k 0)],qn 6,[.c (.nil)],qn 5,[.boxN 287 1 [.rowN 106 2 Tq19]],qn 57])],[.c di,.c di,.c di],[.c (.s 106 2 Tq19),.c (.p di)],qc [qn 6,[.c (.rowN 106 2 Tq19)],qi,qn 62],[(29,[4294967295]),(22,[287]),(19,[267])],[(24,[1,70])],8⟩
def Zy7:=mkC Z6k prog 230 F227
theorem Y0w:Zy7.ok prog 230:=mkO ⟨Yuh,trivial⟩
def Yht:TCon:=⟨Zy7.args,[.c (.p (.sl Tq19)),.c (.p di)],Zy7.fn⟩
theorem Yxg:Yht.ok prog 230:=TCon.frz (c:=Zy7) Y0w rfl
def Z3q(a0 a1 a2:Int):Option (List Ty8×Int×Unit):=Zy7.fn (a0,a1,a2,())
def Zot(n:Nat)(x0:(List Ty8)):Option (List Ty8×Int×Unit):=itr Z6k prog 230 F227 n 10 (x0,())
def Zbv(n:Nat)(x0 x1 x2:Int)(x3:(List Ty8))(x4:Int):Option (List Ty8×Int×Unit):=itr Z6k prog 230 F227 n 12 (x0,x1,x2,x3,x4,())
def Zer(n:Nat)(x0:(List Ty8))(x1:Int)(x2:(List Ty8)):Option (List Ty8×Int×Unit):=itr Z6k prog 230 F227 n 24 (x0,x1,x2,())
theorem Z97 a0 a1 a2:Eq (Z3q a0 a1 a2)<|let k1:=some ([],2,());bif tmm false a1 a2<1 then k1 else bif a1>1073741824 then k1 else bif a2>a1 then k1 else bif a1>wrap .i64 (16*a2)then k1 else(Zn1 a0 a2).bind λe0=>bif e0.2.1 !=0 then some ([],e0.2.1,())else Zbv fuel a0 a1 a2 ([]) e0.1.1:=mkE
theorem Z1o n x0:Eq (Zot (n+1) x0)<|Zer n x0 (wrap .i64 (ofNat x0.length-1)) ([]):=mkI
theorem Zou n x0 x1 x2 x3 x4:Eq (Zbv (n+1) x0 x1 x2 x3 x4)<|bif wrap .i64 (x4+x1)>x0 then bif Ze (x3.length+List.length [(x4,wrap .i64 (x4+x1),())]) 16 then Zbv n x0 x1 x2 (x3++[(x4,wrap .i64 (x4+x1),())]) (wrap .i64 (x4-x2))else none else Zot n x3:=mkI
theorem Zov n x0 x1 x2:Eq (Zer (n+1) x0 x1 x2)<|bif x1>=0 then ixb x0 x1 λe0=>bif Ze (x2.length+List.length [e0]) 16 then Zer n x0 (wrap .i64 (x1-1)) (x2++[e0])else none else some (x2,0,()):=mkI
def Yxh:Tb:=[(121,Z5x),(229,Z6j),(230,Yht)]
def F188:TFun:=⟨[],[],[.a [.int .u8,.int .i64,.int .i64],.c di],[.c (.p (.sl Tq19)),.c (.p di)],qc [qn 4,[.c (.p (.sl Tq19))],qi,qn 34],[],[],0⟩
def Yo9:=mkC Yxh prog 193 F188
theorem Y0x:Yo9.ok prog 193:=mkO ⟨Yne,Yuh,Yxg,trivial⟩
def Zna(a0:Ty10)(a1:Int):Option (List Ty8×Int×Unit):=Yo9.fn (a0,a1,())
theorem Yei a0 a1:Eq (Zna a0 a1)<|(Yh a0).bind λe0=>bif e0.1 !=0 then some ([],e0.1,())else bif a0.1==1 then(Zn1 a1 a0.2.1).bind λe1=>bif e1.2.1 !=0 then some ([],e1.2.1,())else some ([e1.1],0,())else bif a0.1==2 then(Z3q a1 a0.2.1 a0.2.2.1).bind λe1=>some e1 else some ([],2,()):=mkE
def Yxi:Tb:=[]
def F220:TFun:=⟨[],[],[.c di,.c di],[.c (.p di)],qc [qn 4,qi,qn 12],[],[],0⟩
def Ypa:=mkC Yxi prog 223 F220
theorem Y0y:Ypa.ok prog 223:=mkO trivial
def Xb(a0 a1:Int):Option (Int×Unit):=Ypa.fn (a0,a1,())
theorem Zuo a0 a1:Eq (Xb a0 a1)<|bif a1<1 then some (2,())else bif a1>1073741824 then some (2,())else bif a0<(-1099511627776)then some (16,())else bif a0>1099511627776 then some (16,())else some (0,()):=mkE
end
end Tg
