import Derived.Test.YtlnihcefchoofaaGreatDoorDVT
set_option linter.all false
set_option maxRecDepth 100000
namespace Tg
noncomputable section
open Go.Abs hiding fuel
open Go.Proofs.Tryz (prog)
open Int (ofNat toNat)
open Go.IntKind (wrap)
abbrev Zmm:List Go.Abs.SC:=[.p (.int .u8),.p di,.p di,.p di,.p di]
def Ywl:Tb:=[]
def F259:TFun:=⟨[],[],[.c (.int .u8)],[.c (.p di),.c (.p di)],qc [qn 2,qi,qi,qn 21],[],[],0⟩
def Ydk:=mkC Ywl prog 247 F259
theorem Yzx:Ydk.ok prog 247:=mkO trivial
def Zmn(a0:Int):Option (Int×Int×Unit):=Ydk.fn (a0,())
theorem Z09 a0:Eq (Zmn a0)<|let k1:Option (Int×Int×Unit):=bif a0==5 then some (1,0,())else bif a0==6 then some (1,0,())else bif a0>=7 then bif a0<=19 then some (2,0,())else some (0,2,())else some (0,2,());bif a0>=1 then bif a0<=4 then some (0,0,())else k1 else k1:=mkE
def Zsg:Tb:=[(247,Ydk)]
def F230:TFun:=⟨[28,21,31],[(4,qc [qn 4,[.c (.rowN 313 3 Xq2)],[.c (.rowN 313 3 Xq2)],qn 9,[.c (.p (.sl Xq1))],qi,qi,qn 87]),(21,qc [qn 4,[.c (.rowN 313 3 Xq2)],[.c (.slN 313 3 Xq2)],qn 1,[.boxN 173 5 Zmm],qn 3,[.boxN 173 5 Zmm],[.boxN 313 3 [.p di,.p di,.p di]],qn 2,[.c (.p (.sl Xq1))],qi,qi,qn 87]),(23,qc [qn 4,[.c (.rowN 313 3 Xq2)],[.c (.slN 313 3 Xq2)],qn 1,[.boxN 173 5 Zmm],qn 3,[.boxN 173 5 Zmm],[.boxN 313 3 [.p di,.p di,.p di]],qn 2,[.c (.p (.sl Xq1))],qi,qi,qn 34,[.c (.slR 1)],qi,qi,qn 50]),(28,qc [qn 4,[.c (.rowN 313 3 Xq2)],[.c (.slN 313 3 Xq2)],qn 1,[.boxN 173 5 Zmm],qn 3,[.boxN 173 5 Zmm],[.boxN 313 3 [.p di,.p di,.p di]],qn 1,[.boxN 313 3 [.any,.p di,.p di]],[.c (.p (.sl Xq1))],qi,qi,qn 34,[.c (.slR 1)],qi,qi,qn 50]),(31,qc [qn 4,[.c (.rowN 313 3 Xq2)],[.c (.slN 313 3 Xq2)],qn 1,[.boxN 173 5 Zmm],qn 3,[.boxN 173 5 Zmm],[.boxN 313 3 [.p di,.p di,.p di]],qn 2,[.c (.p (.sl Xq1))],qi,qi,qn 87])],[.c (.sl Xq1)],[.c (.s 313 3 Xq2),.c (.p db)],qc [qn 2,[.c (.rowN 313 3 Xq2)],qb,qn 101],[(16,[248])],[],8⟩
def Zx3:=mkC Zsg prog 214 F230
theorem Yzy:Zx3.ok prog 214:=mkO ⟨Yzx,trivial⟩
def Yg3:TCon:=⟨Zx3.args,[.c (.p (.sl Xq2)),.c (.p db)],Zx3.fn⟩
theorem Ywm:Yg3.ok prog 214:=TCon.frz (c:=Zx3) Yzy rfl
def Zje(a0:Xy1):Option (List Xy3×Bool×Unit):=Zx3.fn (a0,())
def Zu(n:Nat)(x0 x1:(List Xy3))(x2:Xy1)(x3 x4:Int):Option (List Xy3×Bool×Unit):=itr Zsg prog 214 F230 n 4 (x0,x1,x2,x3,x4,())
def Za7(n:Nat)(x0 x1:(List Xy3))(x2 x3 x4 x5 x6 x7 x8 x9 x10 x11 x12 x13 x14 x15:Int)(x16:Xy1)(x17 x18:Int):Option (List Xy3×Bool×Unit):=itr Zsg prog 214 F230 n 21 (x0,x1,x2,x3,x4,x5,x6,x7,x8,x9,x10,x11,x12,x13,x14,x15,x16,x17,x18,())
def Yv(n:Nat)(x0 x1:(List Xy3))(x2 x3 x4 x5 x6 x7 x8 x9 x10 x11 x12 x13 x14 x15:Int)(x16:Xy1)(x17 x18 x19 x20 x21 x22:Int):Option (List Xy3×Bool×Unit):=itr Zsg prog 214 F230 n 23 (x0,x1,x2,x3,x4,x5,x6,x7,x8,x9,x10,x11,x12,x13,x14,x15,x16,x17,x18,x19,x20,x21,x22,())
def Zgr(n:Nat)(x0 x1:(List Xy3))(x2 x3 x4 x5 x6 x7 x8 x9 x10 x11 x12 x13 x14 x15 x16 x17:Int)(x18:Xy1)(x19 x20 x21 x22 x23 x24:Int):Option (List Xy3×Bool×Unit):=itr Zsg prog 214 F230 n 28 (x0,x1,x2,x3,x4,x5,x6,x7,x8,x9,x10,x11,x12,x13,x14,x15,x16,x17,x18,x19,x20,x21,x22,x23,x24,())
def Zdb(n:Nat)(x0 x1:(List Xy3))(x2 x3 x4 x5 x6 x7 x8 x9 x10 x11 x12 x13 x14 x15:Int)(x16:Xy1)(x17 x18:Int):Option (List Xy3×Bool×Unit):=itr Zsg prog 214 F230 n 31 (x0,x1,x2,x3,x4,x5,x6,x7,x8,x9,x10,x11,x12,x13,x14,x15,x16,x17,x18,())
theorem Zqx a0:Eq (Zje a0)<|Zu fuel ([]) ([]) a0 (ofNat a0.length) 0:=mkE
theorem Zen n x0 x1 x2 x3 x4:Eq (Zu (n+1) x0 x1 x2 x3 x4)<|bif x4<x3 then bif 0<=x4 then match x2[x4.toNat]? with|none=>none|some e0=>match Zmn e0.1 with|none=>none|some e1=>bif e1.2.1 !=0 then some (x0,false,())else bif e1.1>ofNat x1.length then some (x0,false,())else bif 0<=wrap .i64 (ofNat x1.length-e1.1)then bif decide (0<=toNat (wrap .i64 (ofNat x1.length-e1.1)))&&decide (toNat (wrap .i64 (ofNat x1.length-e1.1))<=x1.length)then bif 0<=wrap .i64 (ofNat x1.length-e1.1)then bif toNat (wrap .i64 (ofNat x1.length-e1.1))<=x1.length then bif toNat (wrap .i64 (ofNat x1.length-e1.1))=x1.length then Yv n x0 x1 (ofNat (toNat (wrap .i64 (ofNat x1.length-e1.1)))) e0.1 e0.2.1 e0.2.2.1 e0.2.2.2.1 e0.2.2.2.2.1 e0.1 0 0 0 (tmm false (tmm true e0.2.2.2.2.1 0) 400) x4 1 1 x2 x3 x4 1 0 0 0 else Yv n x0 x1 (ofNat (toNat (wrap .i64 (ofNat x1.length-e1.1)))) e0.1 e0.2.1 e0.2.2.1 e0.2.2.2.1 e0.2.2.2.2.1 e0.1 0 0 0 (tmm false (tmm true e0.2.2.2.2.1 0) 400) x4 1 1 x2 x3 x4 (ofNat (toNat (wrap .i64 (ofNat x1.length-e1.1)))) (ofNat (x1.length-toNat (wrap .i64 (ofNat x1.length-e1.1)))) (ofNat (x1.length-toNat (wrap .i64 (ofNat x1.length-e1.1)))) 0 else none else none else none else none else none else some (x0,ofNat x1.length==1,()):=mkI
theorem Zx4 n x0 x1 x2 x3 x4 x5 x6 x7 x8 x9 x10 x11 x12 x13 x14 x15 x16 x17 x18:Eq (Za7 (n+1) x0 x1 x2 x3 x4 x5 x6 x7 x8 x9 x10 x11 x12 x13 x14 x15 x16 x17 x18)<|bif x3==1 then Zdb n x0 x1 (ofNat x2.toNat) x3 x4 x5 x6 x7 x8 (tmm true x4 0) x10 x11 x12 x13 x14 x15 x16 x17 x18 else Zdb n x0 x1 (ofNat x2.toNat) x3 x4 x5 x6 x7 x8 x9 x10 x11 x12 x13 x14 x15 x16 x17 x18:=mkI
theorem Zmo n x0 x1 x2 x3 x4 x5 x6 x7 x8 x9 x10 x11 x12 x13 x14 x15 x16 x17 x18 x19 x20 x21 x22:Eq (Yv (n+1) x0 x1 x2 x3 x4 x5 x6 x7 x8 x9 x10 x11 x12 x13 x14 x15 x16 x17 x18 x19 x20 x21 x22)<|bif x22<x21 then bif 0<=x22 then bif x22.toNat<x20.toNat then match x1[x19.toNat+x22.toNat]? with|none=>none|some e0=>bif x22==0 then Zgr n x0 x1 (ofNat x2.toNat) x3 x4 x5 x6 x7 x8 x9 e0.1 x11 x12 x13 x14 x15 e0.2.1 e0.2.2.1 x16 x17 x18 (ofNat x19.toNat) (ofNat x20.toNat) x21 x22 else Zgr n x0 x1 (ofNat x2.toNat) x3 x4 x5 x6 x7 x8 x9 x10 e0.1 x12 x13 x14 x15 e0.2.1 e0.2.2.1 x16 x17 x18 (ofNat x19.toNat) (ofNat x20.toNat) x21 x22 else none else none else Za7 n x0 x1 (ofNat x2.toNat) x3 x4 x5 x6 x7 x8 x9 x10 x11 x12 x13 x14 x15 x16 x17 x18:=mkI
theorem Zx5 n x0 x1 x2 x3 x4 x5 x6 x7 x8 x9 x10 x11 x12 x13 x14 x15 x16 x17 x18 x19 x20 x21 x22 x23 x24:Eq (Zgr (n+1) x0 x1 x2 x3 x4 x5 x6 x7 x8 x9 x10 x11 x12 x13 x14 x15 x16 x17 x18 x19 x20 x21 x22 x23 x24)<|Yv n x0 x1 (ofNat x2.toNat) x3 x4 x5 x6 x7 x8 x9 x10 x11 x12 x13 (wrap .i64 (x14+x16)) (tmm true x15 (wrap .i64 (x17+1))) x18 x19 x20 (ofNat x21.toNat) (ofNat x22.toNat) x23 (wrap .i64 (x24+1)):=mkI
theorem Zx6 n x0 x1 x2 x3 x4 x5 x6 x7 x8 x9 x10 x11 x12 x13 x14 x15 x16 x17 x18:Eq (Zdb (n+1) x0 x1 x2 x3 x4 x5 x6 x7 x8 x9 x10 x11 x12 x13 x14 x15 x16 x17 x18)<|bif !(x8==x3&&(x9==x4&&(x10==x5&&(x11==x6&&(x12==x7&&true)))))then some (x0,false,())else bif decide (x2.toNat<=x1.length)&&Ze (x2.toNat+List.length [(x13,x14,x15,())]) 24 then bif Ze (x0.length+List.length [(x13,x14,x15,())]) 24 then Zu n (x0++[(x13,x14,x15,())]) (List.take x2.toNat x1++[(x13,x14,x15,())]) x16 x17 (wrap .i64 (x18+1))else none else none:=mkI
def Ywn:Tb:=[(214,Yg3)]
def F195:TFun:=⟨[],[],[.c (.sl Xq1)],[.c (.p (.sl Xq2)),.c (.p di)],qc [qn 2,[.c (.p (.sl Xq2))],qi,qn 21],[],[],0⟩
def Ydl:=mkC Ywn prog 176 F195
theorem Yzz:Ydl.ok prog 176:=mkO ⟨Ywm,trivial⟩
def Ztx(a0:Xy1):Option (List Xy3×Int×Unit):=Ydl.fn (a0,())
theorem Z1a a0:Eq (Ztx a0)<|bif ofNat a0.length>60 then some ([],4,())else match Zje a0 with|none=>none|some e0=>bif !e0.2.1 then some ([],8,())else bif 0<=wrap .i64 (ofNat e0.1.length-1)then match e0.1[toNat (wrap .i64 (ofNat e0.1.length-1))]? with|none=>none|some e1=>bif e1.2.2.1>20 then some ([],34,())else some (e0.1,0,())else none:=mkE
def Ywo:Tb:=[(176,Ydl)]
def F152:TFun:=⟨[],[],[.c (.sl Xq1)],[.c (.p di)],qc [qn 2,qi,qn 8],[],[],0⟩
def Z5w:=mkC Ywo prog 119 F152
theorem Yt0:Z5w.ok prog 119:=mkO ⟨Yzz,trivial⟩
def Ze4(a0:Xy1):Option (Int×Unit):=Z5w.fn (a0,())
theorem Z1b a0:Eq (Ze4 a0)<|match Ztx a0 with|none=>none|some e0=>some (e0.2.1,()):=mkE
def Ywp:Tb:=[]
def F154:TFun:=⟨[],[],[.a [.int .u8,.int .i64,.int .i64]],[.c (.p di)],qc [qn 2,qi,qn 37],[],[],0⟩
def Z5x:=mkC Ywp prog 121 F154
theorem Yne:Z5x.ok prog 121:=mkO trivial
def Yh(a0:Xy3):Option (Int×Unit):=Z5x.fn (a0,())
theorem Zd5 a0:Eq (Yh a0)<|let k1:Option (Int×Unit):=some (8,());bif a0.2.1<1 then k1 else bif a0.2.1>1073741824 then k1 else bif a0.1==2 then bif a0.2.2.1>=1 then bif a0.2.2.1<=a0.2.1 then bif a0.2.1<=wrap .i64 (16*a0.2.2.1)then some (0,())else k1 else k1 else k1 else let k2:Option (Int×Unit):=bif a0.2.2.1==0 then some (0,())else k1;bif a0.1==1 then k2 else bif a0.1==3 then k2 else k1:=mkE
def Ynf:Tb:=[(179,Yls)]
def F153:TFun:=⟨[],[(14,qc [[.c (.p (.sl [.int .i64]))],[.c (.fn 177 [])],qn 5,qi,qi,qn 19,[.c (.p (.sl [.int .i64]))],qn 19,qb,qn 9])],[.c (.sl [.int .i64]),.c db],[.c (.p di)],qc [qn 4,qi,qn 25],[(20,[177]),(10,[215]),(7,[178])],[(14,[9,30])],8⟩
def Ydm:=mkC Ynf prog 120 F153
theorem Yz0:Ydm.ok prog 120:=mkO ⟨Yyi,trivial⟩
def Zfd(a0:(List (Int×Unit)))(a1:Bool):Option (Int×Unit):=Ydm.fn (a0,a1,())
def Qx(n:Nat)(x0:(List (Int×Unit)))(x1 x2:Int)(x3:(List (Int×Unit)))(x4:Bool):Option (Int×Unit):=itr Ynf prog 120 F153 n 14 (x0,x1,x2,x3,x4,())
theorem Zqy a0 a1:Eq (Zfd a0 a1)<|bif ofNat a0.length>4 then some (4,())else bif ofNat a0.length==0 then some (8,())else let k1:=Qx fuel a0 (ofNat a0.length) 0 a0 false;bif a1 then bif ofNat a0.length !=2 then some (8,())else k1 else k1:=mkE
theorem Zfj n x0 x1 x2 x3 x4:Eq (Qx (n+1) x0 x1 x2 x3 x4)<|bif x2<x1 then bif 0<=x2 then match x0[x2.toNat]? with|none=>none|some e0=>let k1:Option (Int×Unit):=bif x4 then some (8,())else bif x2>=0 then some (8,())else match Z8 x3 with|none=>none|some e1=>bif e1.1<ofNat x3.length then some (43,())else some (0,());bif e0.1<0 then k1 else bif e0.1>=4 then k1 else Qx n x0 x1 (wrap .i64 (x2+1)) x3 x4 else none else bif x4 then some (8,())else match Z8 x3 with|none=>none|some e0=>bif e0.1<ofNat x3.length then some (43,())else some (0,()):=mkI
def Yng:Tb:=[(119,Z5w),(120,Ydm),(121,Z5x)]
def F81:TFun:=⟨[4,12],[(4,qc [qn 1,[.boxN 27 10 [.any,.any,.p (.sl [.int .i64]),.p db,.p (.sl Xq1),.p (.int .u8),.p di,.p di,.any,.any]],qn 64]),(12,qc [qn 1,[.boxN 27 10 [.any,.any,.p (.sl [.int .i64]),.p db,.any,.p (.int .u8),.p di,.p di,.any,.any]],qn 64])],[.a [.int .u8,.sl Xq1,.sl [.int .i64],.bool,.sl Xq1,.int .u8,.int .i64,.int .i64,.bool,.int .u8]],[.c (.p di)],qc [qn 2,qi,qn 63],[],[],0⟩
def Ynh:=mkC Yng prog 55 F81
theorem ok81:Ynh.ok prog 55:=mkO ⟨Yt0,Yz0,Yne,trivial⟩
def Zh1(a0:Xy2):Option (Int×Unit):=Ynh.fn (a0,())
def Zd6(n:Nat)(x0:(List (Int×Unit)))(x1:Bool)(x2:Xy1)(x3 x4 x5:Int):Option (Int×Unit):=itr Yng prog 55 F81 n 4 (x0,x1,x2,x3,x4,x5,())
def Zdc(n:Nat)(x0:(List (Int×Unit)))(x1:Bool)(x2 x3 x4:Int):Option (Int×Unit):=itr Yng prog 55 F81 n 12 (x0,x1,x2,x3,x4,())
theorem Zuj a0:Eq (Zh1 a0)<|bif a0.1<1 then some (8,())else bif a0.1>4 then some (8,())else let k1:Option (Int×Unit):=let k3:=Zd6 fuel a0.2.2.1 a0.2.2.2.1 a0.2.2.2.2.1 a0.2.2.2.2.2.1 a0.2.2.2.2.2.2.1 a0.2.2.2.2.2.2.2.1;bif a0.1 !=1 then match Ze4 a0.2.1 with|none=>none|some e0=>bif e0.1 !=0 then some (e0.1,())else k3 else bif ofNat a0.2.1.length>0 then some (8,())else k3;bif a0.2.2.2.2.2.2.2.2.2.1 !=1 then bif a0.2.2.2.2.2.2.2.2.2.1 !=2 then some (8,())else k1 else k1:=mkE
theorem Zsh n x0 x1 x2 x3 x4 x5:Eq (Zd6 (n+1) x0 x1 x2 x3 x4 x5)<|let k1:=Zdc n x0 x1 x3 x4 x5;bif ofNat x2.length>0 then match Ze4 x2 with|none=>none|some e0=>bif e0.1 !=0 then some (e0.1,())else k1 else k1:=mkI
theorem Zqz n x0 x1 x2 x3 x4:Eq (Zdc (n+1) x0 x1 x2 x3 x4)<|match Zfd x0 x1 with|none=>none|some e0=>bif e0.1 !=0 then some (e0.1,())else let k1:=match Yh (x2,x3,x4,())with|none=>none|some e1=>some (e1.1,());bif x1 then bif x2 !=1 then some (8,())else k1 else k1:=mkI
def Zx7:Tb:=[]
def F232:TFun:=⟨[14],[(6,qc [[.c (.p (.sl Xq1))],qn 3,[.boxN 185 1 [.rowN 4 1 [.bool]]],[.fnS 249 [.ptr 0 0]],qn 6,[.c (.p (.sl Xq1))],qi,qi,qn 73]),(14,qc [[.c (.p (.sl Xq1))],qn 3,[.boxN 185 1 [.rowN 4 1 [.bool]]],[.fnS 249 [.ptr 0 0]],qi,qn 1,[.boxN 356 2 [.p db,.p db]],qb,[.c (.slN 3 1 [.int .i64])],qn 1,[.c (.p (.sl Xq1))],qi,qi,qn 73]),(28,qc [qb,qn 1,[.boxN 185 1 [.rowN 4 1 [.bool]]],qn 5,[.c (.slN 3 1 [.int .i64])],qi,qi,qn 10,[.c (.p (.sl Xq1))],qn 3,[.c (.ptr 0 0)],[.fnS 249 [.ptr 0 0]],qi,qn 1,[.boxN 356 2 [.any,.p db]],qb,[.c (.slR 2)],qn 1,[.c (.p (.sl Xq1))],qi,qi,qn 48,qb,qn 24]),(40,qc [qb,qn 1,[.boxN 185 1 [.rowN 4 1 [.bool]]],qn 5,[.c (.p (.sl [.int .i64]))],qi,qi,qn 10,[.c (.p (.sl Xq1))],qn 3,[.c (.ptr 0 0)],[.fnS 249 [.ptr 0 0]],qi,qn 2,qb,qn 2,[.c (.p (.sl Xq1))],qi,qi,qn 54,qb,qn 2,qb,qn 15])],[.c (.sl Xq1)],[.c (.s 4 1 [.bool]),.c (.p di)],qc [qn 2,[.c (.rowN 4 1 [.bool])],qi,qn 84],[(36,[249]),(24,[249])],[(28,[88]),(40,[88])],8⟩
def Zx8:=mkC Zx7 prog 216 F232
theorem Yz1:Zx8.ok prog 216:=mkO trivial
def Yg4:TCon:=⟨Zx8.args,[.c (.p (.sl [.bool])),.c (.p di)],Zx8.fn⟩
theorem Ywq:Yg4.ok prog 216:=TCon.frz (c:=Zx8) Yz1 rfl
def Zpo(a0:Xy1):Option (List (Bool×Unit)×Int×Unit):=Zx8.fn (a0,())
def Z9(n:Nat)(x0:Xy1)(x1:(List (Bool×Unit)))(x2:Xy1)(x3 x4:Int):Option (List (Bool×Unit)×Int×Unit):=itr Zx7 prog 216 F232 n 6 (x0,x1,x2,x3,x4,())
def Yi(n:Nat)(x0:Xy1)(x1:(List (Bool×Unit)))(x2:Int)(x3 x4 x5:Bool)(x6:(List (Int×Unit)))(x7:Int)(x8:Xy1)(x9 x10:Int):Option (List (Bool×Unit)×Int×Unit):=itr Zx7 prog 216 F232 n 14 (x0,x1,x2,x3,x4,x5,x6,x7,x8,x9,x10,())
def Yw(n:Nat)(x0:Bool)(x1:(List (Bool×Unit)))(x2:(List (Int×Unit)))(x3 x4 x5:Int)(x6:Xy1)(x7:Int)(x8 x9:Bool)(x10 x11:Int)(x12:Xy1)(x13 x14:Int)(x15:Bool):Option (List (Bool×Unit)×Int×Unit):=itr Zx7 prog 216 F232 n 28 (x0,x1,x2,x3,x4,x5,x6,x7,x8,x9,x10,x11,x12,x13,x14,x15,())
def Yj(n:Nat)(x0:Bool)(x1:(List (Bool×Unit)))(x2:(List (Int×Unit)))(x3 x4:Int)(x5:Xy1)(x6:Int)(x7:Bool)(x8:Xy1)(x9 x10:Int)(x11 x12:Bool):Option (List (Bool×Unit)×Int×Unit):=itr Zx7 prog 216 F232 n 40 (x0,x1,x2,x3,x4,x5,x6,x7,x8,x9,x10,x11,x12,())
theorem Z5y a0:Eq (Zpo a0)<|Z9 fuel a0 ([]) a0 (ofNat a0.length) 0:=mkE
theorem Zoo n x0 x1 x2 x3 x4:Eq (Z9 (n+1) x0 x1 x2 x3 x4)<|bif x4<x3 then bif 0<=x4 then match x2[x4.toNat]? with|none=>none|some e0=>bif e0.1<=4 then bif Ze (x1.length+1) 1 then Z9 n x0 (x1++[(false,())]) x2 x3 (wrap .i64 (x4+1))else none else bif e0.1==5 then Yi n x0 x1 x4 true false false ([(e0.2.2.1,()),(e0.2.2.2.1,())]) 1 x2 x3 x4 else bif e0.1==6 then Yi n x0 x1 x4 false true true ([(e0.2.2.1,()),(e0.2.2.2.1,())]) 1 x2 x3 x4 else bif e0.1<=11 then Yi n x0 x1 x4 true false false ([(e0.2.2.1,()),(e0.2.2.2.1,())]) (ofNat (List.length [(e0.2.2.1,()),(e0.2.2.2.1,())])) x2 x3 x4 else bif e0.1<=15 then Yi n x0 x1 x4 true false true ([(e0.2.2.1,()),(e0.2.2.2.1,())]) (ofNat (List.length [(e0.2.2.1,()),(e0.2.2.2.1,())])) x2 x3 x4 else bif e0.1<=17 then Yi n x0 x1 x4 true true true ([(e0.2.2.1,()),(e0.2.2.2.1,())]) (ofNat (List.length [(e0.2.2.1,()),(e0.2.2.2.1,())])) x2 x3 x4 else Yi n x0 x1 x4 false true true ([(e0.2.2.1,()),(e0.2.2.2.1,())]) (ofNat (List.length [(e0.2.2.1,()),(e0.2.2.2.1,())])) x2 x3 x4 else none else some (x1,ofNat x0.length,()):=mkI
theorem Zx9 n x0 x1 x2 x3 x4 x5 x6 x7 x8 x9 x10:Eq (Yi (n+1) x0 x1 x2 x3 x4 x5 x6 x7 x8 x9 x10)<|bif x3 then Yw n false x1 x6 (ofNat x7.toNat) (ofNat x7.toNat) 0 x0 x2 x4 x5 0 (ofNat x7.toNat) x8 x9 x10 true else bif x4 then Yj n true x1 (List.take x7.toNat (List.drop 0 x6)) (ofNat x7.toNat) 0 x0 x2 x5 x8 x9 x10 true true else some ([],x2,()):=mkI
theorem Zmp n x0 x1 x2 x3 x4 x5 x6 x7 x8 x9 x10 x11 x12 x13 x14 x15:Eq (Yw (n+1) x0 x1 x2 x3 x4 x5 x6 x7 x8 x9 x10 x11 x12 x13 x14 x15)<|let k1:=bif x8 then Yj n true x1 (List.take x11.toNat (List.drop x10.toNat x2)) (ofNat x11.toNat) 0 x6 x7 x9 x12 x13 x14 true true else some ([],x7,());bif x5<x4 then bif 0<=x5 then bif x5.toNat<x3.toNat then match x2[0+x5.toNat]? with|none=>none|some e0=>bif 0<=e0.1 then bif e0.1.toNat<x1.length then match x1[e0.1.toNat]? with|none=>none|some e1=>bif !e1.1==x0 then bif x15 then k1 else k1 else Yw n x0 x1 x2 (ofNat x3.toNat) x4 (wrap .i64 (x5+1)) x6 x7 x8 x9 (ofNat x10.toNat) (ofNat x11.toNat) x12 x13 x14 x15 else none else none else none else none else bif x15 then bif Ze (x1.length+List.length [(x9,())]) 1 then Z9 n x6 (x1++[(x9,())]) x12 x13 (wrap .i64 (x14+1))else none else k1:=mkI
theorem Zmq n x0 x1 x2 x3 x4 x5 x6 x7 x8 x9 x10 x11 x12:Eq (Yj (n+1) x0 x1 x2 x3 x4 x5 x6 x7 x8 x9 x10 x11 x12)<|let k1:=bif Ze (x1.length+List.length [(x7,())]) 1 then Z9 n x5 (x1++[(x7,())]) x8 x9 (wrap .i64 (x10+1))else none;bif x4<x3 then bif 0<=x4 then match x2[x4.toNat]? with|none=>none|some e0=>bif 0<=e0.1 then bif e0.1.toNat<x1.length then match x1[e0.1.toNat]? with|none=>none|some e1=>bif !e1.1==x0 then bif x11 then bif x12 then some ([],x6,())else some ([],x6,())else k1 else Yj n x0 x1 x2 x3 (wrap .i64 (x4+1)) x5 x6 x7 x8 x9 x10 x11 x12 else none else none else none else bif x11 then bif x12 then k1 else some ([],x6,())else k1:=mkI
def Ywr:Tb:=[(119,Z5w),(216,Yg4)]
def F199:TFun:=⟨[],[],[.c (.sl Xq1)],[.c (.p db),.c (.p di),.c (.p di)],qc [qn 2,qb,qi,qi,qn 25],[],[],0⟩
def Z5z:=mkC Ywr prog 180 F199
theorem Yt1:Z5z.ok prog 180:=mkO ⟨Yt0,Ywq,trivial⟩
def Zmr(a0:Xy1):Option (Bool×Int×Int×Unit):=Z5z.fn (a0,())
theorem Ydn a0:Eq (Zmr a0)<|match Ze4 a0 with|none=>none|some e0=>bif e0.1 !=0 then some (false,0,e0.1,())else match Zpo a0 with|none=>none|some e1=>bif e1.2.1<ofNat a0.length then some (false,e1.2.1,42,())else bif 0<=wrap .i64 (e1.2.1-1)then match e1.1[toNat (wrap .i64 (e1.2.1-1))]? with|none=>none|some e2=>some (e2.1,wrap .i64 (e1.2.1-1),0,())else none:=mkE
def Yws:Tb:=[(180,Z5z)]
def F155:TFun:=⟨[],[],[.c (.sl Xq1),.c db],[.c (.p di),.c (.p di)],qc [qn 4,qi,qi,qn 18],[],[],0⟩
def Z50:=mkC Yws prog 122 F155
theorem Yt2:Z50.ok prog 122:=mkO ⟨Yt1,trivial⟩
def Zjf(a0:Xy1)(a1:Bool):Option (Int×Int×Unit):=Z50.fn (a0,a1,())
theorem Z51 a0 a1:Eq (Zjf a0 a1)<|match Zmr a0 with|none=>none|some e0=>bif e0.2.2.1==0 then bif !e0.1==a1 then some (e0.2.1,42,())else some e0.2 else some e0.2:=mkE
def Yz2:Tb:=[(122,Z50)]
def F83:TFun:=⟨[],[],[.c (.sl Xq1)],[.c (.p di),.c (.p di)],qc [qn 2,qi,qi,qn 4],[],[],0⟩
def Yni:=mkC Yz2 prog 57 F83
theorem ok83:Yni.ok prog 57:=mkO ⟨Yt2,trivial⟩
def Zjg(a0:Xy1):Option (Int×Int×Unit):=Yni.fn (a0,())
theorem Zya a0:Eq (Zjg a0)<|match Zjf a0 false with|none=>none|some e0=>some e0:=mkE
def Yz3:Tb:=[(122,Z50)]
def F84:TFun:=⟨[],[],[.c (.sl Xq1)],[.c (.p di),.c (.p di)],qc [qn 2,qi,qi,qn 4],[],[],0⟩
def Ynj:=mkC Yz3 prog 58 F84
theorem ok84:Ynj.ok prog 58:=mkO ⟨Yt2,trivial⟩
def Zhm(a0:Xy1):Option (Int×Int×Unit):=Ynj.fn (a0,())
theorem Z1c a0:Eq (Zhm a0)<|match Zjf a0 true with|none=>none|some e0=>some e0:=mkE
def Yz4:Tb:=[(55,Ynh),(57,Yni),(58,Ynj)]
def F44:TFun:=⟨[],[],[.a [.int .u8,.sl Xq1,.sl [.int .i64],.bool,.sl Xq1,.int .u8,.int .i64,.int .i64,.bool,.int .u8]],[.c (.p di),.c (.p di)],qc [qn 2,qi,qi,qn 16],[(11,[3]),(7,[56])],[],8⟩
def Z3c:=mkC Yz4 prog 30 F44
theorem ok44:Z3c.ok prog 30:=mkO ⟨ok81,ok83,ok84,trivial⟩
def Yl(a0:Xy2):Option (Int×Int×Unit):=Z3c.fn (a0,())
theorem Zyb a0:Eq (Yl a0)<|match Zh1 a0 with|none=>none|some e0=>bif e0.1 !=0 then some (0,e0.1,())else let k1:Option (Int×Int×Unit):=some (0,0,());bif ofNat a0.2.1.length==0 then bif ofNat a0.2.2.2.2.1.length==0 then k1 else match Zhm a0.2.2.2.2.1 with|none=>none|some e1=>bif e1.2.1 !=0 then bif 0<=e1.1 then match a0.2.2.2.2.1[e1.1.toNat]? with|none=>none|some e2=>some (e2.2.2.2.2.1,e1.2.1,())else none else k1 else match Zjg a0.2.1 with|none=>none|some e1=>bif e1.2.1 !=0 then bif 0<=e1.1 then match a0.2.1[e1.1.toNat]? with|none=>none|some e2=>some (e2.2.2.2.2.1,e1.2.1,())else none else bif ofNat a0.2.2.2.2.1.length==0 then k1 else match Zhm a0.2.2.2.2.1 with|none=>none|some e2=>bif e2.2.1 !=0 then bif 0<=e2.1 then match a0.2.2.2.2.1[e2.1.toNat]? with|none=>none|some e3=>some (e3.2.2.2.2.1,e2.2.1,())else none else k1:=mkE
end
end Tg
