import Derived.Test.YtmkhomfchbmkfaaGreatDoorVVT
/- Functions of the code, told plainly and checked by the kernel. -/
set_option linter.unusedVariables false
set_option linter.unusedSimpArgs false
set_option maxRecDepth 100000
namespace Tg
noncomputable section
open Go.Abs hiding fuel
open Go.Proofs.Tryz (prog)
open Int (ofNat toNat)
open Go.IntKind (wrap)
def Ysh:Tb:=[]
def F196:TFun:=⟨[],[],[.c (.int .u8)],[.c (.p di),.c (.p di)],qc [qn 2,qi,qi,qn 21],[],[],0⟩
def Ya9:=mkC Ysh prog 196 F196
theorem Yvb:Ya9.ok prog 196:=mkO trivial
def Zmz (a0:Int):Option (Int×Int×Unit):=Ya9.fn (a0,())
theorem Zzl a0:Eq (Zmz a0) <| let k1:Option (Int×Int×Unit):=bif a0==5 then some (1,0,()) else bif a0==6 then some (1,0,()) else bif a0>=7 then bif a0<=19 then some (2,0,()) else some (0,2,()) else some (0,2,());bif a0>=1 then bif a0<=4 then some (0,0,()) else k1 else k1:=mkE
def Zr7:Tb:=[(196,Ya9)]
def F163:TFun:=⟨[28,21,31],[(4,qc [qn 4,[.c (.rowN 250 3 Xq2)],[.c (.rowN 250 3 Xq2)],qn 9,[.c (.p (.sl Xq1))],qi,qi,qn 87]),(21,qc [qn 4,[.c (.rowN 250 3 Xq2)],[.c (.slN 250 3 Xq2)],qn 1,[.boxN 80 5 [.p (.int .u8),.p di,.p di,.p di,.p di]],qn 3,[.boxN 80 5 [.p (.int .u8),.p di,.p di,.p di,.p di]],[.boxN 250 3 [.p di,.p di,.p di]],qn 2,[.c (.p (.sl Xq1))],qi,qi,qn 87]),(23,qc [qn 4,[.c (.rowN 250 3 Xq2)],[.c (.slN 250 3 Xq2)],qn 1,[.boxN 80 5 [.p (.int .u8),.p di,.p di,.p di,.p di]],qn 3,[.boxN 80 5 [.p (.int .u8),.p di,.p di,.p di,.p di]],[.boxN 250 3 [.p di,.p di,.p di]],qn 2,[.c (.p (.sl Xq1))],qi,qi,qn 34,[.c (.slR 1)],qi,qi,qn 50]),(28,qc [qn 4,[.c (.rowN 250 3 Xq2)],[.c (.slN 250 3 Xq2)],qn 1,[.boxN 80 5 [.p (.int .u8),.p di,.p di,.p di,.p di]],qn 3,[.boxN 80 5 [.p (.int .u8),.p di,.p di,.p di,.p di]],[.boxN 250 3 [.p di,.p di,.p di]],qn 1,[.boxN 250 3 [.any,.p di,.p di]],[.c (.p (.sl Xq1))],qi,qi,qn 34,[.c (.slR 1)],qi,qi,qn 50]),(31,qc [qn 4,[.c (.rowN 250 3 Xq2)],[.c (.slN 250 3 Xq2)],qn 1,[.boxN 80 5 [.p (.int .u8),.p di,.p di,.p di,.p di]],qn 3,[.boxN 80 5 [.p (.int .u8),.p di,.p di,.p di,.p di]],[.boxN 250 3 [.p di,.p di,.p di]],qn 2,[.c (.p (.sl Xq1))],qi,qi,qn 87])],[.c (.sl Xq1)],[.c (.s 250 3 Xq2),.c (.p db)],qc [qn 2,[.c (.rowN 250 3 Xq2)],qb,qn 101],[(16,[197])],[],8⟩
def Zwy:=mkC Zr7 prog 163 F163
theorem Yvc:Zwy.ok prog 163:=mkO ⟨Yvb,trivial⟩
def Yd4:TCon:=⟨Zwy.args,[.c (.p (.sl Xq2)),.c (.p db)],Zwy.fn⟩
theorem Ysi:Yd4.ok prog 163:=TCon.frz (c:=Zwy) Yvc rfl
def Zjl (a0:Xy1):Option (List Xy3×Bool×Unit):=Zwy.fn (a0,())
def Zx (n:Nat)(x0 x1:(List Xy3))(x2:Xy1)(x3 x4:Int):Option (List Xy3×Bool×Unit):=itr Zr7 prog 163 F163 n 4 (x0,x1,x2,x3,x4,())
def Zbt (n:Nat)(x0 x1:(List Xy3))(x2 x3 x4 x5 x6 x7 x8 x9 x10 x11 x12 x13 x14 x15:Int)(x16:Xy1)(x17 x18:Int):Option (List Xy3×Bool×Unit):=itr Zr7 prog 163 F163 n 21 (x0,x1,x2,x3,x4,x5,x6,x7,x8,x9,x10,x11,x12,x13,x14,x15,x16,x17,x18,())
def Yy (n:Nat)(x0 x1:(List Xy3))(x2 x3 x4 x5 x6 x7 x8 x9 x10 x11 x12 x13 x14 x15:Int)(x16:Xy1)(x17 x18 x19 x20 x21 x22:Int):Option (List Xy3×Bool×Unit):=itr Zr7 prog 163 F163 n 23 (x0,x1,x2,x3,x4,x5,x6,x7,x8,x9,x10,x11,x12,x13,x14,x15,x16,x17,x18,x19,x20,x21,x22,())
def Zg8 (n:Nat)(x0 x1:(List Xy3))(x2 x3 x4 x5 x6 x7 x8 x9 x10 x11 x12 x13 x14 x15 x16 x17:Int)(x18:Xy1)(x19 x20 x21 x22 x23 x24:Int):Option (List Xy3×Bool×Unit):=itr Zr7 prog 163 F163 n 28 (x0,x1,x2,x3,x4,x5,x6,x7,x8,x9,x10,x11,x12,x13,x14,x15,x16,x17,x18,x19,x20,x21,x22,x23,x24,())
def Zdt (n:Nat)(x0 x1:(List Xy3))(x2 x3 x4 x5 x6 x7 x8 x9 x10 x11 x12 x13 x14 x15:Int)(x16:Xy1)(x17 x18:Int):Option (List Xy3×Bool×Unit):=itr Zr7 prog 163 F163 n 31 (x0,x1,x2,x3,x4,x5,x6,x7,x8,x9,x10,x11,x12,x13,x14,x15,x16,x17,x18,())
theorem Zqu a0:Eq (Zjl a0) <| Zx fuel ([]) ([]) a0 (ofNat a0.length) 0:=mkE
theorem Zey n x0 x1 x2 x3 x4:Eq (Zx (n+1) x0 x1 x2 x3 x4) <| bif x4<x3 then bif 0<=x4 then match x2[x4.toNat]? with | none=>none | some e0=>match Zmz e0.1 with | none=>none | some e1=>bif e1.2.1 !=0 then some (x0,false,()) else bif e1.1>ofNat x1.length then some (x0,false,()) else bif 0<=wrap .i64 (ofNat x1.length - e1.1) then bif decide (0<=toNat (wrap .i64 (ofNat x1.length - e1.1)))&&decide (toNat (wrap .i64 (ofNat x1.length - e1.1))<=x1.length) then bif 0<=wrap .i64 (ofNat x1.length - e1.1) then bif toNat (wrap .i64 (ofNat x1.length - e1.1))<=x1.length then bif toNat (wrap .i64 (ofNat x1.length - e1.1))=x1.length then Yy n x0 x1 (ofNat (toNat (wrap .i64 (ofNat x1.length - e1.1)))) e0.1 e0.2.1 e0.2.2.1 e0.2.2.2.1 e0.2.2.2.2.1 e0.1 0 0 0 (tmm false (tmm true e0.2.2.2.2.1 0) 400) x4 1 1 x2 x3 x4 1 0 0 0 else Yy n x0 x1 (ofNat (toNat (wrap .i64 (ofNat x1.length - e1.1)))) e0.1 e0.2.1 e0.2.2.1 e0.2.2.2.1 e0.2.2.2.2.1 e0.1 0 0 0 (tmm false (tmm true e0.2.2.2.2.1 0) 400) x4 1 1 x2 x3 x4 (ofNat (toNat (wrap .i64 (ofNat x1.length - e1.1)))) (ofNat (x1.length - toNat (wrap .i64 (ofNat x1.length - e1.1)))) (ofNat (x1.length - toNat (wrap .i64 (ofNat x1.length - e1.1)))) 0 else none else none else none else none else none else some (x0,ofNat x1.length==1,()):=mkI
theorem Zwz n x0 x1 x2 x3 x4 x5 x6 x7 x8 x9 x10 x11 x12 x13 x14 x15 x16 x17 x18:Eq (Zbt (n+1) x0 x1 x2 x3 x4 x5 x6 x7 x8 x9 x10 x11 x12 x13 x14 x15 x16 x17 x18) <| bif x3==1 then Zdt n x0 x1 (ofNat x2.toNat) x3 x4 x5 x6 x7 x8 (tmm true x4 0) x10 x11 x12 x13 x14 x15 x16 x17 x18 else Zdt n x0 x1 (ofNat x2.toNat) x3 x4 x5 x6 x7 x8 x9 x10 x11 x12 x13 x14 x15 x16 x17 x18:=mkI
theorem Zm0 n x0 x1 x2 x3 x4 x5 x6 x7 x8 x9 x10 x11 x12 x13 x14 x15 x16 x17 x18 x19 x20 x21 x22:Eq (Yy (n+1) x0 x1 x2 x3 x4 x5 x6 x7 x8 x9 x10 x11 x12 x13 x14 x15 x16 x17 x18 x19 x20 x21 x22) <| bif x22<x21 then bif 0<=x22 then bif x22.toNat<x20.toNat then match x1[x19.toNat+x22.toNat]? with | none=>none | some e0=>bif x22==0 then Zg8 n x0 x1 (ofNat x2.toNat) x3 x4 x5 x6 x7 x8 x9 e0.1 x11 x12 x13 x14 x15 e0.2.1 e0.2.2.1 x16 x17 x18 (ofNat x19.toNat) (ofNat x20.toNat) x21 x22 else Zg8 n x0 x1 (ofNat x2.toNat) x3 x4 x5 x6 x7 x8 x9 x10 e0.1 x12 x13 x14 x15 e0.2.1 e0.2.2.1 x16 x17 x18 (ofNat x19.toNat) (ofNat x20.toNat) x21 x22 else none else none else Zbt n x0 x1 (ofNat x2.toNat) x3 x4 x5 x6 x7 x8 x9 x10 x11 x12 x13 x14 x15 x16 x17 x18:=mkI
theorem Zm1 n x0 x1 x2 x3 x4 x5 x6 x7 x8 x9 x10 x11 x12 x13 x14 x15 x16 x17 x18 x19 x20 x21 x22 x23 x24:Eq (Zg8 (n+1) x0 x1 x2 x3 x4 x5 x6 x7 x8 x9 x10 x11 x12 x13 x14 x15 x16 x17 x18 x19 x20 x21 x22 x23 x24) <| Yy n x0 x1 (ofNat x2.toNat) x3 x4 x5 x6 x7 x8 x9 x10 x11 x12 x13 (wrap .i64 (x14+x16)) (tmm true x15 (wrap .i64 (x17+1))) x18 x19 x20 (ofNat x21.toNat) (ofNat x22.toNat) x23 (wrap .i64 (x24+1)):=mkI
theorem Zw0 n x0 x1 x2 x3 x4 x5 x6 x7 x8 x9 x10 x11 x12 x13 x14 x15 x16 x17 x18:Eq (Zdt (n+1) x0 x1 x2 x3 x4 x5 x6 x7 x8 x9 x10 x11 x12 x13 x14 x15 x16 x17 x18) <| bif !(x8==x3&&(x9==x4&&(x10==x5&&(x11==x6&&(x12==x7&&true))))) then some (x0,false,()) else bif decide (x2.toNat<=x1.length)&&Zb (x2.toNat+List.length [(x13,x14,x15,())]) 24 then bif Zb (x0.length+List.length [(x13,x14,x15,())]) 24 then Zx n (x0++[(x13,x14,x15,())]) (List.take x2.toNat x1++[(x13,x14,x15,())]) x16 x17 (wrap .i64 (x18+1)) else none else none:=mkI
def Ysj:Tb:=[(163,Yd4)]
def F134:TFun:=⟨[],[],[.c (.sl Xq1)],[.c (.p (.sl Xq2)),.c (.p di)],qc [qn 2,[.c (.p (.sl Xq2))],qi,qn 21],[],[],0⟩
def Yba:=mkC Ysj prog 134 F134
theorem Yvd:Yba.ok prog 134:=mkO ⟨Ysi,trivial⟩
def Zta (a0:Xy1):Option (List Xy3×Int×Unit):=Yba.fn (a0,())
theorem Zzm a0:Eq (Zta a0) <| bif ofNat a0.length>60 then some ([],4,()) else match Zjl a0 with | none=>none | some e0=>bif !e0.2.1 then some ([],8,()) else bif 0<=wrap .i64 (ofNat e0.1.length - 1) then match e0.1[toNat (wrap .i64 (ofNat e0.1.length - 1))]? with | none=>none | some e1=>bif e1.2.2.1>20 then some ([],34,()) else some (e0.1,0,()) else none:=mkE
def Yve:Tb:=[(134,Yba)]
def F91:TFun:=⟨[],[],[.c (.sl Xq1)],[.c (.p di)],qc [qn 2,qi,qn 8],[],[],0⟩
def Yd5:=mkC Yve prog 91 F91
theorem ok91:Yd5.ok prog 91:=mkO ⟨Yvd,trivial⟩
def Zfd (a0:Xy1):Option (Int×Unit):=Yd5.fn (a0,())
theorem Zzn a0:Eq (Zfd a0) <| match Zta a0 with | none=>none | some e0=>some (e0.2.1,()):=mkE
def Yvf:Tb:=[]
def F93:TFun:=⟨[],[],[.a [.int .u8,.int .i64,.int .i64]],[.c (.p di)],qc [qn 2,qi,qn 37],[],[],0⟩
def Yjv:=mkC Yvf prog 93 F93
theorem ok93:Yjv.ok prog 93:=mkO trivial
def Zg9 (a0:Xy3):Option (Int×Unit):=Yjv.fn (a0,())
theorem Zr8 a0:Eq (Zg9 a0) <| let k1:Option (Int×Unit):=some (8,());bif a0.2.1<1 then k1 else bif a0.2.1>1073741824 then k1 else bif a0.1==2 then bif a0.2.2.1>=1 then bif a0.2.2.1<=a0.2.1 then bif a0.2.1<=wrap .i64 (16*a0.2.2.1) then some (0,()) else k1 else k1 else k1 else let k2:Option (Int×Unit):=bif a0.2.2.1==0 then some (0,()) else k1;bif a0.1==1 then k2 else bif a0.1==3 then k2 else k1:=mkE
def Ypv:Tb:=[(137,Yii)]
def F92:TFun:=⟨[],[(14,qc [[.c (.p (.sl [.int .i64]))],[.c (.fn 135 [])],qn 5,qi,qi,qn 19,[.c (.p (.sl [.int .i64]))],qn 19,qb,qn 9])],[.c (.sl [.int .i64]),.c db],[.c (.p di)],qc [qn 4,qi,qn 25],[(20,[135]),(10,[164]),(7,[136])],[(14,[9,30])],8⟩
def Yjw:=mkC Ypv prog 92 F92
theorem ok92:Yjw.ok prog 92:=mkO ⟨Yt1,trivial⟩
def Zfo (a0:(List (Int×Unit)))(a1:Bool):Option (Int×Unit):=Yjw.fn (a0,a1,())
def Zaj (n:Nat)(x0:(List (Int×Unit)))(x1 x2:Int)(x3:(List (Int×Unit)))(x4:Bool):Option (Int×Unit):=itr Ypv prog 92 F92 n 14 (x0,x1,x2,x3,x4,())
theorem Zqv a0 a1:Eq (Zfo a0 a1) <| bif ofNat a0.length>4 then some (4,()) else bif ofNat a0.length==0 then some (8,()) else let k1:=Zaj fuel a0 (ofNat a0.length) 0 a0 false;bif a1 then bif ofNat a0.length !=2 then some (8,()) else k1 else k1:=mkE
theorem Zfs n x0 x1 x2 x3 x4:Eq (Zaj (n+1) x0 x1 x2 x3 x4) <| bif x2<x1 then bif 0<=x2 then match x0[x2.toNat]? with | none=>none | some e0=>let k1:Option (Int×Unit):=bif x4 then some (8,()) else bif x2>=0 then some (8,()) else match Yb x3 with | none=>none | some e1=>bif e1.1<ofNat x3.length then some (43,()) else some (0,());bif e0.1<0 then k1 else bif e0.1>=4 then k1 else Zaj n x0 x1 (wrap .i64 (x2+1)) x3 x4 else none else bif x4 then some (8,()) else match Yb x3 with | none=>none | some e0=>bif e0.1<ofNat x3.length then some (43,()) else some (0,()):=mkI
def Yjx:Tb:=[(91,Yd5),(92,Yjw),(93,Yjv)]
def F59:TFun:=⟨[4,12],[(4,qc [qn 1,[.boxN 27 10 [.any,.any,.p (.sl [.int .i64]),.p db,.p (.sl Xq1),.p (.int .u8),.p di,.p di,.any,.any]],qn 64]),(12,qc [qn 1,[.boxN 27 10 [.any,.any,.p (.sl [.int .i64]),.p db,.any,.p (.int .u8),.p di,.p di,.any,.any]],qn 64])],[.a [.int .u8,.sl Xq1,.sl [.int .i64],.bool,.sl Xq1,.int .u8,.int .i64,.int .i64,.bool,.int .u8]],[.c (.p di)],qc [qn 2,qi,qn 63],[],[],0⟩
def Yjy:=mkC Yjx prog 59 F59
theorem ok59:Yjy.ok prog 59:=mkO ⟨ok91,ok92,ok93,trivial⟩
def Zib (a0:Xy2):Option (Int×Unit):=Yjy.fn (a0,())
def Zb3 (n:Nat)(x0:(List (Int×Unit)))(x1:Bool)(x2:Xy1)(x3 x4 x5:Int):Option (Int×Unit):=itr Yjx prog 59 F59 n 4 (x0,x1,x2,x3,x4,x5,())
def Zdu (n:Nat)(x0:(List (Int×Unit)))(x1:Bool)(x2 x3 x4:Int):Option (Int×Unit):=itr Yjx prog 59 F59 n 12 (x0,x1,x2,x3,x4,())
theorem Ztt a0:Eq (Zib a0) <| bif a0.1<1 then some (8,()) else bif a0.1>4 then some (8,()) else let k1:Option (Int×Unit):=let k3:=Zb3 fuel a0.2.2.1 a0.2.2.2.1 a0.2.2.2.2.1 a0.2.2.2.2.2.1 a0.2.2.2.2.2.2.1 a0.2.2.2.2.2.2.2.1;bif a0.1 !=1 then match Zfd a0.2.1 with | none=>none | some e0=>bif e0.1 !=0 then some (e0.1,()) else k3 else bif ofNat a0.2.1.length>0 then some (8,()) else k3;bif a0.2.2.2.2.2.2.2.2.2.1 !=1 then bif a0.2.2.2.2.2.2.2.2.2.1 !=2 then some (8,()) else k1 else k1:=mkE
theorem Zr9 n x0 x1 x2 x3 x4 x5:Eq (Zb3 (n+1) x0 x1 x2 x3 x4 x5) <| let k1:=Zdu n x0 x1 x3 x4 x5;bif ofNat x2.length>0 then match Zfd x2 with | none=>none | some e0=>bif e0.1 !=0 then some (e0.1,()) else k1 else k1:=mkI
theorem Zqw n x0 x1 x2 x3 x4:Eq (Zdu (n+1) x0 x1 x2 x3 x4) <| match Zfo x0 x1 with | none=>none | some e0=>bif e0.1 !=0 then some (e0.1,()) else let k1:=match Zg9 (x2,x3,x4,()) with | none=>none | some e1=>some (e1.1,());bif x1 then bif x2 !=1 then some (8,()) else k1 else k1:=mkI
def Zw1:Tb:=[]
def F165:TFun:=⟨[14],[(6,qc [[.c (.p (.sl Xq1))],qn 3,[.boxN 186 1 [.rowN 4 1 [.bool]]],[.fnS 198 [.ptr 0 0]],qn 6,[.c (.p (.sl Xq1))],qi,qi,qn 73]),(14,qc [[.c (.p (.sl Xq1))],qn 3,[.boxN 186 1 [.rowN 4 1 [.bool]]],[.fnS 198 [.ptr 0 0]],qi,qn 1,[.boxN 293 2 [.p db,.p db]],qb,[.c (.slN 3 1 [.int .i64])],qn 1,[.c (.p (.sl Xq1))],qi,qi,qn 73]),(28,qc [qb,qn 1,[.boxN 186 1 [.rowN 4 1 [.bool]]],qn 5,[.c (.slN 3 1 [.int .i64])],qi,qi,qn 10,[.c (.p (.sl Xq1))],qn 3,[.c (.ptr 0 0)],[.fnS 198 [.ptr 0 0]],qi,qn 1,[.boxN 293 2 [.any,.p db]],qb,[.c (.slR 2)],qn 1,[.c (.p (.sl Xq1))],qi,qi,qn 48,qb,qn 24]),(40,qc [qb,qn 1,[.boxN 186 1 [.rowN 4 1 [.bool]]],qn 5,[.c (.p (.sl [.int .i64]))],qi,qi,qn 10,[.c (.p (.sl Xq1))],qn 3,[.c (.ptr 0 0)],[.fnS 198 [.ptr 0 0]],qi,qn 2,qb,qn 2,[.c (.p (.sl Xq1))],qi,qi,qn 54,qb,qn 2,qb,qn 15])],[.c (.sl Xq1)],[.c (.s 4 1 [.bool]),.c (.p di)],qc [qn 2,[.c (.rowN 4 1 [.bool])],qi,qn 84],[(36,[198]),(24,[198])],[(28,[88]),(40,[88])],8⟩
def Zw2:=mkC Zw1 prog 165 F165
theorem Yvg:Zw2.ok prog 165:=mkO trivial
def Yd6:TCon:=⟨Zw2.args,[.c (.p (.sl [.bool])),.c (.p di)],Zw2.fn⟩
theorem Ysk:Yd6.ok prog 165:=TCon.frz (c:=Zw2) Yvg rfl
def Zpp (a0:Xy1):Option (List (Bool×Unit)×Int×Unit):=Zw2.fn (a0,())
def Ye (n:Nat)(x0:Xy1)(x1:(List (Bool×Unit)))(x2:Xy1)(x3 x4:Int):Option (List (Bool×Unit)×Int×Unit):=itr Zw1 prog 165 F165 n 6 (x0,x1,x2,x3,x4,())
def Yl (n:Nat)(x0:Xy1)(x1:(List (Bool×Unit)))(x2:Int)(x3 x4 x5:Bool)(x6:(List (Int×Unit)))(x7:Int)(x8:Xy1)(x9 x10:Int):Option (List (Bool×Unit)×Int×Unit):=itr Zw1 prog 165 F165 n 14 (x0,x1,x2,x3,x4,x5,x6,x7,x8,x9,x10,())
def Yz (n:Nat)(x0:Bool)(x1:(List (Bool×Unit)))(x2:(List (Int×Unit)))(x3 x4 x5:Int)(x6:Xy1)(x7:Int)(x8 x9:Bool)(x10 x11:Int)(x12:Xy1)(x13 x14:Int)(x15:Bool):Option (List (Bool×Unit)×Int×Unit):=itr Zw1 prog 165 F165 n 28 (x0,x1,x2,x3,x4,x5,x6,x7,x8,x9,x10,x11,x12,x13,x14,x15,())
def Ym (n:Nat)(x0:Bool)(x1:(List (Bool×Unit)))(x2:(List (Int×Unit)))(x3 x4:Int)(x5:Xy1)(x6:Int)(x7:Bool)(x8:Xy1)(x9 x10:Int)(x11 x12:Bool):Option (List (Bool×Unit)×Int×Unit):=itr Zw1 prog 165 F165 n 40 (x0,x1,x2,x3,x4,x5,x6,x7,x8,x9,x10,x11,x12,())
theorem Z4a a0:Eq (Zpp a0) <| Ye fuel a0 ([]) a0 (ofNat a0.length) 0:=mkE
theorem Zoy n x0 x1 x2 x3 x4:Eq (Ye (n+1) x0 x1 x2 x3 x4) <| bif x4<x3 then bif 0<=x4 then match x2[x4.toNat]? with | none=>none | some e0=>bif e0.1<=4 then bif Zb (x1.length+1) 1 then Ye n x0 (x1++[(false,())]) x2 x3 (wrap .i64 (x4+1)) else none else bif e0.1==5 then Yl n x0 x1 x4 true false false ([(e0.2.2.1,()),(e0.2.2.2.1,())]) 1 x2 x3 x4 else bif e0.1==6 then Yl n x0 x1 x4 false true true ([(e0.2.2.1,()),(e0.2.2.2.1,())]) 1 x2 x3 x4 else bif e0.1<=11 then Yl n x0 x1 x4 true false false ([(e0.2.2.1,()),(e0.2.2.2.1,())]) (ofNat (List.length [(e0.2.2.1,()),(e0.2.2.2.1,())])) x2 x3 x4 else bif e0.1<=15 then Yl n x0 x1 x4 true false true ([(e0.2.2.1,()),(e0.2.2.2.1,())]) (ofNat (List.length [(e0.2.2.1,()),(e0.2.2.2.1,())])) x2 x3 x4 else bif e0.1<=17 then Yl n x0 x1 x4 true true true ([(e0.2.2.1,()),(e0.2.2.2.1,())]) (ofNat (List.length [(e0.2.2.1,()),(e0.2.2.2.1,())])) x2 x3 x4 else Yl n x0 x1 x4 false true true ([(e0.2.2.1,()),(e0.2.2.2.1,())]) (ofNat (List.length [(e0.2.2.1,()),(e0.2.2.2.1,())])) x2 x3 x4 else none else some (x1,ofNat x0.length,()):=mkI
theorem Zw3 n x0 x1 x2 x3 x4 x5 x6 x7 x8 x9 x10:Eq (Yl (n+1) x0 x1 x2 x3 x4 x5 x6 x7 x8 x9 x10) <| bif x3 then Yz n false x1 x6 (ofNat x7.toNat) (ofNat x7.toNat) 0 x0 x2 x4 x5 0 (ofNat x7.toNat) x8 x9 x10 true else bif x4 then Ym n true x1 (List.take x7.toNat (List.drop 0 x6)) (ofNat x7.toNat) 0 x0 x2 x5 x8 x9 x10 true true else some ([],x2,()):=mkI
theorem Zm2 n x0 x1 x2 x3 x4 x5 x6 x7 x8 x9 x10 x11 x12 x13 x14 x15:Eq (Yz (n+1) x0 x1 x2 x3 x4 x5 x6 x7 x8 x9 x10 x11 x12 x13 x14 x15) <| let k1:=bif x8 then Ym n true x1 (List.take x11.toNat (List.drop x10.toNat x2)) (ofNat x11.toNat) 0 x6 x7 x9 x12 x13 x14 true true else some ([],x7,());bif x5<x4 then bif 0<=x5 then bif x5.toNat<x3.toNat then match x2[0+x5.toNat]? with | none=>none | some e0=>bif 0<=e0.1 then bif e0.1.toNat<x1.length then match x1[e0.1.toNat]? with | none=>none | some e1=>bif !e1.1==x0 then bif x15 then k1 else k1 else Yz n x0 x1 x2 (ofNat x3.toNat) x4 (wrap .i64 (x5+1)) x6 x7 x8 x9 (ofNat x10.toNat) (ofNat x11.toNat) x12 x13 x14 x15 else none else none else none else none else bif x15 then bif Zb (x1.length+List.length [(x9,())]) 1 then Ye n x6 (x1++[(x9,())]) x12 x13 (wrap .i64 (x14+1)) else none else k1:=mkI
theorem Zm3 n x0 x1 x2 x3 x4 x5 x6 x7 x8 x9 x10 x11 x12:Eq (Ym (n+1) x0 x1 x2 x3 x4 x5 x6 x7 x8 x9 x10 x11 x12) <| let k1:=bif Zb (x1.length+List.length [(x7,())]) 1 then Ye n x5 (x1++[(x7,())]) x8 x9 (wrap .i64 (x10+1)) else none;bif x4<x3 then bif 0<=x4 then match x2[x4.toNat]? with | none=>none | some e0=>bif 0<=e0.1 then bif e0.1.toNat<x1.length then match x1[e0.1.toNat]? with | none=>none | some e1=>bif !e1.1==x0 then bif x11 then bif x12 then some ([],x6,()) else some ([],x6,()) else k1 else Ym n x0 x1 x2 x3 (wrap .i64 (x4+1)) x5 x6 x7 x8 x9 x10 x11 x12 else none else none else none else bif x11 then bif x12 then k1 else some ([],x6,()) else k1:=mkI
def Ysl:Tb:=[(91,Yd5),(165,Yd6)]
def F138:TFun:=⟨[],[],[.c (.sl Xq1)],[.c (.p db),.c (.p di),.c (.p di)],qc [qn 2,qb,qi,qi,qn 25],[],[],0⟩
def Ybb:=mkC Ysl prog 138 F138
theorem Yvh:Ybb.ok prog 138:=mkO ⟨ok91,Ysk,trivial⟩
def Zw4 (a0:Xy1):Option (Bool×Int×Int×Unit):=Ybb.fn (a0,())
theorem Ybc a0:Eq (Zw4 a0) <| match Zfd a0 with | none=>none | some e0=>bif e0.1 !=0 then some (false,0,e0.1,()) else match Zpp a0 with | none=>none | some e1=>bif e1.2.1<ofNat a0.length then some (false,e1.2.1,42,()) else bif 0<=wrap .i64 (e1.2.1 - 1) then match e1.1[toNat (wrap .i64 (e1.2.1 - 1))]? with | none=>none | some e2=>some (e2.1,wrap .i64 (e1.2.1 - 1),0,()) else none:=mkE
def Yvi:Tb:=[(138,Ybb)]
def F94:TFun:=⟨[],[],[.c (.sl Xq1),.c db],[.c (.p di),.c (.p di)],qc [qn 4,qi,qi,qn 18],[],[],0⟩
def Yd7:=mkC Yvi prog 94 F94
theorem ok94:Yd7.ok prog 94:=mkO ⟨Yvh,trivial⟩
def Zjm (a0:Xy1)(a1:Bool):Option (Int×Int×Unit):=Yd7.fn (a0,a1,())
theorem Z4b a0 a1:Eq (Zjm a0 a1) <| match Zw4 a0 with | none=>none | some e0=>bif e0.2.2.1==0 then bif !e0.1==a1 then some (e0.2.1,42,()) else some e0.2 else some e0.2:=mkE
def Yvj:Tb:=[(94,Yd7)]
def F61:TFun:=⟨[],[],[.c (.sl Xq1)],[.c (.p di),.c (.p di)],qc [qn 2,qi,qi,qn 4],[],[],0⟩
def Yjz:=mkC Yvj prog 61 F61
theorem ok61:Yjz.ok prog 61:=mkO ⟨ok94,trivial⟩
def Zjn (a0:Xy1):Option (Int×Int×Unit):=Yjz.fn (a0,())
theorem Zw5 a0:Eq (Zjn a0) <| match Zjm a0 false with | none=>none | some e0=>some e0:=mkE
def Yvk:Tb:=[(94,Yd7)]
def F62:TFun:=⟨[],[],[.c (.sl Xq1)],[.c (.p di),.c (.p di)],qc [qn 2,qi,qi,qn 4],[],[],0⟩
def Yj0:=mkC Yvk prog 62 F62
theorem ok62:Yj0.ok prog 62:=mkO ⟨ok94,trivial⟩
def Zhx (a0:Xy1):Option (Int×Int×Unit):=Yj0.fn (a0,())
theorem Zzo a0:Eq (Zhx a0) <| match Zjm a0 true with | none=>none | some e0=>some e0:=mkE
def Yvl:Tb:=[(59,Yjy),(61,Yjz),(62,Yj0)]
def F19:TFun:=⟨[],[],[.a [.int .u8,.sl Xq1,.sl [.int .i64],.bool,.sl Xq1,.int .u8,.int .i64,.int .i64,.bool,.int .u8]],[.c (.p di),.c (.p di)],qc [qn 2,qi,qi,qn 16],[(11,[4]),(7,[60])],[],8⟩
def Z10:=mkC Yvl prog 19 F19
theorem ok19:Z10.ok prog 19:=mkO ⟨ok59,ok61,ok62,trivial⟩
def Q7 (a0:Xy2):Option (Int×Int×Unit):=Z10.fn (a0,())
theorem Zw6 a0:Eq (Q7 a0) <| match Zib a0 with | none=>none | some e0=>bif e0.1 !=0 then some (0,e0.1,()) else let k1:Option (Int×Int×Unit):=some (0,0,());bif ofNat a0.2.1.length==0 then bif ofNat a0.2.2.2.2.1.length==0 then k1 else match Zhx a0.2.2.2.2.1 with | none=>none | some e1=>bif e1.2.1 !=0 then bif 0<=e1.1 then match a0.2.2.2.2.1[e1.1.toNat]? with | none=>none | some e2=>some (e2.2.2.2.2.1,e1.2.1,()) else none else k1 else match Zjn a0.2.1 with | none=>none | some e1=>bif e1.2.1 !=0 then bif 0<=e1.1 then match a0.2.1[e1.1.toNat]? with | none=>none | some e2=>some (e2.2.2.2.2.1,e1.2.1,()) else none else bif ofNat a0.2.2.2.2.1.length==0 then k1 else match Zhx a0.2.2.2.2.1 with | none=>none | some e2=>bif e2.2.1 !=0 then bif 0<=e2.1 then match a0.2.2.2.2.1[e2.1.toNat]? with | none=>none | some e3=>some (e3.2.2.2.2.1,e2.2.1,()) else none else k1:=mkE
end
end Tg
