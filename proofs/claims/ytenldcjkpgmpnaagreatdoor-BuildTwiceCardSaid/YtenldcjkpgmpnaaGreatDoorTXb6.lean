import Derived.Test.YtenldcjkpgmpnaaGreatDoorTVT
/- Functions of the code, told plainly and checked by the kernel. -/
set_option linter.unusedVariables false
set_option linter.unusedSimpArgs false
set_option maxRecDepth 100000
namespace Tg
noncomputable section
open Go.Abs hiding fuel
open Go.Proofs.Tryz (prog)
open Int (ofNat toNat)
open Go.IntKind (wrap)
def Ypq:Tb:=[]
def F231:TFun:=⟨[],[],[.c (.int .u8)],[.c (.p di),.c (.p di)],qc [qn 2,qi,qi,qn 21],[],[],0⟩
def Z87:=mkC Ypq prog 231 F231
theorem Ysm:Z87.ok prog 231:=mkO trivial
def Zlo (a0:Int):Option (Int×Int×Unit):=Z87.fn (a0,())
theorem Zxt a0:Eq (Zlo a0) <| let k1:Option (Int×Int×Unit):=bif a0==5 then some (1,0,()) else bif a0==6 then some (1,0,()) else bif a0>=7 then bif a0<=19 then some (2,0,()) else some (0,2,()) else some (0,2,());bif a0>=1 then bif a0<=4 then some (0,0,()) else k1 else k1:=mkE
def Zq9:Tb:=[(231,Z87)]
def F193:TFun:=⟨[28,21,31],[(4,qc [qn 4,[.c (.rowN 296 3 Xq2)],[.c (.rowN 296 3 Xq2)],qn 9,[.c (.p (.sl Xq1))],qi,qi,qn 87]),(21,qc [qn 4,[.c (.rowN 296 3 Xq2)],[.c (.slN 296 3 Xq2)],qn 1,[.boxN 76 5 [.p (.int .u8),.p di,.p di,.p di,.p di]],qn 3,[.boxN 76 5 [.p (.int .u8),.p di,.p di,.p di,.p di]],[.boxN 296 3 [.p di,.p di,.p di]],qn 2,[.c (.p (.sl Xq1))],qi,qi,qn 87]),(23,qc [qn 4,[.c (.rowN 296 3 Xq2)],[.c (.slN 296 3 Xq2)],qn 1,[.boxN 76 5 [.p (.int .u8),.p di,.p di,.p di,.p di]],qn 3,[.boxN 76 5 [.p (.int .u8),.p di,.p di,.p di,.p di]],[.boxN 296 3 [.p di,.p di,.p di]],qn 2,[.c (.p (.sl Xq1))],qi,qi,qn 34,[.c (.slR 1)],qi,qi,qn 50]),(28,qc [qn 4,[.c (.rowN 296 3 Xq2)],[.c (.slN 296 3 Xq2)],qn 1,[.boxN 76 5 [.p (.int .u8),.p di,.p di,.p di,.p di]],qn 3,[.boxN 76 5 [.p (.int .u8),.p di,.p di,.p di,.p di]],[.boxN 296 3 [.p di,.p di,.p di]],qn 1,[.boxN 296 3 [.any,.p di,.p di]],[.c (.p (.sl Xq1))],qi,qi,qn 34,[.c (.slR 1)],qi,qi,qn 50]),(31,qc [qn 4,[.c (.rowN 296 3 Xq2)],[.c (.slN 296 3 Xq2)],qn 1,[.boxN 76 5 [.p (.int .u8),.p di,.p di,.p di,.p di]],qn 3,[.boxN 76 5 [.p (.int .u8),.p di,.p di,.p di,.p di]],[.boxN 296 3 [.p di,.p di,.p di]],qn 2,[.c (.p (.sl Xq1))],qi,qi,qn 87])],[.c (.sl Xq1)],[.c (.s 296 3 Xq2),.c (.p db)],qc [qn 2,[.c (.rowN 296 3 Xq2)],qb,qn 101],[(16,[232])],[],8⟩
def Zvs:=mkC Zq9 prog 193 F193
theorem Ysn:Zvs.ok prog 193:=mkO ⟨Ysm,trivial⟩
def Yb3:TCon:=⟨Zvs.args,[.c (.p (.sl Xq2)),.c (.p db)],Zvs.fn⟩
theorem Ypr:Yb3.ok prog 193:=TCon.frz (c:=Zvs) Ysn rfl
def Ziu (a0:Xy1):Option (List Xy3×Bool×Unit):=Zvs.fn (a0,())
def Zw (n:Nat)(x0 x1:(List Xy3))(x2:Xy1)(x3 x4:Int):Option (List Xy3×Bool×Unit):=itr Zq9 prog 193 F193 n 4 (x0,x1,x2,x3,x4,())
def Zbj (n:Nat)(x0 x1:(List Xy3))(x2 x3 x4 x5 x6 x7 x8 x9 x10 x11 x12 x13 x14 x15:Int)(x16:Xy1)(x17 x18:Int):Option (List Xy3×Bool×Unit):=itr Zq9 prog 193 F193 n 21 (x0,x1,x2,x3,x4,x5,x6,x7,x8,x9,x10,x11,x12,x13,x14,x15,x16,x17,x18,())
def Yw (n:Nat)(x0 x1:(List Xy3))(x2 x3 x4 x5 x6 x7 x8 x9 x10 x11 x12 x13 x14 x15:Int)(x16:Xy1)(x17 x18 x19 x20 x21 x22:Int):Option (List Xy3×Bool×Unit):=itr Zq9 prog 193 F193 n 23 (x0,x1,x2,x3,x4,x5,x6,x7,x8,x9,x10,x11,x12,x13,x14,x15,x16,x17,x18,x19,x20,x21,x22,())
def Zgl (n:Nat)(x0 x1:(List Xy3))(x2 x3 x4 x5 x6 x7 x8 x9 x10 x11 x12 x13 x14 x15 x16 x17:Int)(x18:Xy1)(x19 x20 x21 x22 x23 x24:Int):Option (List Xy3×Bool×Unit):=itr Zq9 prog 193 F193 n 28 (x0,x1,x2,x3,x4,x5,x6,x7,x8,x9,x10,x11,x12,x13,x14,x15,x16,x17,x18,x19,x20,x21,x22,x23,x24,())
def Zdb (n:Nat)(x0 x1:(List Xy3))(x2 x3 x4 x5 x6 x7 x8 x9 x10 x11 x12 x13 x14 x15:Int)(x16:Xy1)(x17 x18:Int):Option (List Xy3×Bool×Unit):=itr Zq9 prog 193 F193 n 31 (x0,x1,x2,x3,x4,x5,x6,x7,x8,x9,x10,x11,x12,x13,x14,x15,x16,x17,x18,())
theorem Zps a0:Eq (Ziu a0) <| Zw fuel ([]) ([]) a0 (ofNat a0.length) 0:=mkE
theorem Zei n x0 x1 x2 x3 x4:Eq (Zw (n+1) x0 x1 x2 x3 x4) <| bif x4<x3 then bif 0<=x4 then match x2[x4.toNat]? with | none=>none | some e0=>match Zlo e0.1 with | none=>none | some e1=>bif e1.2.1 !=0 then some (x0,false,()) else bif e1.1>ofNat x1.length then some (x0,false,()) else bif 0<=wrap .i64 (ofNat x1.length - e1.1) then bif decide (0<=toNat (wrap .i64 (ofNat x1.length - e1.1)))&&decide (toNat (wrap .i64 (ofNat x1.length - e1.1))<=x1.length) then bif 0<=wrap .i64 (ofNat x1.length - e1.1) then bif toNat (wrap .i64 (ofNat x1.length - e1.1))<=x1.length then bif toNat (wrap .i64 (ofNat x1.length - e1.1))=x1.length then Yw n x0 x1 (ofNat (toNat (wrap .i64 (ofNat x1.length - e1.1)))) e0.1 e0.2.1 e0.2.2.1 e0.2.2.2.1 e0.2.2.2.2.1 e0.1 0 0 0 (tmm false (tmm true e0.2.2.2.2.1 0) 400) x4 1 1 x2 x3 x4 1 0 0 0 else Yw n x0 x1 (ofNat (toNat (wrap .i64 (ofNat x1.length - e1.1)))) e0.1 e0.2.1 e0.2.2.1 e0.2.2.2.1 e0.2.2.2.2.1 e0.1 0 0 0 (tmm false (tmm true e0.2.2.2.2.1 0) 400) x4 1 1 x2 x3 x4 (ofNat (toNat (wrap .i64 (ofNat x1.length - e1.1)))) (ofNat (x1.length - toNat (wrap .i64 (ofNat x1.length - e1.1)))) (ofNat (x1.length - toNat (wrap .i64 (ofNat x1.length - e1.1)))) 0 else none else none else none else none else none else some (x0,ofNat x1.length==1,()):=mkI
theorem Zvt n x0 x1 x2 x3 x4 x5 x6 x7 x8 x9 x10 x11 x12 x13 x14 x15 x16 x17 x18:Eq (Zbj (n+1) x0 x1 x2 x3 x4 x5 x6 x7 x8 x9 x10 x11 x12 x13 x14 x15 x16 x17 x18) <| bif x3==1 then Zdb n x0 x1 (ofNat x2.toNat) x3 x4 x5 x6 x7 x8 (tmm true x4 0) x10 x11 x12 x13 x14 x15 x16 x17 x18 else Zdb n x0 x1 (ofNat x2.toNat) x3 x4 x5 x6 x7 x8 x9 x10 x11 x12 x13 x14 x15 x16 x17 x18:=mkI
theorem Zlp n x0 x1 x2 x3 x4 x5 x6 x7 x8 x9 x10 x11 x12 x13 x14 x15 x16 x17 x18 x19 x20 x21 x22:Eq (Yw (n+1) x0 x1 x2 x3 x4 x5 x6 x7 x8 x9 x10 x11 x12 x13 x14 x15 x16 x17 x18 x19 x20 x21 x22) <| bif x22<x21 then bif 0<=x22 then bif x22.toNat<x20.toNat then match x1[x19.toNat+x22.toNat]? with | none=>none | some e0=>bif x22==0 then Zgl n x0 x1 (ofNat x2.toNat) x3 x4 x5 x6 x7 x8 x9 e0.1 x11 x12 x13 x14 x15 e0.2.1 e0.2.2.1 x16 x17 x18 (ofNat x19.toNat) (ofNat x20.toNat) x21 x22 else Zgl n x0 x1 (ofNat x2.toNat) x3 x4 x5 x6 x7 x8 x9 x10 e0.1 x12 x13 x14 x15 e0.2.1 e0.2.2.1 x16 x17 x18 (ofNat x19.toNat) (ofNat x20.toNat) x21 x22 else none else none else Zbj n x0 x1 (ofNat x2.toNat) x3 x4 x5 x6 x7 x8 x9 x10 x11 x12 x13 x14 x15 x16 x17 x18:=mkI
theorem Zlq n x0 x1 x2 x3 x4 x5 x6 x7 x8 x9 x10 x11 x12 x13 x14 x15 x16 x17 x18 x19 x20 x21 x22 x23 x24:Eq (Zgl (n+1) x0 x1 x2 x3 x4 x5 x6 x7 x8 x9 x10 x11 x12 x13 x14 x15 x16 x17 x18 x19 x20 x21 x22 x23 x24) <| Yw n x0 x1 (ofNat x2.toNat) x3 x4 x5 x6 x7 x8 x9 x10 x11 x12 x13 (wrap .i64 (x14+x16)) (tmm true x15 (wrap .i64 (x17+1))) x18 x19 x20 (ofNat x21.toNat) (ofNat x22.toNat) x23 (wrap .i64 (x24+1)):=mkI
theorem Zvu n x0 x1 x2 x3 x4 x5 x6 x7 x8 x9 x10 x11 x12 x13 x14 x15 x16 x17 x18:Eq (Zdb (n+1) x0 x1 x2 x3 x4 x5 x6 x7 x8 x9 x10 x11 x12 x13 x14 x15 x16 x17 x18) <| bif !(x8==x3&&(x9==x4&&(x10==x5&&(x11==x6&&(x12==x7&&true))))) then some (x0,false,()) else bif decide (x2.toNat<=x1.length)&&Zb (x2.toNat+List.length [(x13,x14,x15,())]) 24 then bif Zb (x0.length+List.length [(x13,x14,x15,())]) 24 then Zw n (x0++[(x13,x14,x15,())]) (List.take x2.toNat x1++[(x13,x14,x15,())]) x16 x17 (wrap .i64 (x18+1)) else none else none:=mkI
def Yps:Tb:=[(193,Yb3)]
def F148:TFun:=⟨[],[],[.c (.sl Xq1)],[.c (.p (.sl Xq2)),.c (.p di)],qc [qn 2,[.c (.p (.sl Xq2))],qi,qn 21],[],[],0⟩
def Z88:=mkC Yps prog 148 F148
theorem Yso:Z88.ok prog 148:=mkO ⟨Ypr,trivial⟩
def Zsc (a0:Xy1):Option (List Xy3×Int×Unit):=Z88.fn (a0,())
theorem Zxu a0:Eq (Zsc a0) <| bif ofNat a0.length>60 then some ([],4,()) else match Ziu a0 with | none=>none | some e0=>bif !e0.2.1 then some ([],8,()) else bif 0<=wrap .i64 (ofNat e0.1.length - 1) then match e0.1[toNat (wrap .i64 (ofNat e0.1.length - 1))]? with | none=>none | some e1=>bif e1.2.2.1>20 then some ([],34,()) else some (e0.1,0,()) else none:=mkE
def Ypt:Tb:=[(148,Z88)]
def F100:TFun:=⟨[],[],[.c (.sl Xq1)],[.c (.p di)],qc [qn 2,qi,qn 8],[],[],0⟩
def Z2e:=mkC Ypt prog 100 F100
theorem Yng:Z2e.ok prog 100:=mkO ⟨Yso,trivial⟩
def Zey (a0:Xy1):Option (Int×Unit):=Z2e.fn (a0,())
theorem Zxv a0:Eq (Zey a0) <| match Zsc a0 with | none=>none | some e0=>some (e0.2.1,()):=mkE
def Ypu:Tb:=[]
def F102:TFun:=⟨[],[],[.a [.int .u8,.int .i64,.int .i64]],[.c (.p di)],qc [qn 2,qi,qn 37],[],[],0⟩
def Z89:=mkC Ypu prog 102 F102
theorem Ysp:Z89.ok prog 102:=mkO trivial
def Zgm (a0:Xy3):Option (Int×Unit):=Z89.fn (a0,())
theorem Zra a0:Eq (Zgm a0) <| let k1:Option (Int×Unit):=some (8,());bif a0.2.1<1 then k1 else bif a0.2.1>1073741824 then k1 else bif a0.1==2 then bif a0.2.2.1>=1 then bif a0.2.2.1<=a0.2.1 then bif a0.2.1<=wrap .i64 (16*a0.2.2.1) then some (0,()) else k1 else k1 else k1 else let k2:Option (Int×Unit):=bif a0.2.2.1==0 then some (0,()) else k1;bif a0.1==1 then k2 else bif a0.1==3 then k2 else k1:=mkE
def Yg6:Tb:=[(151,Yga)]
def F101:TFun:=⟨[],[(14,qc [[.c (.p (.sl [.int .i64]))],[.c (.fn 149 [])],qn 5,qi,qi,qn 19,[.c (.p (.sl [.int .i64]))],qn 19,qb,qn 9])],[.c (.sl [.int .i64]),.c db],[.c (.p di)],qc [qn 4,qi,qn 25],[(20,[149]),(10,[194]),(7,[150])],[(14,[9,30])],8⟩
def Z9a:=mkC Yg6 prog 101 F101
theorem Ysq:Z9a.ok prog 101:=mkO ⟨Yrr,trivial⟩
def Ze8 (a0:(List (Int×Unit)))(a1:Bool):Option (Int×Unit):=Z9a.fn (a0,a1,())
def Q9 (n:Nat)(x0:(List (Int×Unit)))(x1 x2:Int)(x3:(List (Int×Unit)))(x4:Bool):Option (Int×Unit):=itr Yg6 prog 101 F101 n 14 (x0,x1,x2,x3,x4,())
theorem Zpt a0 a1:Eq (Ze8 a0 a1) <| bif ofNat a0.length>4 then some (4,()) else bif ofNat a0.length==0 then some (8,()) else let k1:=Q9 fuel a0 (ofNat a0.length) 0 a0 false;bif a1 then bif ofNat a0.length !=2 then some (8,()) else k1 else k1:=mkE
theorem Zfc n x0 x1 x2 x3 x4:Eq (Q9 (n+1) x0 x1 x2 x3 x4) <| bif x2<x1 then bif 0<=x2 then match x0[x2.toNat]? with | none=>none | some e0=>let k1:Option (Int×Unit):=bif x4 then some (8,()) else bif x2>=0 then some (8,()) else match Ya x3 with | none=>none | some e1=>bif e1.1<ofNat x3.length then some (43,()) else some (0,());bif e0.1<0 then k1 else bif e0.1>=4 then k1 else Q9 n x0 x1 (wrap .i64 (x2+1)) x3 x4 else none else bif x4 then some (8,()) else match Ya x3 with | none=>none | some e0=>bif e0.1<ofNat x3.length then some (43,()) else some (0,()):=mkI
def Yg7:Tb:=[(100,Z2e),(101,Z9a),(102,Z89)]
def F57:TFun:=⟨[4,12],[(4,qc [qn 1,[.boxN 27 10 [.any,.any,.p (.sl [.int .i64]),.p db,.p (.sl Xq1),.p (.int .u8),.p di,.p di,.any,.any]],qn 64]),(12,qc [qn 1,[.boxN 27 10 [.any,.any,.p (.sl [.int .i64]),.p db,.any,.p (.int .u8),.p di,.p di,.any,.any]],qn 64])],[.a [.int .u8,.sl Xq1,.sl [.int .i64],.bool,.sl Xq1,.int .u8,.int .i64,.int .i64,.bool,.int .u8]],[.c (.p di)],qc [qn 2,qi,qn 63],[],[],0⟩
def Yg8:=mkC Yg7 prog 57 F57
theorem ok57:Yg8.ok prog 57:=mkO ⟨Yng,Ysq,Ysp,trivial⟩
def Zhj (a0:Xy2):Option (Int×Unit):=Yg8.fn (a0,())
def Zbw (n:Nat)(x0:(List (Int×Unit)))(x1:Bool)(x2:Xy1)(x3 x4 x5:Int):Option (Int×Unit):=itr Yg7 prog 57 F57 n 4 (x0,x1,x2,x3,x4,x5,())
def Zdc (n:Nat)(x0:(List (Int×Unit)))(x1:Bool)(x2 x3 x4:Int):Option (Int×Unit):=itr Yg7 prog 57 F57 n 12 (x0,x1,x2,x3,x4,())
theorem Zsr a0:Eq (Zhj a0) <| bif a0.1<1 then some (8,()) else bif a0.1>4 then some (8,()) else let k1:Option (Int×Unit):=let k3:=Zbw fuel a0.2.2.1 a0.2.2.2.1 a0.2.2.2.2.1 a0.2.2.2.2.2.1 a0.2.2.2.2.2.2.1 a0.2.2.2.2.2.2.2.1;bif a0.1 !=1 then match Zey a0.2.1 with | none=>none | some e0=>bif e0.1 !=0 then some (e0.1,()) else k3 else bif ofNat a0.2.1.length>0 then some (8,()) else k3;bif a0.2.2.2.2.2.2.2.2.2.1 !=1 then bif a0.2.2.2.2.2.2.2.2.2.1 !=2 then some (8,()) else k1 else k1:=mkE
theorem Zrb n x0 x1 x2 x3 x4 x5:Eq (Zbw (n+1) x0 x1 x2 x3 x4 x5) <| let k1:=Zdc n x0 x1 x3 x4 x5;bif ofNat x2.length>0 then match Zey x2 with | none=>none | some e0=>bif e0.1 !=0 then some (e0.1,()) else k1 else k1:=mkI
theorem Zpu n x0 x1 x2 x3 x4:Eq (Zdc (n+1) x0 x1 x2 x3 x4) <| match Ze8 x0 x1 with | none=>none | some e0=>bif e0.1 !=0 then some (e0.1,()) else let k1:=match Zgm (x2,x3,x4,()) with | none=>none | some e1=>some (e1.1,());bif x1 then bif x2 !=1 then some (8,()) else k1 else k1:=mkI
def Zvv:Tb:=[]
def F195:TFun:=⟨[14],[(6,qc [[.c (.p (.sl Xq1))],qn 3,[.boxN 299 1 [.rowN 4 1 [.bool]]],[.fnS 233 [.ptr 0 0]],qn 6,[.c (.p (.sl Xq1))],qi,qi,qn 73]),(14,qc [[.c (.p (.sl Xq1))],qn 3,[.boxN 299 1 [.rowN 4 1 [.bool]]],[.fnS 233 [.ptr 0 0]],qi,qn 1,[.boxN 343 2 [.p db,.p db]],qb,[.c (.slN 3 1 [.int .i64])],qn 1,[.c (.p (.sl Xq1))],qi,qi,qn 73]),(28,qc [qb,qn 1,[.boxN 299 1 [.rowN 4 1 [.bool]]],qn 5,[.c (.slN 3 1 [.int .i64])],qi,qi,qn 10,[.c (.p (.sl Xq1))],qn 3,[.c (.ptr 0 0)],[.fnS 233 [.ptr 0 0]],qi,qn 1,[.boxN 343 2 [.any,.p db]],qb,[.c (.slR 2)],qn 1,[.c (.p (.sl Xq1))],qi,qi,qn 48,qb,qn 24]),(40,qc [qb,qn 1,[.boxN 299 1 [.rowN 4 1 [.bool]]],qn 5,[.c (.p (.sl [.int .i64]))],qi,qi,qn 10,[.c (.p (.sl Xq1))],qn 3,[.c (.ptr 0 0)],[.fnS 233 [.ptr 0 0]],qi,qn 2,qb,qn 2,[.c (.p (.sl Xq1))],qi,qi,qn 54,qb,qn 2,qb,qn 15])],[.c (.sl Xq1)],[.c (.s 4 1 [.bool]),.c (.p di)],qc [qn 2,[.c (.rowN 4 1 [.bool])],qi,qn 84],[(36,[233]),(24,[233])],[(28,[88]),(40,[88])],8⟩
def Zvw:=mkC Zvv prog 195 F195
theorem Ysr:Zvw.ok prog 195:=mkO trivial
def Yb4:TCon:=⟨Zvw.args,[.c (.p (.sl [.bool])),.c (.p di)],Zvw.fn⟩
theorem Ypv:Yb4.ok prog 195:=TCon.frz (c:=Zvw) Ysr rfl
def Zoj (a0:Xy1):Option (List (Bool×Unit)×Int×Unit):=Zvw.fn (a0,())
def Yd (n:Nat)(x0:Xy1)(x1:(List (Bool×Unit)))(x2:Xy1)(x3 x4:Int):Option (List (Bool×Unit)×Int×Unit):=itr Zvv prog 195 F195 n 6 (x0,x1,x2,x3,x4,())
def Yk (n:Nat)(x0:Xy1)(x1:(List (Bool×Unit)))(x2:Int)(x3 x4 x5:Bool)(x6:(List (Int×Unit)))(x7:Int)(x8:Xy1)(x9 x10:Int):Option (List (Bool×Unit)×Int×Unit):=itr Zvv prog 195 F195 n 14 (x0,x1,x2,x3,x4,x5,x6,x7,x8,x9,x10,())
def Yx (n:Nat)(x0:Bool)(x1:(List (Bool×Unit)))(x2:(List (Int×Unit)))(x3 x4 x5:Int)(x6:Xy1)(x7:Int)(x8 x9:Bool)(x10 x11:Int)(x12:Xy1)(x13 x14:Int)(x15:Bool):Option (List (Bool×Unit)×Int×Unit):=itr Zvv prog 195 F195 n 28 (x0,x1,x2,x3,x4,x5,x6,x7,x8,x9,x10,x11,x12,x13,x14,x15,())
def Yl (n:Nat)(x0:Bool)(x1:(List (Bool×Unit)))(x2:(List (Int×Unit)))(x3 x4:Int)(x5:Xy1)(x6:Int)(x7:Bool)(x8:Xy1)(x9 x10:Int)(x11 x12:Bool):Option (List (Bool×Unit)×Int×Unit):=itr Zvv prog 195 F195 n 40 (x0,x1,x2,x3,x4,x5,x6,x7,x8,x9,x10,x11,x12,())
theorem Z2f a0:Eq (Zoj a0) <| Yd fuel a0 ([]) a0 (ofNat a0.length) 0:=mkE
theorem Znp n x0 x1 x2 x3 x4:Eq (Yd (n+1) x0 x1 x2 x3 x4) <| bif x4<x3 then bif 0<=x4 then match x2[x4.toNat]? with | none=>none | some e0=>bif e0.1<=4 then bif Zb (x1.length+1) 1 then Yd n x0 (x1++[(false,())]) x2 x3 (wrap .i64 (x4+1)) else none else bif e0.1==5 then Yk n x0 x1 x4 true false false ([(e0.2.2.1,()),(e0.2.2.2.1,())]) 1 x2 x3 x4 else bif e0.1==6 then Yk n x0 x1 x4 false true true ([(e0.2.2.1,()),(e0.2.2.2.1,())]) 1 x2 x3 x4 else bif e0.1<=11 then Yk n x0 x1 x4 true false false ([(e0.2.2.1,()),(e0.2.2.2.1,())]) (ofNat (List.length [(e0.2.2.1,()),(e0.2.2.2.1,())])) x2 x3 x4 else bif e0.1<=15 then Yk n x0 x1 x4 true false true ([(e0.2.2.1,()),(e0.2.2.2.1,())]) (ofNat (List.length [(e0.2.2.1,()),(e0.2.2.2.1,())])) x2 x3 x4 else bif e0.1<=17 then Yk n x0 x1 x4 true true true ([(e0.2.2.1,()),(e0.2.2.2.1,())]) (ofNat (List.length [(e0.2.2.1,()),(e0.2.2.2.1,())])) x2 x3 x4 else Yk n x0 x1 x4 false true true ([(e0.2.2.1,()),(e0.2.2.2.1,())]) (ofNat (List.length [(e0.2.2.1,()),(e0.2.2.2.1,())])) x2 x3 x4 else none else some (x1,ofNat x0.length,()):=mkI
theorem Zvx n x0 x1 x2 x3 x4 x5 x6 x7 x8 x9 x10:Eq (Yk (n+1) x0 x1 x2 x3 x4 x5 x6 x7 x8 x9 x10) <| bif x3 then Yx n false x1 x6 (ofNat x7.toNat) (ofNat x7.toNat) 0 x0 x2 x4 x5 0 (ofNat x7.toNat) x8 x9 x10 true else bif x4 then Yl n true x1 (List.take x7.toNat (List.drop 0 x6)) (ofNat x7.toNat) 0 x0 x2 x5 x8 x9 x10 true true else some ([],x2,()):=mkI
theorem Zlr n x0 x1 x2 x3 x4 x5 x6 x7 x8 x9 x10 x11 x12 x13 x14 x15:Eq (Yx (n+1) x0 x1 x2 x3 x4 x5 x6 x7 x8 x9 x10 x11 x12 x13 x14 x15) <| let k1:=bif x8 then Yl n true x1 (List.take x11.toNat (List.drop x10.toNat x2)) (ofNat x11.toNat) 0 x6 x7 x9 x12 x13 x14 true true else some ([],x7,());bif x5<x4 then bif 0<=x5 then bif x5.toNat<x3.toNat then match x2[0+x5.toNat]? with | none=>none | some e0=>bif 0<=e0.1 then bif e0.1.toNat<x1.length then match x1[e0.1.toNat]? with | none=>none | some e1=>bif !e1.1==x0 then bif x15 then k1 else k1 else Yx n x0 x1 x2 (ofNat x3.toNat) x4 (wrap .i64 (x5+1)) x6 x7 x8 x9 (ofNat x10.toNat) (ofNat x11.toNat) x12 x13 x14 x15 else none else none else none else none else bif x15 then bif Zb (x1.length+List.length [(x9,())]) 1 then Yd n x6 (x1++[(x9,())]) x12 x13 (wrap .i64 (x14+1)) else none else k1:=mkI
theorem Zls n x0 x1 x2 x3 x4 x5 x6 x7 x8 x9 x10 x11 x12:Eq (Yl (n+1) x0 x1 x2 x3 x4 x5 x6 x7 x8 x9 x10 x11 x12) <| let k1:=bif Zb (x1.length+List.length [(x7,())]) 1 then Yd n x5 (x1++[(x7,())]) x8 x9 (wrap .i64 (x10+1)) else none;bif x4<x3 then bif 0<=x4 then match x2[x4.toNat]? with | none=>none | some e0=>bif 0<=e0.1 then bif e0.1.toNat<x1.length then match x1[e0.1.toNat]? with | none=>none | some e1=>bif !e1.1==x0 then bif x11 then bif x12 then some ([],x6,()) else some ([],x6,()) else k1 else Yl n x0 x1 x2 x3 (wrap .i64 (x4+1)) x5 x6 x7 x8 x9 x10 x11 x12 else none else none else none else bif x11 then bif x12 then k1 else some ([],x6,()) else k1:=mkI
def Ypw:Tb:=[(100,Z2e),(195,Yb4)]
def F152:TFun:=⟨[],[],[.c (.sl Xq1)],[.c (.p db),.c (.p di),.c (.p di)],qc [qn 2,qb,qi,qi,qn 25],[],[],0⟩
def Z9b:=mkC Ypw prog 152 F152
theorem Yss:Z9b.ok prog 152:=mkO ⟨Yng,Ypv,trivial⟩
def Zvy (a0:Xy1):Option (Bool×Int×Int×Unit):=Z9b.fn (a0,())
theorem Z9c a0:Eq (Zvy a0) <| match Zey a0 with | none=>none | some e0=>bif e0.1 !=0 then some (false,0,e0.1,()) else match Zoj a0 with | none=>none | some e1=>bif e1.2.1<ofNat a0.length then some (false,e1.2.1,42,()) else bif 0<=wrap .i64 (e1.2.1 - 1) then match e1.1[toNat (wrap .i64 (e1.2.1 - 1))]? with | none=>none | some e2=>some (e2.1,wrap .i64 (e1.2.1 - 1),0,()) else none:=mkE
def Ypx:Tb:=[(152,Z9b)]
def F103:TFun:=⟨[],[],[.c (.sl Xq1),.c db],[.c (.p di),.c (.p di)],qc [qn 4,qi,qi,qn 18],[],[],0⟩
def Z2g:=mkC Ypx prog 103 F103
theorem Ynh:Z2g.ok prog 103:=mkO ⟨Yss,trivial⟩
def Ziv (a0:Xy1)(a1:Bool):Option (Int×Int×Unit):=Z2g.fn (a0,a1,())
theorem Z2h a0 a1:Eq (Ziv a0 a1) <| match Zvy a0 with | none=>none | some e0=>bif e0.2.2.1==0 then bif !e0.1==a1 then some (e0.2.1,42,()) else some e0.2 else some e0.2:=mkE
def Yst:Tb:=[(103,Z2g)]
def F59:TFun:=⟨[],[],[.c (.sl Xq1)],[.c (.p di),.c (.p di)],qc [qn 2,qi,qi,qn 4],[],[],0⟩
def Yg9:=mkC Yst prog 59 F59
theorem ok59:Yg9.ok prog 59:=mkO ⟨Ynh,trivial⟩
def Ziw (a0:Xy1):Option (Int×Int×Unit):=Yg9.fn (a0,())
theorem Zvz a0:Eq (Ziw a0) <| match Ziv a0 false with | none=>none | some e0=>some e0:=mkE
def Ysu:Tb:=[(103,Z2g)]
def F60:TFun:=⟨[],[],[.c (.sl Xq1)],[.c (.p di),.c (.p di)],qc [qn 2,qi,qi,qn 4],[],[],0⟩
def Yha:=mkC Ysu prog 60 F60
theorem ok60:Yha.ok prog 60:=mkO ⟨Ynh,trivial⟩
def Zg6 (a0:Xy1):Option (Int×Int×Unit):=Yha.fn (a0,())
theorem Zxw a0:Eq (Zg6 a0) <| match Ziv a0 true with | none=>none | some e0=>some e0:=mkE
def Ysv:Tb:=[(57,Yg8),(59,Yg9),(60,Yha)]
def F15:TFun:=⟨[],[],[.a [.int .u8,.sl Xq1,.sl [.int .i64],.bool,.sl Xq1,.int .u8,.int .i64,.int .i64,.bool,.int .u8]],[.c (.p di),.c (.p di)],qc [qn 2,qi,qi,qn 16],[(11,[4]),(7,[58])],[],8⟩
def Zz6:=mkC Ysv prog 15 F15
theorem ok15:Zz6.ok prog 15:=mkO ⟨ok57,ok59,ok60,trivial⟩
def Qv (a0:Xy2):Option (Int×Int×Unit):=Zz6.fn (a0,())
theorem Zv0 a0:Eq (Qv a0) <| match Zhj a0 with | none=>none | some e0=>bif e0.1 !=0 then some (0,e0.1,()) else let k1:Option (Int×Int×Unit):=some (0,0,());bif ofNat a0.2.1.length==0 then bif ofNat a0.2.2.2.2.1.length==0 then k1 else match Zg6 a0.2.2.2.2.1 with | none=>none | some e1=>bif e1.2.1 !=0 then bif 0<=e1.1 then match a0.2.2.2.2.1[e1.1.toNat]? with | none=>none | some e2=>some (e2.2.2.2.2.1,e1.2.1,()) else none else k1 else match Ziw a0.2.1 with | none=>none | some e1=>bif e1.2.1 !=0 then bif 0<=e1.1 then match a0.2.1[e1.1.toNat]? with | none=>none | some e2=>some (e2.2.2.2.2.1,e1.2.1,()) else none else bif ofNat a0.2.2.2.2.1.length==0 then k1 else match Zg6 a0.2.2.2.2.1 with | none=>none | some e2=>bif e2.2.1 !=0 then bif 0<=e2.1 then match a0.2.2.2.2.1[e2.1.toNat]? with | none=>none | some e3=>some (e3.2.2.2.2.1,e2.2.1,()) else none else k1:=mkE
end
end Tg
