import Derived.Test.YtmkkpgcecpnejaaGreatDoorEVT
/- Functions of the code, told plainly and checked by the kernel. -/
set_option linter.unusedVariables false
set_option linter.unusedSimpArgs false
set_option maxRecDepth 100000
namespace Tg
noncomputable section
open Go.Abs hiding fuel
open Go.Proofs.Tryz (prog)
open Int (ofNat toNat)
open Go.IntKind (wrap)
def Ykd:Tb:=[]
def F128:TFun:=⟨[],[],[.c (.int .u8)],[.c (.p di),.c (.p di)],qc [qn 2,qi,qi,qn 21],[],[],0⟩
def Z5y:=mkC Ykd prog 128 F128
theorem Yml:Z5y.ok prog 128:=mkO trivial
def Zj9 (a0:Int):Option (Int×Int×Unit):=Z5y.fn (a0,())
theorem Zvk a0:Eq (Zj9 a0) <| let k1:Option (Int×Int×Unit):=bif a0==5 then some (1,0,()) else bif a0==6 then some (1,0,()) else bif a0>=7 then bif a0<=19 then some (2,0,()) else some (0,2,()) else some (0,2,());bif a0>=1 then bif a0<=4 then some (0,0,()) else k1 else k1:=mkE
def Zo5:Tb:=[(128,Z5y)]
def F107:TFun:=⟨[28,21,31],[(4,qc [qn 4,[.c (.rowN 205 3 Xq2)],[.c (.rowN 205 3 Xq2)],qn 9,[.c (.p (.sl Xq1))],qi,qi,qn 87]),(21,qc [qn 4,[.c (.rowN 205 3 Xq2)],[.c (.slN 205 3 Xq2)],qn 1,[.boxN 71 5 [.p (.int .u8),.p di,.p di,.p di,.p di]],qn 3,[.boxN 71 5 [.p (.int .u8),.p di,.p di,.p di,.p di]],[.boxN 205 3 [.p di,.p di,.p di]],qn 2,[.c (.p (.sl Xq1))],qi,qi,qn 87]),(23,qc [qn 4,[.c (.rowN 205 3 Xq2)],[.c (.slN 205 3 Xq2)],qn 1,[.boxN 71 5 [.p (.int .u8),.p di,.p di,.p di,.p di]],qn 3,[.boxN 71 5 [.p (.int .u8),.p di,.p di,.p di,.p di]],[.boxN 205 3 [.p di,.p di,.p di]],qn 2,[.c (.p (.sl Xq1))],qi,qi,qn 34,[.c (.slR 1)],qi,qi,qn 50]),(28,qc [qn 4,[.c (.rowN 205 3 Xq2)],[.c (.slN 205 3 Xq2)],qn 1,[.boxN 71 5 [.p (.int .u8),.p di,.p di,.p di,.p di]],qn 3,[.boxN 71 5 [.p (.int .u8),.p di,.p di,.p di,.p di]],[.boxN 205 3 [.p di,.p di,.p di]],qn 1,[.boxN 205 3 [.any,.p di,.p di]],[.c (.p (.sl Xq1))],qi,qi,qn 34,[.c (.slR 1)],qi,qi,qn 50]),(31,qc [qn 4,[.c (.rowN 205 3 Xq2)],[.c (.slN 205 3 Xq2)],qn 1,[.boxN 71 5 [.p (.int .u8),.p di,.p di,.p di,.p di]],qn 3,[.boxN 71 5 [.p (.int .u8),.p di,.p di,.p di,.p di]],[.boxN 205 3 [.p di,.p di,.p di]],qn 2,[.c (.p (.sl Xq1))],qi,qi,qn 87])],[.c (.sl Xq1)],[.c (.s 205 3 Xq2),.c (.p db)],qc [qn 2,[.c (.rowN 205 3 Xq2)],qb,qn 101],[(16,[129])],[],8⟩
def Ztk:=mkC Zo5 prog 107 F107
theorem Ymm:Ztk.ok prog 107:=mkO ⟨Yml,trivial⟩
def Z8g:TCon:=⟨Ztk.args,[.c (.p (.sl Xq2)),.c (.p db)],Ztk.fn⟩
theorem Yke:Z8g.ok prog 107:=TCon.frz (c:=Ztk) Ymm rfl
def Zho (a0:Xy1):Option (List Xy3×Bool×Unit):=Ztk.fn (a0,())
def Zu (n:Nat)(x0 x1:(List Xy3))(x2:Xy1)(x3 x4:Int):Option (List Xy3×Bool×Unit):=itr Zo5 prog 107 F107 n 4 (x0,x1,x2,x3,x4,())
def Za4 (n:Nat)(x0 x1:(List Xy3))(x2 x3 x4 x5 x6 x7 x8 x9 x10 x11 x12 x13 x14 x15:Int)(x16:Xy1)(x17 x18:Int):Option (List Xy3×Bool×Unit):=itr Zo5 prog 107 F107 n 21 (x0,x1,x2,x3,x4,x5,x6,x7,x8,x9,x10,x11,x12,x13,x14,x15,x16,x17,x18,())
def Ym (n:Nat)(x0 x1:(List Xy3))(x2 x3 x4 x5 x6 x7 x8 x9 x10 x11 x12 x13 x14 x15:Int)(x16:Xy1)(x17 x18 x19 x20 x21 x22:Int):Option (List Xy3×Bool×Unit):=itr Zo5 prog 107 F107 n 23 (x0,x1,x2,x3,x4,x5,x6,x7,x8,x9,x10,x11,x12,x13,x14,x15,x16,x17,x18,x19,x20,x21,x22,())
def Zfk (n:Nat)(x0 x1:(List Xy3))(x2 x3 x4 x5 x6 x7 x8 x9 x10 x11 x12 x13 x14 x15 x16 x17:Int)(x18:Xy1)(x19 x20 x21 x22 x23 x24:Int):Option (List Xy3×Bool×Unit):=itr Zo5 prog 107 F107 n 28 (x0,x1,x2,x3,x4,x5,x6,x7,x8,x9,x10,x11,x12,x13,x14,x15,x16,x17,x18,x19,x20,x21,x22,x23,x24,())
def Zch (n:Nat)(x0 x1:(List Xy3))(x2 x3 x4 x5 x6 x7 x8 x9 x10 x11 x12 x13 x14 x15:Int)(x16:Xy1)(x17 x18:Int):Option (List Xy3×Bool×Unit):=itr Zo5 prog 107 F107 n 31 (x0,x1,x2,x3,x4,x5,x6,x7,x8,x9,x10,x11,x12,x13,x14,x15,x16,x17,x18,())
theorem Znm a0:Eq (Zho a0) <| Zu fuel ([]) ([]) a0 (ofNat a0.length) 0:=mkE
theorem Zdk n x0 x1 x2 x3 x4:Eq (Zu (n+1) x0 x1 x2 x3 x4) <| bif x4<x3 then bif 0<=x4 then match x2[x4.toNat]? with | none=>none | some e0=>match Zj9 e0.1 with | none=>none | some e1=>bif e1.2.1 !=0 then some (x0,false,()) else bif e1.1>ofNat x1.length then some (x0,false,()) else bif 0<=wrap .i64 (ofNat x1.length - e1.1) then bif decide (0<=toNat (wrap .i64 (ofNat x1.length - e1.1)))&&decide (toNat (wrap .i64 (ofNat x1.length - e1.1))<=x1.length) then bif 0<=wrap .i64 (ofNat x1.length - e1.1) then bif toNat (wrap .i64 (ofNat x1.length - e1.1))<=x1.length then bif toNat (wrap .i64 (ofNat x1.length - e1.1))=x1.length then Ym n x0 x1 (ofNat (toNat (wrap .i64 (ofNat x1.length - e1.1)))) e0.1 e0.2.1 e0.2.2.1 e0.2.2.2.1 e0.2.2.2.2.1 e0.1 0 0 0 (tmm false (tmm true e0.2.2.2.2.1 0) 400) x4 1 1 x2 x3 x4 1 0 0 0 else Ym n x0 x1 (ofNat (toNat (wrap .i64 (ofNat x1.length - e1.1)))) e0.1 e0.2.1 e0.2.2.1 e0.2.2.2.1 e0.2.2.2.2.1 e0.1 0 0 0 (tmm false (tmm true e0.2.2.2.2.1 0) 400) x4 1 1 x2 x3 x4 (ofNat (toNat (wrap .i64 (ofNat x1.length - e1.1)))) (ofNat (x1.length - toNat (wrap .i64 (ofNat x1.length - e1.1)))) (ofNat (x1.length - toNat (wrap .i64 (ofNat x1.length - e1.1)))) 0 else none else none else none else none else none else some (x0,ofNat x1.length==1,()):=mkI
theorem Ztl n x0 x1 x2 x3 x4 x5 x6 x7 x8 x9 x10 x11 x12 x13 x14 x15 x16 x17 x18:Eq (Za4 (n+1) x0 x1 x2 x3 x4 x5 x6 x7 x8 x9 x10 x11 x12 x13 x14 x15 x16 x17 x18) <| bif x3==1 then Zch n x0 x1 (ofNat x2.toNat) x3 x4 x5 x6 x7 x8 (tmm true x4 0) x10 x11 x12 x13 x14 x15 x16 x17 x18 else Zch n x0 x1 (ofNat x2.toNat) x3 x4 x5 x6 x7 x8 x9 x10 x11 x12 x13 x14 x15 x16 x17 x18:=mkI
theorem Zka n x0 x1 x2 x3 x4 x5 x6 x7 x8 x9 x10 x11 x12 x13 x14 x15 x16 x17 x18 x19 x20 x21 x22:Eq (Ym (n+1) x0 x1 x2 x3 x4 x5 x6 x7 x8 x9 x10 x11 x12 x13 x14 x15 x16 x17 x18 x19 x20 x21 x22) <| bif x22<x21 then bif 0<=x22 then bif x22.toNat<x20.toNat then match x1[x19.toNat+x22.toNat]? with | none=>none | some e0=>bif x22==0 then Zfk n x0 x1 (ofNat x2.toNat) x3 x4 x5 x6 x7 x8 x9 e0.1 x11 x12 x13 x14 x15 e0.2.1 e0.2.2.1 x16 x17 x18 (ofNat x19.toNat) (ofNat x20.toNat) x21 x22 else Zfk n x0 x1 (ofNat x2.toNat) x3 x4 x5 x6 x7 x8 x9 x10 e0.1 x12 x13 x14 x15 e0.2.1 e0.2.2.1 x16 x17 x18 (ofNat x19.toNat) (ofNat x20.toNat) x21 x22 else none else none else Za4 n x0 x1 (ofNat x2.toNat) x3 x4 x5 x6 x7 x8 x9 x10 x11 x12 x13 x14 x15 x16 x17 x18:=mkI
theorem Zkb n x0 x1 x2 x3 x4 x5 x6 x7 x8 x9 x10 x11 x12 x13 x14 x15 x16 x17 x18 x19 x20 x21 x22 x23 x24:Eq (Zfk (n+1) x0 x1 x2 x3 x4 x5 x6 x7 x8 x9 x10 x11 x12 x13 x14 x15 x16 x17 x18 x19 x20 x21 x22 x23 x24) <| Ym n x0 x1 (ofNat x2.toNat) x3 x4 x5 x6 x7 x8 x9 x10 x11 x12 x13 (wrap .i64 (x14+x16)) (tmm true x15 (wrap .i64 (x17+1))) x18 x19 x20 (ofNat x21.toNat) (ofNat x22.toNat) x23 (wrap .i64 (x24+1)):=mkI
theorem Ztm n x0 x1 x2 x3 x4 x5 x6 x7 x8 x9 x10 x11 x12 x13 x14 x15 x16 x17 x18:Eq (Zch (n+1) x0 x1 x2 x3 x4 x5 x6 x7 x8 x9 x10 x11 x12 x13 x14 x15 x16 x17 x18) <| bif !(x8==x3&&(x9==x4&&(x10==x5&&(x11==x6&&(x12==x7&&true))))) then some (x0,false,()) else bif decide (x2.toNat<=x1.length)&&Zc (x2.toNat+List.length [(x13,x14,x15,())]) 24 then bif Zc (x0.length+List.length [(x13,x14,x15,())]) 24 then Zu n (x0++[(x13,x14,x15,())]) (List.take x2.toNat x1++[(x13,x14,x15,())]) x16 x17 (wrap .i64 (x18+1)) else none else none:=mkI
def Ymn:Tb:=[(107,Z8g)]
def F82:TFun:=⟨[],[],[.c (.sl Xq1)],[.c (.p (.sl Xq2)),.c (.p di)],qc [qn 2,[.c (.p (.sl Xq2))],qi,qn 21],[],[],0⟩
def Ydi:=mkC Ymn prog 82 F82
theorem ok82:Ydi.ok prog 82:=mkO ⟨Yke,trivial⟩
def Zp8 (a0:Xy1):Option (List Xy3×Int×Unit):=Ydi.fn (a0,())
theorem Zvl a0:Eq (Zp8 a0) <| bif ofNat a0.length>60 then some ([],4,()) else match Zho a0 with | none=>none | some e0=>bif !e0.2.1 then some ([],8,()) else bif 0<=wrap .i64 (ofNat e0.1.length - 1) then match e0.1[toNat (wrap .i64 (ofNat e0.1.length - 1))]? with | none=>none | some e1=>bif e1.2.2.1>20 then some ([],34,()) else some (e0.1,0,()) else none:=mkE
def Ymo:Tb:=[(82,Ydi)]
def F66:TFun:=⟨[],[],[.c (.sl Xq1)],[.c (.p di)],qc [qn 2,qi,qn 8],[],[],0⟩
def Z8h:=mkC Ymo prog 66 F66
theorem ok66:Z8h.ok prog 66:=mkO ⟨ok82,trivial⟩
def Zd3 (a0:Xy1):Option (Int×Unit):=Z8h.fn (a0,())
theorem Zvm a0:Eq (Zd3 a0) <| match Zp8 a0 with | none=>none | some e0=>some (e0.2.1,()):=mkE
def Ymp:Tb:=[]
def F68:TFun:=⟨[],[],[.a [.int .u8,.int .i64,.int .i64]],[.c (.p di)],qc [qn 2,qi,qn 37],[],[],0⟩
def Ydj:=mkC Ymp prog 68 F68
theorem ok68:Ydj.ok prog 68:=mkO trivial
def Zfl (a0:Xy3):Option (Int×Unit):=Ydj.fn (a0,())
theorem Zo6 a0:Eq (Zfl a0) <| let k1:Option (Int×Unit):=some (8,());bif a0.2.1<1 then k1 else bif a0.2.1>1073741824 then k1 else bif a0.1==2 then bif a0.2.2.1>=1 then bif a0.2.2.1<=a0.2.1 then bif a0.2.1<=wrap .i64 (16*a0.2.2.1) then some (0,()) else k1 else k1 else k1 else let k2:Option (Int×Unit):=bif a0.2.2.1==0 then some (0,()) else k1;bif a0.1==1 then k2 else bif a0.1==3 then k2 else k1:=mkE
def Yio:Tb:=[(85,Yif)]
def F67:TFun:=⟨[],[(14,qc [[.c (.p (.sl [.int .i64]))],[.c (.fn 83 [])],qn 5,qi,qi,qn 19,[.c (.p (.sl [.int .i64]))],qn 19,qb,qn 9])],[.c (.sl [.int .i64]),.c db],[.c (.p di)],qc [qn 4,qi,qn 25],[(20,[83]),(10,[108]),(7,[84])],[(14,[9,30])],8⟩
def Ydk:=mkC Yio prog 67 F67
theorem ok67:Ydk.ok prog 67:=mkO ⟨ok85,trivial⟩
def Zea (a0:(List (Int×Unit)))(a1:Bool):Option (Int×Unit):=Ydk.fn (a0,a1,())
def Q6 (n:Nat)(x0:(List (Int×Unit)))(x1 x2:Int)(x3:(List (Int×Unit)))(x4:Bool):Option (Int×Unit):=itr Yio prog 67 F67 n 14 (x0,x1,x2,x3,x4,())
theorem Znn a0 a1:Eq (Zea a0 a1) <| bif ofNat a0.length>4 then some (4,()) else bif ofNat a0.length==0 then some (8,()) else let k1:=Q6 fuel a0 (ofNat a0.length) 0 a0 false;bif a1 then bif ofNat a0.length !=2 then some (8,()) else k1 else k1:=mkE
theorem Zed n x0 x1 x2 x3 x4:Eq (Q6 (n+1) x0 x1 x2 x3 x4) <| bif x2<x1 then bif 0<=x2 then match x0[x2.toNat]? with | none=>none | some e0=>let k1:Option (Int×Unit):=bif x4 then some (8,()) else bif x2>=0 then some (8,()) else match Z8 x3 with | none=>none | some e1=>bif e1.1<ofNat x3.length then some (43,()) else some (0,());bif e0.1<0 then k1 else bif e0.1>=4 then k1 else Q6 n x0 x1 (wrap .i64 (x2+1)) x3 x4 else none else bif x4 then some (8,()) else match Z8 x3 with | none=>none | some e0=>bif e0.1<ofNat x3.length then some (43,()) else some (0,()):=mkI
def Ydl:Tb:=[(66,Z8h),(67,Ydk),(68,Ydj)]
def F42:TFun:=⟨[4,12],[(4,qc [qn 1,[.boxN 27 10 [.any,.any,.p (.sl [.int .i64]),.p db,.p (.sl Xq1),.p (.int .u8),.p di,.p di,.any,.any]],qn 64]),(12,qc [qn 1,[.boxN 27 10 [.any,.any,.p (.sl [.int .i64]),.p db,.any,.p (.int .u8),.p di,.p di,.any,.any]],qn 64])],[.a [.int .u8,.sl Xq1,.sl [.int .i64],.bool,.sl Xq1,.int .u8,.int .i64,.int .i64,.bool,.int .u8]],[.c (.p di)],qc [qn 2,qi,qn 63],[],[],0⟩
def Ydm:=mkC Ydl prog 42 F42
theorem ok42:Ydm.ok prog 42:=mkO ⟨ok66,ok67,ok68,trivial⟩
def Zgl (a0:Xy2):Option (Int×Unit):=Ydm.fn (a0,())
def Zbc (n:Nat)(x0:(List (Int×Unit)))(x1:Bool)(x2:Xy1)(x3 x4 x5:Int):Option (Int×Unit):=itr Ydl prog 42 F42 n 4 (x0,x1,x2,x3,x4,x5,())
def Zci (n:Nat)(x0:(List (Int×Unit)))(x1:Bool)(x2 x3 x4:Int):Option (Int×Unit):=itr Ydl prog 42 F42 n 12 (x0,x1,x2,x3,x4,())
theorem Zqp a0:Eq (Zgl a0) <| bif a0.1<1 then some (8,()) else bif a0.1>4 then some (8,()) else let k1:Option (Int×Unit):=let k3:=Zbc fuel a0.2.2.1 a0.2.2.2.1 a0.2.2.2.2.1 a0.2.2.2.2.2.1 a0.2.2.2.2.2.2.1 a0.2.2.2.2.2.2.2.1;bif a0.1 !=1 then match Zd3 a0.2.1 with | none=>none | some e0=>bif e0.1 !=0 then some (e0.1,()) else k3 else bif ofNat a0.2.1.length>0 then some (8,()) else k3;bif a0.2.2.2.2.2.2.2.2.2.1 !=1 then bif a0.2.2.2.2.2.2.2.2.2.1 !=2 then some (8,()) else k1 else k1:=mkE
theorem Zo7 n x0 x1 x2 x3 x4 x5:Eq (Zbc (n+1) x0 x1 x2 x3 x4 x5) <| let k1:=Zci n x0 x1 x3 x4 x5;bif ofNat x2.length>0 then match Zd3 x2 with | none=>none | some e0=>bif e0.1 !=0 then some (e0.1,()) else k1 else k1:=mkI
theorem Zno n x0 x1 x2 x3 x4:Eq (Zci (n+1) x0 x1 x2 x3 x4) <| match Zea x0 x1 with | none=>none | some e0=>bif e0.1 !=0 then some (e0.1,()) else let k1:=match Zfl (x2,x3,x4,()) with | none=>none | some e1=>some (e1.1,());bif x1 then bif x2 !=1 then some (8,()) else k1 else k1:=mkI
def Ztn:Tb:=[]
def F109:TFun:=⟨[14],[(6,qc [[.c (.p (.sl Xq1))],qn 3,[.boxN 208 1 [.rowN 4 1 [.bool]]],[.fnS 130 [.ptr 0 0]],qn 6,[.c (.p (.sl Xq1))],qi,qi,qn 73]),(14,qc [[.c (.p (.sl Xq1))],qn 3,[.boxN 208 1 [.rowN 4 1 [.bool]]],[.fnS 130 [.ptr 0 0]],qi,qn 1,[.boxN 236 2 [.p db,.p db]],qb,[.c (.slN 3 1 [.int .i64])],qn 1,[.c (.p (.sl Xq1))],qi,qi,qn 73]),(28,qc [qb,qn 1,[.boxN 208 1 [.rowN 4 1 [.bool]]],qn 5,[.c (.slN 3 1 [.int .i64])],qi,qi,qn 10,[.c (.p (.sl Xq1))],qn 3,[.c (.ptr 0 0)],[.fnS 130 [.ptr 0 0]],qi,qn 1,[.boxN 236 2 [.any,.p db]],qb,[.c (.slR 2)],qn 1,[.c (.p (.sl Xq1))],qi,qi,qn 48,qb,qn 24]),(40,qc [qb,qn 1,[.boxN 208 1 [.rowN 4 1 [.bool]]],qn 5,[.c (.p (.sl [.int .i64]))],qi,qi,qn 10,[.c (.p (.sl Xq1))],qn 3,[.c (.ptr 0 0)],[.fnS 130 [.ptr 0 0]],qi,qn 2,qb,qn 2,[.c (.p (.sl Xq1))],qi,qi,qn 54,qb,qn 2,qb,qn 15])],[.c (.sl Xq1)],[.c (.s 4 1 [.bool]),.c (.p di)],qc [qn 2,[.c (.rowN 4 1 [.bool])],qi,qn 84],[(36,[130]),(24,[130])],[(28,[88]),(40,[88])],8⟩
def Zto:=mkC Ztn prog 109 F109
theorem Ymq:Zto.ok prog 109:=mkO trivial
def Z8i:TCon:=⟨Zto.args,[.c (.p (.sl [.bool])),.c (.p di)],Zto.fn⟩
theorem Ykf:Z8i.ok prog 109:=TCon.frz (c:=Zto) Ymq rfl
def Zmm (a0:Xy1):Option (List (Bool×Unit)×Int×Unit):=Zto.fn (a0,())
def Ya (n:Nat)(x0:Xy1)(x1:(List (Bool×Unit)))(x2:Xy1)(x3 x4:Int):Option (List (Bool×Unit)×Int×Unit):=itr Ztn prog 109 F109 n 6 (x0,x1,x2,x3,x4,())
def Yf (n:Nat)(x0:Xy1)(x1:(List (Bool×Unit)))(x2:Int)(x3 x4 x5:Bool)(x6:(List (Int×Unit)))(x7:Int)(x8:Xy1)(x9 x10:Int):Option (List (Bool×Unit)×Int×Unit):=itr Ztn prog 109 F109 n 14 (x0,x1,x2,x3,x4,x5,x6,x7,x8,x9,x10,())
def Yn (n:Nat)(x0:Bool)(x1:(List (Bool×Unit)))(x2:(List (Int×Unit)))(x3 x4 x5:Int)(x6:Xy1)(x7:Int)(x8 x9:Bool)(x10 x11:Int)(x12:Xy1)(x13 x14:Int)(x15:Bool):Option (List (Bool×Unit)×Int×Unit):=itr Ztn prog 109 F109 n 28 (x0,x1,x2,x3,x4,x5,x6,x7,x8,x9,x10,x11,x12,x13,x14,x15,())
def Yg (n:Nat)(x0:Bool)(x1:(List (Bool×Unit)))(x2:(List (Int×Unit)))(x3 x4:Int)(x5:Xy1)(x6:Int)(x7:Bool)(x8:Xy1)(x9 x10:Int)(x11 x12:Bool):Option (List (Bool×Unit)×Int×Unit):=itr Ztn prog 109 F109 n 40 (x0,x1,x2,x3,x4,x5,x6,x7,x8,x9,x10,x11,x12,())
theorem Zzo a0:Eq (Zmm a0) <| Ya fuel a0 ([]) a0 (ofNat a0.length) 0:=mkE
theorem Zlx n x0 x1 x2 x3 x4:Eq (Ya (n+1) x0 x1 x2 x3 x4) <| bif x4<x3 then bif 0<=x4 then match x2[x4.toNat]? with | none=>none | some e0=>bif e0.1<=4 then bif Zc (x1.length+1) 1 then Ya n x0 (x1++[(false,())]) x2 x3 (wrap .i64 (x4+1)) else none else bif e0.1==5 then Yf n x0 x1 x4 true false false ([(e0.2.2.1,()),(e0.2.2.2.1,())]) 1 x2 x3 x4 else bif e0.1==6 then Yf n x0 x1 x4 false true true ([(e0.2.2.1,()),(e0.2.2.2.1,())]) 1 x2 x3 x4 else bif e0.1<=11 then Yf n x0 x1 x4 true false false ([(e0.2.2.1,()),(e0.2.2.2.1,())]) (ofNat (List.length [(e0.2.2.1,()),(e0.2.2.2.1,())])) x2 x3 x4 else bif e0.1<=15 then Yf n x0 x1 x4 true false true ([(e0.2.2.1,()),(e0.2.2.2.1,())]) (ofNat (List.length [(e0.2.2.1,()),(e0.2.2.2.1,())])) x2 x3 x4 else bif e0.1<=17 then Yf n x0 x1 x4 true true true ([(e0.2.2.1,()),(e0.2.2.2.1,())]) (ofNat (List.length [(e0.2.2.1,()),(e0.2.2.2.1,())])) x2 x3 x4 else Yf n x0 x1 x4 false true true ([(e0.2.2.1,()),(e0.2.2.2.1,())]) (ofNat (List.length [(e0.2.2.1,()),(e0.2.2.2.1,())])) x2 x3 x4 else none else some (x1,ofNat x0.length,()):=mkI
theorem Ztp n x0 x1 x2 x3 x4 x5 x6 x7 x8 x9 x10:Eq (Yf (n+1) x0 x1 x2 x3 x4 x5 x6 x7 x8 x9 x10) <| bif x3 then Yn n false x1 x6 (ofNat x7.toNat) (ofNat x7.toNat) 0 x0 x2 x4 x5 0 (ofNat x7.toNat) x8 x9 x10 true else bif x4 then Yg n true x1 (List.take x7.toNat (List.drop 0 x6)) (ofNat x7.toNat) 0 x0 x2 x5 x8 x9 x10 true true else some ([],x2,()):=mkI
theorem Zkc n x0 x1 x2 x3 x4 x5 x6 x7 x8 x9 x10 x11 x12 x13 x14 x15:Eq (Yn (n+1) x0 x1 x2 x3 x4 x5 x6 x7 x8 x9 x10 x11 x12 x13 x14 x15) <| let k1:=bif x8 then Yg n true x1 (List.take x11.toNat (List.drop x10.toNat x2)) (ofNat x11.toNat) 0 x6 x7 x9 x12 x13 x14 true true else some ([],x7,());bif x5<x4 then bif 0<=x5 then bif x5.toNat<x3.toNat then match x2[0+x5.toNat]? with | none=>none | some e0=>bif 0<=e0.1 then bif e0.1.toNat<x1.length then match x1[e0.1.toNat]? with | none=>none | some e1=>bif !e1.1==x0 then bif x15 then k1 else k1 else Yn n x0 x1 x2 (ofNat x3.toNat) x4 (wrap .i64 (x5+1)) x6 x7 x8 x9 (ofNat x10.toNat) (ofNat x11.toNat) x12 x13 x14 x15 else none else none else none else none else bif x15 then bif Zc (x1.length+List.length [(x9,())]) 1 then Ya n x6 (x1++[(x9,())]) x12 x13 (wrap .i64 (x14+1)) else none else k1:=mkI
theorem Zkd n x0 x1 x2 x3 x4 x5 x6 x7 x8 x9 x10 x11 x12:Eq (Yg (n+1) x0 x1 x2 x3 x4 x5 x6 x7 x8 x9 x10 x11 x12) <| let k1:=bif Zc (x1.length+List.length [(x7,())]) 1 then Ya n x5 (x1++[(x7,())]) x8 x9 (wrap .i64 (x10+1)) else none;bif x4<x3 then bif 0<=x4 then match x2[x4.toNat]? with | none=>none | some e0=>bif 0<=e0.1 then bif e0.1.toNat<x1.length then match x1[e0.1.toNat]? with | none=>none | some e1=>bif !e1.1==x0 then bif x11 then bif x12 then some ([],x6,()) else some ([],x6,()) else k1 else Yg n x0 x1 x2 x3 (wrap .i64 (x4+1)) x5 x6 x7 x8 x9 x10 x11 x12 else none else none else none else bif x11 then bif x12 then k1 else some ([],x6,()) else k1:=mkI
def Ymr:Tb:=[(66,Z8h),(109,Z8i)]
def F86:TFun:=⟨[],[],[.c (.sl Xq1)],[.c (.p db),.c (.p di),.c (.p di)],qc [qn 2,qb,qi,qi,qn 25],[],[],0⟩
def Ydn:=mkC Ymr prog 86 F86
theorem ok86:Ydn.ok prog 86:=mkO ⟨ok66,Ykf,trivial⟩
def Ztq (a0:Xy1):Option (Bool×Int×Int×Unit):=Ydn.fn (a0,())
theorem Z5z a0:Eq (Ztq a0) <| match Zd3 a0 with | none=>none | some e0=>bif e0.1 !=0 then some (false,0,e0.1,()) else match Zmm a0 with | none=>none | some e1=>bif e1.2.1<ofNat a0.length then some (false,e1.2.1,42,()) else bif 0<=wrap .i64 (e1.2.1 - 1) then match e1.1[toNat (wrap .i64 (e1.2.1 - 1))]? with | none=>none | some e2=>some (e2.1,wrap .i64 (e1.2.1 - 1),0,()) else none:=mkE
def Yms:Tb:=[(86,Ydn)]
def F69:TFun:=⟨[],[],[.c (.sl Xq1),.c db],[.c (.p di),.c (.p di)],qc [qn 4,qi,qi,qn 18],[],[],0⟩
def Z8j:=mkC Yms prog 69 F69
theorem ok69:Z8j.ok prog 69:=mkO ⟨ok86,trivial⟩
def Zhp (a0:Xy1)(a1:Bool):Option (Int×Int×Unit):=Z8j.fn (a0,a1,())
theorem Zzp a0 a1:Eq (Zhp a0 a1) <| match Ztq a0 with | none=>none | some e0=>bif e0.2.2.1==0 then bif !e0.1==a1 then some (e0.2.1,42,()) else some e0.2 else some e0.2:=mkE
def Ymt:Tb:=[(69,Z8j)]
def F44:TFun:=⟨[],[],[.c (.sl Xq1)],[.c (.p di),.c (.p di)],qc [qn 2,qi,qi,qn 4],[],[],0⟩
def Ydo:=mkC Ymt prog 44 F44
theorem ok44:Ydo.ok prog 44:=mkO ⟨ok69,trivial⟩
def Zhq (a0:Xy1):Option (Int×Int×Unit):=Ydo.fn (a0,())
theorem Ztr a0:Eq (Zhq a0) <| match Zhp a0 false with | none=>none | some e0=>some e0:=mkE
def Ymu:Tb:=[(69,Z8j)]
def F45:TFun:=⟨[],[],[.c (.sl Xq1)],[.c (.p di),.c (.p di)],qc [qn 2,qi,qi,qn 4],[],[],0⟩
def Ydp:=mkC Ymu prog 45 F45
theorem ok45:Ydp.ok prog 45:=mkO ⟨ok69,trivial⟩
def Zf4 (a0:Xy1):Option (Int×Int×Unit):=Ydp.fn (a0,())
theorem Zvn a0:Eq (Zf4 a0) <| match Zhp a0 true with | none=>none | some e0=>some e0:=mkE
def Ymv:Tb:=[(42,Ydm),(44,Ydo),(45,Ydp)]
def F15:TFun:=⟨[],[],[.a [.int .u8,.sl Xq1,.sl [.int .i64],.bool,.sl Xq1,.int .u8,.int .i64,.int .i64,.bool,.int .u8]],[.c (.p di),.c (.p di)],qc [qn 2,qi,qi,qn 16],[(11,[4]),(7,[43])],[],8⟩
def Zxo:=mkC Ymv prog 15 F15
theorem ok15:Zxo.ok prog 15:=mkO ⟨ok42,ok44,ok45,trivial⟩
def Qo (a0:Xy2):Option (Int×Int×Unit):=Zxo.fn (a0,())
theorem Zts a0:Eq (Qo a0) <| match Zgl a0 with | none=>none | some e0=>bif e0.1 !=0 then some (0,e0.1,()) else let k1:Option (Int×Int×Unit):=some (0,0,());bif ofNat a0.2.1.length==0 then bif ofNat a0.2.2.2.2.1.length==0 then k1 else match Zf4 a0.2.2.2.2.1 with | none=>none | some e1=>bif e1.2.1 !=0 then bif 0<=e1.1 then match a0.2.2.2.2.1[e1.1.toNat]? with | none=>none | some e2=>some (e2.2.2.2.2.1,e1.2.1,()) else none else k1 else match Zhq a0.2.1 with | none=>none | some e1=>bif e1.2.1 !=0 then bif 0<=e1.1 then match a0.2.1[e1.1.toNat]? with | none=>none | some e2=>some (e2.2.2.2.2.1,e1.2.1,()) else none else bif ofNat a0.2.2.2.2.1.length==0 then k1 else match Zf4 a0.2.2.2.2.1 with | none=>none | some e2=>bif e2.2.1 !=0 then bif 0<=e2.1 then match a0.2.2.2.2.1[e2.1.toNat]? with | none=>none | some e3=>some (e3.2.2.2.2.1,e2.2.1,()) else none else k1:=mkE
end
end Tg
