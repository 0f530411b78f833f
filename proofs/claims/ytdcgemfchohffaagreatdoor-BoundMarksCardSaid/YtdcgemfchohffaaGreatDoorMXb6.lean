import Derived.Test.YtdcgemfchohffaaGreatDoorMVT
/- Functions of the code, told plainly and checked by the kernel. -/
set_option linter.unusedVariables false
set_option linter.unusedSimpArgs false
set_option maxRecDepth 100000
namespace Tg
noncomputable section
open Go.Abs hiding fuel
open Go.Proofs.Tryz (prog)
open Int (ofNat toNat)
open Go.IntKind (wrap)
def Ykd:Tb:=[]
def F175:TFun:=⟨[],[],[.c (.int .u8)],[.c (.p di),.c (.p di)],qc [qn 2,qi,qi,qn 21],[],[],0⟩
def Z5t:=mkC Ykd prog 175 F175
theorem Ymp:Z5t.ok prog 175:=mkO trivial
def Zkx (a0:Int):Option (Int×Int×Unit):=Z5t.fn (a0,())
theorem Zwk a0:Eq (Zkx a0) <| let k1:Option (Int×Int×Unit):=bif a0==5 then some (1,0,()) else bif a0==6 then some (1,0,()) else bif a0≥7 then bif a0≤19 then some (2,0,()) else some (0,2,()) else some (0,2,());bif a0≥1 then bif a0≤4 then some (0,0,()) else k1 else k1:=mkE
def Zpo:Tb:=[(175,Z5t)]
def F144:TFun:=⟨[28,21,31],[(4,qc [qn 4,[.c (.rowN 234 3 Xq2)],[.c (.rowN 234 3 Xq2)],qn 9,[.c (.p (.sl Xq1))],qi,qi,qn 87]),(21,qc [qn 4,[.c (.rowN 234 3 Xq2)],[.c (.slN 234 3 Xq2)],qn 1,[.boxN 127 5 [.p (.int .u8),.p di,.p di,.p di,.p di]],qn 3,[.boxN 127 5 [.p (.int .u8),.p di,.p di,.p di,.p di]],[.boxN 234 3 [.p di,.p di,.p di]],qn 2,[.c (.p (.sl Xq1))],qi,qi,qn 87]),(23,qc [qn 4,[.c (.rowN 234 3 Xq2)],[.c (.slN 234 3 Xq2)],qn 1,[.boxN 127 5 [.p (.int .u8),.p di,.p di,.p di,.p di]],qn 3,[.boxN 127 5 [.p (.int .u8),.p di,.p di,.p di,.p di]],[.boxN 234 3 [.p di,.p di,.p di]],qn 2,[.c (.p (.sl Xq1))],qi,qi,qn 34,[.c (.slR 1)],qi,qi,qn 50]),(28,qc [qn 4,[.c (.rowN 234 3 Xq2)],[.c (.slN 234 3 Xq2)],qn 1,[.boxN 127 5 [.p (.int .u8),.p di,.p di,.p di,.p di]],qn 3,[.boxN 127 5 [.p (.int .u8),.p di,.p di,.p di,.p di]],[.boxN 234 3 [.p di,.p di,.p di]],qn 1,[.boxN 234 3 [.any,.p di,.p di]],[.c (.p (.sl Xq1))],qi,qi,qn 34,[.c (.slR 1)],qi,qi,qn 50]),(31,qc [qn 4,[.c (.rowN 234 3 Xq2)],[.c (.slN 234 3 Xq2)],qn 1,[.boxN 127 5 [.p (.int .u8),.p di,.p di,.p di,.p di]],qn 3,[.boxN 127 5 [.p (.int .u8),.p di,.p di,.p di,.p di]],[.boxN 234 3 [.p di,.p di,.p di]],qn 2,[.c (.p (.sl Xq1))],qi,qi,qn 87])],[.c (.sl Xq1)],[.c (.s 234 3 Xq2),.c (.p db)],qc [qn 2,[.c (.rowN 234 3 Xq2)],qb,qn 101],[(16,[176])],[],8⟩
def Zue:=mkC Zpo prog 144 F144
theorem Ymq:Zue.ok prog 144:=mkO ⟨Ymp,trivial⟩
def Z73:TCon:=⟨Zue.args,[.c (.p (.sl Xq2)),.c (.p db)],Zue.fn⟩
theorem Yke:Z73.ok prog 144:=TCon.frz (c:=Zue) Ymq rfl
def Zht (a0:Xy1):Option (List Xy3×Bool×Unit):=Zue.fn (a0,())
def Zu (n:Nat)(x0 x1:(List Xy3))(x2:Xy1)(x3 x4:Int):Option (List Xy3×Bool×Unit):=itr Zpo prog 144 F144 n 4 (x0,x1,x2,x3,x4,())
def Za9 (n:Nat)(x0 x1:(List Xy3))(x2 x3 x4 x5 x6 x7 x8 x9 x10 x11 x12 x13 x14 x15:Int)(x16:Xy1)(x17 x18:Int):Option (List Xy3×Bool×Unit):=itr Zpo prog 144 F144 n 21 (x0,x1,x2,x3,x4,x5,x6,x7,x8,x9,x10,x11,x12,x13,x14,x15,x16,x17,x18,())
def Yk (n:Nat)(x0 x1:(List Xy3))(x2 x3 x4 x5 x6 x7 x8 x9 x10 x11 x12 x13 x14 x15:Int)(x16:Xy1)(x17 x18 x19 x20 x21 x22:Int):Option (List Xy3×Bool×Unit):=itr Zpo prog 144 F144 n 23 (x0,x1,x2,x3,x4,x5,x6,x7,x8,x9,x10,x11,x12,x13,x14,x15,x16,x17,x18,x19,x20,x21,x22,())
def Zfn (n:Nat)(x0 x1:(List Xy3))(x2 x3 x4 x5 x6 x7 x8 x9 x10 x11 x12 x13 x14 x15 x16 x17:Int)(x18:Xy1)(x19 x20 x21 x22 x23 x24:Int):Option (List Xy3×Bool×Unit):=itr Zpo prog 144 F144 n 28 (x0,x1,x2,x3,x4,x5,x6,x7,x8,x9,x10,x11,x12,x13,x14,x15,x16,x17,x18,x19,x20,x21,x22,x23,x24,())
def Zcu (n:Nat)(x0 x1:(List Xy3))(x2 x3 x4 x5 x6 x7 x8 x9 x10 x11 x12 x13 x14 x15:Int)(x16:Xy1)(x17 x18:Int):Option (List Xy3×Bool×Unit):=itr Zpo prog 144 F144 n 31 (x0,x1,x2,x3,x4,x5,x6,x7,x8,x9,x10,x11,x12,x13,x14,x15,x16,x17,x18,())
theorem Zn8 a0:Eq (Zht a0) <| Zu fuel ([]) ([]) a0 (ofNat a0.length) 0:=mkE
theorem Zdp n x0 x1 x2 x3 x4:Eq (Zu (n+1) x0 x1 x2 x3 x4) <| bif x4<x3 then bif 0≤x4 then match x2[x4.toNat]? with | none=>none | some e0=>match Zkx e0.1 with | none=>none | some e1=>bif e1.2.1 !=0 then some (x0,false,()) else bif e1.1>ofNat x1.length then some (x0,false,()) else bif 0≤wrap .i64 (ofNat x1.length - e1.1) then bif decide (0≤toNat (wrap .i64 (ofNat x1.length - e1.1)))&&decide (toNat (wrap .i64 (ofNat x1.length - e1.1))≤x1.length) then bif 0≤wrap .i64 (ofNat x1.length - e1.1) then bif toNat (wrap .i64 (ofNat x1.length - e1.1))≤x1.length then bif toNat (wrap .i64 (ofNat x1.length - e1.1))=x1.length then Yk n x0 x1 (ofNat (toNat (wrap .i64 (ofNat x1.length - e1.1)))) e0.1 e0.2.1 e0.2.2.1 e0.2.2.2.1 e0.2.2.2.2.1 e0.1 0 0 0 (tmm false (tmm true e0.2.2.2.2.1 0) 400) x4 1 1 x2 x3 x4 1 0 0 0 else Yk n x0 x1 (ofNat (toNat (wrap .i64 (ofNat x1.length - e1.1)))) e0.1 e0.2.1 e0.2.2.1 e0.2.2.2.1 e0.2.2.2.2.1 e0.1 0 0 0 (tmm false (tmm true e0.2.2.2.2.1 0) 400) x4 1 1 x2 x3 x4 (ofNat (toNat (wrap .i64 (ofNat x1.length - e1.1)))) (ofNat (x1.length - toNat (wrap .i64 (ofNat x1.length - e1.1)))) (ofNat (x1.length - toNat (wrap .i64 (ofNat x1.length - e1.1)))) 0 else none else none else none else none else none else some (x0,ofNat x1.length==1,()):=mkI
theorem Zuf n x0 x1 x2 x3 x4 x5 x6 x7 x8 x9 x10 x11 x12 x13 x14 x15 x16 x17 x18:Eq (Za9 (n+1) x0 x1 x2 x3 x4 x5 x6 x7 x8 x9 x10 x11 x12 x13 x14 x15 x16 x17 x18) <| bif x3==1 then Zcu n x0 x1 (ofNat x2.toNat) x3 x4 x5 x6 x7 x8 (tmm true x4 0) x10 x11 x12 x13 x14 x15 x16 x17 x18 else Zcu n x0 x1 (ofNat x2.toNat) x3 x4 x5 x6 x7 x8 x9 x10 x11 x12 x13 x14 x15 x16 x17 x18:=mkI
theorem Zky n x0 x1 x2 x3 x4 x5 x6 x7 x8 x9 x10 x11 x12 x13 x14 x15 x16 x17 x18 x19 x20 x21 x22:Eq (Yk (n+1) x0 x1 x2 x3 x4 x5 x6 x7 x8 x9 x10 x11 x12 x13 x14 x15 x16 x17 x18 x19 x20 x21 x22) <| bif x22<x21 then bif 0≤x22 then bif x22.toNat<x20.toNat then match x1[x19.toNat+x22.toNat]? with | none=>none | some e0=>bif x22==0 then Zfn n x0 x1 (ofNat x2.toNat) x3 x4 x5 x6 x7 x8 x9 e0.1 x11 x12 x13 x14 x15 e0.2.1 e0.2.2.1 x16 x17 x18 (ofNat x19.toNat) (ofNat x20.toNat) x21 x22 else Zfn n x0 x1 (ofNat x2.toNat) x3 x4 x5 x6 x7 x8 x9 x10 e0.1 x12 x13 x14 x15 e0.2.1 e0.2.2.1 x16 x17 x18 (ofNat x19.toNat) (ofNat x20.toNat) x21 x22 else none else none else Za9 n x0 x1 (ofNat x2.toNat) x3 x4 x5 x6 x7 x8 x9 x10 x11 x12 x13 x14 x15 x16 x17 x18:=mkI
theorem Zkz n x0 x1 x2 x3 x4 x5 x6 x7 x8 x9 x10 x11 x12 x13 x14 x15 x16 x17 x18 x19 x20 x21 x22 x23 x24:Eq (Zfn (n+1) x0 x1 x2 x3 x4 x5 x6 x7 x8 x9 x10 x11 x12 x13 x14 x15 x16 x17 x18 x19 x20 x21 x22 x23 x24) <| Yk n x0 x1 (ofNat x2.toNat) x3 x4 x5 x6 x7 x8 x9 x10 x11 x12 x13 (wrap .i64 (x14+x16)) (tmm true x15 (wrap .i64 (x17+1))) x18 x19 x20 (ofNat x21.toNat) (ofNat x22.toNat) x23 (wrap .i64 (x24+1)):=mkI
theorem Zug n x0 x1 x2 x3 x4 x5 x6 x7 x8 x9 x10 x11 x12 x13 x14 x15 x16 x17 x18:Eq (Zcu (n+1) x0 x1 x2 x3 x4 x5 x6 x7 x8 x9 x10 x11 x12 x13 x14 x15 x16 x17 x18) <| bif !(x8==x3&&(x9==x4&&(x10==x5&&(x11==x6&&(x12==x7&&true))))) then some (x0,false,()) else bif decide (x2.toNat≤x1.length)&&Zl (x2.toNat+List.length [(x13,x14,x15,())]) 24 then bif Zl (x0.length+List.length [(x13,x14,x15,())]) 24 then Zu n (x0++[(x13,x14,x15,())]) (List.take x2.toNat x1++[(x13,x14,x15,())]) x16 x17 (wrap .i64 (x18+1)) else none else none:=mkI
def Ykf:Tb:=[(144,Z73)]
def F118:TFun:=⟨[],[],[.c (.sl Xq1)],[.c (.p (.sl Xq2)),.c (.p di)],qc [qn 2,[.c (.p (.sl Xq2))],qi,qn 21],[],[],0⟩
def Z5u:=mkC Ykf prog 118 F118
theorem Ymr:Z5u.ok prog 118:=mkO ⟨Yke,trivial⟩
def Zqq (a0:Xy1):Option (List Xy3×Int×Unit):=Z5u.fn (a0,())
theorem Zwl a0:Eq (Zqq a0) <| bif ofNat a0.length>60 then some ([],4,()) else match Zht a0 with | none=>none | some e0=>bif !e0.2.1 then some ([],8,()) else bif 0≤wrap .i64 (ofNat e0.1.length - 1) then match e0.1[toNat (wrap .i64 (ofNat e0.1.length - 1))]? with | none=>none | some e1=>bif e1.2.2.1>20 then some ([],34,()) else some (e0.1,0,()) else none:=mkE
def Yms:Tb:=[(118,Z5u)]
def F80:TFun:=⟨[],[],[.c (.sl Xq1)],[.c (.p di)],qc [qn 2,qi,qn 8],[],[],0⟩
def Z74:=mkC Yms prog 80 F80
theorem ok80:Z74.ok prog 80:=mkO ⟨Ymr,trivial⟩
def Zd1 (a0:Xy1):Option (Int×Unit):=Z74.fn (a0,())
theorem Zwm a0:Eq (Zd1 a0) <| match Zqq a0 with | none=>none | some e0=>some (e0.2.1,()):=mkE
def Ymt:Tb:=[]
def F82:TFun:=⟨[],[],[.a [.int .u8,.int .i64,.int .i64]],[.c (.p di)],qc [qn 2,qi,qn 37],[],[],0⟩
def Ydp:=mkC Ymt prog 82 F82
theorem ok82:Ydp.ok prog 82:=mkO trivial
def Zfo (a0:Xy3):Option (Int×Unit):=Ydp.fn (a0,())
theorem Zpp a0:Eq (Zfo a0) <| let k1:Option (Int×Unit):=some (8,());bif a0.2.1<1 then k1 else bif a0.2.1>1073741824 then k1 else bif a0.1==2 then bif a0.2.2.1≥1 then bif a0.2.2.1≤a0.2.1 then bif a0.2.1≤wrap .i64 (16*a0.2.2.1) then some (0,()) else k1 else k1 else k1 else let k2:Option (Int×Unit):=bif a0.2.2.1==0 then some (0,()) else k1;bif a0.1==1 then k2 else bif a0.1==3 then k2 else k1:=mkE
def Yik:Tb:=[(121,Yb1)]
def F81:TFun:=⟨[],[(14,qc [[.c (.p (.sl [.int .i64]))],[.c (.fn 119 [])],qn 5,qi,qi,qn 19,[.c (.p (.sl [.int .i64]))],qn 19,qb,qn 9])],[.c (.sl [.int .i64]),.c db],[.c (.p di)],qc [qn 4,qi,qn 25],[(20,[119]),(10,[145]),(7,[120])],[(14,[9,30])],8⟩
def Ydq:=mkC Yik prog 81 F81
theorem ok81:Ydq.ok prog 81:=mkO ⟨Yli,trivial⟩
def Zea (a0:(List (Int×Unit)))(a1:Bool):Option (Int×Unit):=Ydq.fn (a0,a1,())
def Qy (n:Nat)(x0:(List (Int×Unit)))(x1 x2:Int)(x3:(List (Int×Unit)))(x4:Bool):Option (Int×Unit):=itr Yik prog 81 F81 n 14 (x0,x1,x2,x3,x4,())
theorem Zn9 a0 a1:Eq (Zea a0 a1) <| bif ofNat a0.length>4 then some (4,()) else bif ofNat a0.length==0 then some (8,()) else let k1:=Qy fuel a0 (ofNat a0.length) 0 a0 false;bif a1 then bif ofNat a0.length !=2 then some (8,()) else k1 else k1:=mkE
theorem Zee n x0 x1 x2 x3 x4:Eq (Qy (n+1) x0 x1 x2 x3 x4) <| bif x2<x1 then bif 0≤x2 then match x0[x2.toNat]? with | none=>none | some e0=>let k1:Option (Int×Unit):=bif x4 then some (8,()) else bif x2≥0 then some (8,()) else match Z7 x3 with | none=>none | some e1=>bif e1.1<ofNat x3.length then some (43,()) else some (0,());bif e0.1<0 then k1 else bif e0.1≥4 then k1 else Qy n x0 x1 (wrap .i64 (x2+1)) x3 x4 else none else bif x4 then some (8,()) else match Z7 x3 with | none=>none | some e0=>bif e0.1<ofNat x3.length then some (43,()) else some (0,()):=mkI
def Ydr:Tb:=[(80,Z74),(81,Ydq),(82,Ydp)]
def F39:TFun:=⟨[4,12],[(4,qc [qn 1,[.boxN 27 10 [.any,.any,.p (.sl [.int .i64]),.p db,.p (.sl Xq1),.p (.int .u8),.p di,.p di,.any,.any]],qn 64]),(12,qc [qn 1,[.boxN 27 10 [.any,.any,.p (.sl [.int .i64]),.p db,.any,.p (.int .u8),.p di,.p di,.any,.any]],qn 64])],[.a [.int .u8,.sl Xq1,.sl [.int .i64],.bool,.sl Xq1,.int .u8,.int .i64,.int .i64,.bool,.int .u8]],[.c (.p di)],qc [qn 2,qi,qn 63],[],[],0⟩
def Yds:=mkC Ydr prog 39 F39
theorem ok39:Yds.ok prog 39:=mkO ⟨ok80,ok81,ok82,trivial⟩
def Zgo (a0:Xy2):Option (Int×Unit):=Yds.fn (a0,())
def Zbg (n:Nat)(x0:(List (Int×Unit)))(x1:Bool)(x2:Xy1)(x3 x4 x5:Int):Option (Int×Unit):=itr Ydr prog 39 F39 n 4 (x0,x1,x2,x3,x4,x5,())
def Zcv (n:Nat)(x0:(List (Int×Unit)))(x1:Bool)(x2 x3 x4:Int):Option (Int×Unit):=itr Ydr prog 39 F39 n 12 (x0,x1,x2,x3,x4,())
theorem Zq9 a0:Eq (Zgo a0) <| bif a0.1<1 then some (8,()) else bif a0.1>4 then some (8,()) else let k1:Option (Int×Unit):=let k3:=Zbg fuel a0.2.2.1 a0.2.2.2.1 a0.2.2.2.2.1 a0.2.2.2.2.2.1 a0.2.2.2.2.2.2.1 a0.2.2.2.2.2.2.2.1;bif a0.1 !=1 then match Zd1 a0.2.1 with | none=>none | some e0=>bif e0.1 !=0 then some (e0.1,()) else k3 else bif ofNat a0.2.1.length>0 then some (8,()) else k3;bif a0.2.2.2.2.2.2.2.2.2.1 !=1 then bif a0.2.2.2.2.2.2.2.2.2.1 !=2 then some (8,()) else k1 else k1:=mkE
theorem Zpq n x0 x1 x2 x3 x4 x5:Eq (Zbg (n+1) x0 x1 x2 x3 x4 x5) <| let k1:=Zcv n x0 x1 x3 x4 x5;bif ofNat x2.length>0 then match Zd1 x2 with | none=>none | some e0=>bif e0.1 !=0 then some (e0.1,()) else k1 else k1:=mkI
theorem Zoa n x0 x1 x2 x3 x4:Eq (Zcv (n+1) x0 x1 x2 x3 x4) <| match Zea x0 x1 with | none=>none | some e0=>bif e0.1 !=0 then some (e0.1,()) else let k1:=match Zfo (x2,x3,x4,()) with | none=>none | some e1=>some (e1.1,());bif x1 then bif x2 !=1 then some (8,()) else k1 else k1:=mkI
def Zuh:Tb:=[]
def F146:TFun:=⟨[14],[(6,qc [[.c (.p (.sl Xq1))],qn 3,[.boxN 141 1 [.rowN 4 1 [.bool]]],[.fnS 177 [.ptr 0 0]],qn 6,[.c (.p (.sl Xq1))],qi,qi,qn 73]),(14,qc [[.c (.p (.sl Xq1))],qn 3,[.boxN 141 1 [.rowN 4 1 [.bool]]],[.fnS 177 [.ptr 0 0]],qi,qn 1,[.boxN 274 2 [.p db,.p db]],qb,[.c (.slN 3 1 [.int .i64])],qn 1,[.c (.p (.sl Xq1))],qi,qi,qn 73]),(28,qc [qb,qn 1,[.boxN 141 1 [.rowN 4 1 [.bool]]],qn 5,[.c (.slN 3 1 [.int .i64])],qi,qi,qn 10,[.c (.p (.sl Xq1))],qn 3,[.c (.ptr 0 0)],[.fnS 177 [.ptr 0 0]],qi,qn 1,[.boxN 274 2 [.any,.p db]],qb,[.c (.slR 2)],qn 1,[.c (.p (.sl Xq1))],qi,qi,qn 48,qb,qn 24]),(40,qc [qb,qn 1,[.boxN 141 1 [.rowN 4 1 [.bool]]],qn 5,[.c (.p (.sl [.int .i64]))],qi,qi,qn 10,[.c (.p (.sl Xq1))],qn 3,[.c (.ptr 0 0)],[.fnS 177 [.ptr 0 0]],qi,qn 2,qb,qn 2,[.c (.p (.sl Xq1))],qi,qi,qn 54,qb,qn 2,qb,qn 15])],[.c (.sl Xq1)],[.c (.s 4 1 [.bool]),.c (.p di)],qc [qn 2,[.c (.rowN 4 1 [.bool])],qi,qn 84],[(36,[177]),(24,[177])],[(28,[88]),(40,[88])],8⟩
def Zui:=mkC Zuh prog 146 F146
theorem Ymu:Zui.ok prog 146:=mkO trivial
def Z75:TCon:=⟨Zui.args,[.c (.p (.sl [.bool])),.c (.p di)],Zui.fn⟩
theorem Ykg:Z75.ok prog 146:=TCon.frz (c:=Zui) Ymu rfl
def Znb (a0:Xy1):Option (List (Bool×Unit)×Int×Unit):=Zui.fn (a0,())
def Z8 (n:Nat)(x0:Xy1)(x1:(List (Bool×Unit)))(x2:Xy1)(x3 x4:Int):Option (List (Bool×Unit)×Int×Unit):=itr Zuh prog 146 F146 n 6 (x0,x1,x2,x3,x4,())
def Yc (n:Nat)(x0:Xy1)(x1:(List (Bool×Unit)))(x2:Int)(x3 x4 x5:Bool)(x6:(List (Int×Unit)))(x7:Int)(x8:Xy1)(x9 x10:Int):Option (List (Bool×Unit)×Int×Unit):=itr Zuh prog 146 F146 n 14 (x0,x1,x2,x3,x4,x5,x6,x7,x8,x9,x10,())
def Yl (n:Nat)(x0:Bool)(x1:(List (Bool×Unit)))(x2:(List (Int×Unit)))(x3 x4 x5:Int)(x6:Xy1)(x7:Int)(x8 x9:Bool)(x10 x11:Int)(x12:Xy1)(x13 x14:Int)(x15:Bool):Option (List (Bool×Unit)×Int×Unit):=itr Zuh prog 146 F146 n 28 (x0,x1,x2,x3,x4,x5,x6,x7,x8,x9,x10,x11,x12,x13,x14,x15,())
def Yd (n:Nat)(x0:Bool)(x1:(List (Bool×Unit)))(x2:(List (Int×Unit)))(x3 x4:Int)(x5:Xy1)(x6:Int)(x7:Bool)(x8:Xy1)(x9 x10:Int)(x11 x12:Bool):Option (List (Bool×Unit)×Int×Unit):=itr Zuh prog 146 F146 n 40 (x0,x1,x2,x3,x4,x5,x6,x7,x8,x9,x10,x11,x12,())
theorem Z0k a0:Eq (Znb a0) <| Z8 fuel a0 ([]) a0 (ofNat a0.length) 0:=mkE
theorem Zmk n x0 x1 x2 x3 x4:Eq (Z8 (n+1) x0 x1 x2 x3 x4) <| bif x4<x3 then bif 0≤x4 then match x2[x4.toNat]? with | none=>none | some e0=>bif e0.1≤4 then bif Zl (x1.length+1) 1 then Z8 n x0 (x1++[(false,())]) x2 x3 (wrap .i64 (x4+1)) else none else bif e0.1==5 then Yc n x0 x1 x4 true false false ([(e0.2.2.1,()),(e0.2.2.2.1,())]) 1 x2 x3 x4 else bif e0.1==6 then Yc n x0 x1 x4 false true true ([(e0.2.2.1,()),(e0.2.2.2.1,())]) 1 x2 x3 x4 else bif e0.1≤11 then Yc n x0 x1 x4 true false false ([(e0.2.2.1,()),(e0.2.2.2.1,())]) (ofNat (List.length [(e0.2.2.1,()),(e0.2.2.2.1,())])) x2 x3 x4 else bif e0.1≤15 then Yc n x0 x1 x4 true false true ([(e0.2.2.1,()),(e0.2.2.2.1,())]) (ofNat (List.length [(e0.2.2.1,()),(e0.2.2.2.1,())])) x2 x3 x4 else bif e0.1≤17 then Yc n x0 x1 x4 true true true ([(e0.2.2.1,()),(e0.2.2.2.1,())]) (ofNat (List.length [(e0.2.2.1,()),(e0.2.2.2.1,())])) x2 x3 x4 else Yc n x0 x1 x4 false true true ([(e0.2.2.1,()),(e0.2.2.2.1,())]) (ofNat (List.length [(e0.2.2.1,()),(e0.2.2.2.1,())])) x2 x3 x4 else none else some (x1,ofNat x0.length,()):=mkI
theorem Zuj n x0 x1 x2 x3 x4 x5 x6 x7 x8 x9 x10:Eq (Yc (n+1) x0 x1 x2 x3 x4 x5 x6 x7 x8 x9 x10) <| bif x3 then Yl n false x1 x6 (ofNat x7.toNat) (ofNat x7.toNat) 0 x0 x2 x4 x5 0 (ofNat x7.toNat) x8 x9 x10 true else bif x4 then Yd n true x1 (List.take x7.toNat (List.drop 0 x6)) (ofNat x7.toNat) 0 x0 x2 x5 x8 x9 x10 true true else some ([],x2,()):=mkI
theorem Zk0 n x0 x1 x2 x3 x4 x5 x6 x7 x8 x9 x10 x11 x12 x13 x14 x15:Eq (Yl (n+1) x0 x1 x2 x3 x4 x5 x6 x7 x8 x9 x10 x11 x12 x13 x14 x15) <| let k1:=bif x8 then Yd n true x1 (List.take x11.toNat (List.drop x10.toNat x2)) (ofNat x11.toNat) 0 x6 x7 x9 x12 x13 x14 true true else some ([],x7,());bif x5<x4 then bif 0≤x5 then bif x5.toNat<x3.toNat then match x2[0+x5.toNat]? with | none=>none | some e0=>bif 0≤e0.1 then bif e0.1.toNat<x1.length then match x1[e0.1.toNat]? with | none=>none | some e1=>bif !e1.1==x0 then bif x15 then k1 else k1 else Yl n x0 x1 x2 (ofNat x3.toNat) x4 (wrap .i64 (x5+1)) x6 x7 x8 x9 (ofNat x10.toNat) (ofNat x11.toNat) x12 x13 x14 x15 else none else none else none else none else bif x15 then bif Zl (x1.length+List.length [(x9,())]) 1 then Z8 n x6 (x1++[(x9,())]) x12 x13 (wrap .i64 (x14+1)) else none else k1:=mkI
theorem Zk1 n x0 x1 x2 x3 x4 x5 x6 x7 x8 x9 x10 x11 x12:Eq (Yd (n+1) x0 x1 x2 x3 x4 x5 x6 x7 x8 x9 x10 x11 x12) <| let k1:=bif Zl (x1.length+List.length [(x7,())]) 1 then Z8 n x5 (x1++[(x7,())]) x8 x9 (wrap .i64 (x10+1)) else none;bif x4<x3 then bif 0≤x4 then match x2[x4.toNat]? with | none=>none | some e0=>bif 0≤e0.1 then bif e0.1.toNat<x1.length then match x1[e0.1.toNat]? with | none=>none | some e1=>bif !e1.1==x0 then bif x11 then bif x12 then some ([],x6,()) else some ([],x6,()) else k1 else Yd n x0 x1 x2 x3 (wrap .i64 (x4+1)) x5 x6 x7 x8 x9 x10 x11 x12 else none else none else none else bif x11 then bif x12 then k1 else some ([],x6,()) else k1:=mkI
def Ykh:Tb:=[(80,Z74),(146,Z75)]
def F122:TFun:=⟨[],[],[.c (.sl Xq1)],[.c (.p db),.c (.p di),.c (.p di)],qc [qn 2,qb,qi,qi,qn 25],[],[],0⟩
def Z5v:=mkC Ykh prog 122 F122
theorem Ymv:Z5v.ok prog 122:=mkO ⟨ok80,Ykg,trivial⟩
def Zuk (a0:Xy1):Option (Bool×Int×Int×Unit):=Z5v.fn (a0,())
theorem Z5w a0:Eq (Zuk a0) <| match Zd1 a0 with | none=>none | some e0=>bif e0.1 !=0 then some (false,0,e0.1,()) else match Znb a0 with | none=>none | some e1=>bif e1.2.1<ofNat a0.length then some (false,e1.2.1,42,()) else bif 0≤wrap .i64 (e1.2.1 - 1) then match e1.1[toNat (wrap .i64 (e1.2.1 - 1))]? with | none=>none | some e2=>some (e2.1,wrap .i64 (e1.2.1 - 1),0,()) else none:=mkE
def Ymw:Tb:=[(122,Z5v)]
def F83:TFun:=⟨[],[],[.c (.sl Xq1),.c db],[.c (.p di),.c (.p di)],qc [qn 4,qi,qi,qn 18],[],[],0⟩
def Z76:=mkC Ymw prog 83 F83
theorem ok83:Z76.ok prog 83:=mkO ⟨Ymv,trivial⟩
def Zhu (a0:Xy1)(a1:Bool):Option (Int×Int×Unit):=Z76.fn (a0,a1,())
theorem Z0l a0 a1:Eq (Zhu a0 a1) <| match Zuk a0 with | none=>none | some e0=>bif e0.2.2.1==0 then bif !e0.1==a1 then some (e0.2.1,42,()) else some e0.2 else some e0.2:=mkE
def Ymx:Tb:=[(83,Z76)]
def F41:TFun:=⟨[],[],[.c (.sl Xq1)],[.c (.p di),.c (.p di)],qc [qn 2,qi,qi,qn 4],[],[],0⟩
def Ydt:=mkC Ymx prog 41 F41
theorem ok41:Ydt.ok prog 41:=mkO ⟨ok83,trivial⟩
def Zhv (a0:Xy1):Option (Int×Int×Unit):=Ydt.fn (a0,())
theorem Zul a0:Eq (Zhv a0) <| match Zhu a0 false with | none=>none | some e0=>some e0:=mkE
def Ymy:Tb:=[(83,Z76)]
def F42:TFun:=⟨[],[],[.c (.sl Xq1)],[.c (.p di),.c (.p di)],qc [qn 2,qi,qi,qn 4],[],[],0⟩
def Ydu:=mkC Ymy prog 42 F42
theorem ok42:Ydu.ok prog 42:=mkO ⟨ok83,trivial⟩
def Zf8 (a0:Xy1):Option (Int×Int×Unit):=Ydu.fn (a0,())
theorem Zwn a0:Eq (Zf8 a0) <| match Zhu a0 true with | none=>none | some e0=>some e0:=mkE
def Ymz:Tb:=[(39,Yds),(41,Ydt),(42,Ydu)]
def F26:TFun:=⟨[],[],[.a [.int .u8,.sl Xq1,.sl [.int .i64],.bool,.sl Xq1,.int .u8,.int .i64,.int .i64,.bool,.int .u8]],[.c (.p di),.c (.p di)],qc [qn 2,qi,qi,qn 16],[(11,[4]),(7,[40])],[],8⟩
def Ydv:=mkC Ymz prog 26 F26
theorem ok26:Ydv.ok prog 26:=mkO ⟨ok39,ok41,ok42,trivial⟩
def Zcw (a0:Xy2):Option (Int×Int×Unit):=Ydv.fn (a0,())
theorem Zum a0:Eq (Zcw a0) <| match Zgo a0 with | none=>none | some e0=>bif e0.1 !=0 then some (0,e0.1,()) else let k1:Option (Int×Int×Unit):=some (0,0,());bif ofNat a0.2.1.length==0 then bif ofNat a0.2.2.2.2.1.length==0 then k1 else match Zf8 a0.2.2.2.2.1 with | none=>none | some e1=>bif e1.2.1 !=0 then bif 0≤e1.1 then match a0.2.2.2.2.1[e1.1.toNat]? with | none=>none | some e2=>some (e2.2.2.2.2.1,e1.2.1,()) else none else k1 else match Zhv a0.2.1 with | none=>none | some e1=>bif e1.2.1 !=0 then bif 0≤e1.1 then match a0.2.1[e1.1.toNat]? with | none=>none | some e2=>some (e2.2.2.2.2.1,e1.2.1,()) else none else bif ofNat a0.2.2.2.2.1.length==0 then k1 else match Zf8 a0.2.2.2.2.1 with | none=>none | some e2=>bif e2.2.1 !=0 then bif 0≤e2.1 then match a0.2.2.2.2.1[e2.1.toNat]? with | none=>none | some e3=>some (e3.2.2.2.2.1,e2.2.1,()) else none else k1:=mkE
end
end Tg
