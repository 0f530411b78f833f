import Derived.Test.YtdppkfgoiagepaaGreatDoorBVT
import Derived.Test.YtdppkfgoiagepaaGreatDoorBHS
/- Functions of the code, told plainly and checked by the kernel. -/
set_option linter.unusedVariables false
set_option linter.unusedSimpArgs false
set_option maxRecDepth 100000
namespace Tg
open Go.Abs hiding fuel
open Go.Proofs.Tryz (prog)
open Int (ofNat toNat)
open Go.IntKind (wrap)
noncomputable def Ya9:Tb:=[]
def F155:TFun:=⟨[],[],[.c (.int .u8)],[.c (.p di),.c (.p di)],qc [qn 2,qi,qi,qn 21],[],[],0⟩
noncomputable def Zzx:=mkC Ya9 prog 155 F155
theorem Ycz:Zzx.ok prog 155:=mkO trivial (by kernel_rfl)
noncomputable def Zh1 (a0:Int):Option (Int×Int×Unit):=Zzx.fn (a0,())
theorem Zrf a0:Eq (Zh1 a0) <| let k1:Option (Int×Int×Unit):=bif a0==5 then some (1,0,()) else bif a0==6 then some (1,0,()) else bif a0≥7 then bif a0≤19 then some (2,0,()) else some (0,2,()) else some (0,2,());bif a0≥1 then bif a0≤4 then some (0,0,()) else k1 else k1:=mkE (by kernel_rfl)
noncomputable def Zl7:Tb:=[(155,Zzx)]
def F123:TFun:=⟨[28,21,31],[(4,qc [qn 4,[.c (.rowN 218 3 Xq2)],[.c (.rowN 218 3 Xq2)],qn 9,[.c (.p (.sl Xq1))],qi,qi,qn 87]),(21,qc [qn 4,[.c (.rowN 218 3 Xq2)],[.c (.slN 218 3 Xq2)],qn 1,[.boxN 72 5 [.p (.int .u8),.p di,.p di,.p di,.p di]],qn 3,[.boxN 72 5 [.p (.int .u8),.p di,.p di,.p di,.p di]],[.boxN 218 3 [.p di,.p di,.p di]],qn 2,[.c (.p (.sl Xq1))],qi,qi,qn 87]),(23,qc [qn 4,[.c (.rowN 218 3 Xq2)],[.c (.slN 218 3 Xq2)],qn 1,[.boxN 72 5 [.p (.int .u8),.p di,.p di,.p di,.p di]],qn 3,[.boxN 72 5 [.p (.int .u8),.p di,.p di,.p di,.p di]],[.boxN 218 3 [.p di,.p di,.p di]],qn 2,[.c (.p (.sl Xq1))],qi,qi,qn 34,[.c (.slR 1)],qi,qi,qn 50]),(28,qc [qn 4,[.c (.rowN 218 3 Xq2)],[.c (.slN 218 3 Xq2)],qn 1,[.boxN 72 5 [.p (.int .u8),.p di,.p di,.p di,.p di]],qn 3,[.boxN 72 5 [.p (.int .u8),.p di,.p di,.p di,.p di]],[.boxN 218 3 [.p di,.p di,.p di]],qn 1,[.boxN 218 3 [.any,.p di,.p di]],[.c (.p (.sl Xq1))],qi,qi,qn 34,[.c (.slR 1)],qi,qi,qn 50]),(31,qc [qn 4,[.c (.rowN 218 3 Xq2)],[.c (.slN 218 3 Xq2)],qn 1,[.boxN 72 5 [.p (.int .u8),.p di,.p di,.p di,.p di]],qn 3,[.boxN 72 5 [.p (.int .u8),.p di,.p di,.p di,.p di]],[.boxN 218 3 [.p di,.p di,.p di]],qn 2,[.c (.p (.sl Xq1))],qi,qi,qn 87])],[.c (.sl Xq1)],[.c (.s 218 3 Xq2),.c (.p db)],qc [qn 2,[.c (.rowN 218 3 Xq2)],qb,qn 101],[(16,[156])],[],8⟩
noncomputable def Zp4:=mkC Zl7 prog 123 F123
theorem Yc0:Zp4.ok prog 123:=mkO ⟨Ycz,trivial⟩ (by kernel_rfl)
noncomputable def Z10:TCon:=⟨Zp4.args,[.c (.p (.sl Xq2)),.c (.p db)],Zp4.fn⟩
theorem Yba:Z10.ok prog 123:=TCon.frz (c:=Zp4) Yc0 rfl
noncomputable def Zf8 (a0:Xy1):Option (List Xy3×Bool×Unit):=Zp4.fn (a0,())
noncomputable def Zu (n:Nat)(x0 x1:(List Xy3))(x2:Xy1)(x3 x4:Int):Option (List Xy3×Bool×Unit):=itr Zl7 prog 123 F123 n 4 (x0,x1,x2,x3,x4,())
noncomputable def Qw (n:Nat)(x0 x1:(List Xy3))(x2 x3 x4 x5 x6 x7 x8 x9 x10 x11 x12 x13 x14 x15:Int)(x16:Xy1)(x17 x18:Int):Option (List Xy3×Bool×Unit):=itr Zl7 prog 123 F123 n 21 (x0,x1,x2,x3,x4,x5,x6,x7,x8,x9,x10,x11,x12,x13,x14,x15,x16,x17,x18,())
noncomputable def Yl (n:Nat)(x0 x1:(List Xy3))(x2 x3 x4 x5 x6 x7 x8 x9 x10 x11 x12 x13 x14 x15:Int)(x16:Xy1)(x17 x18 x19 x20 x21 x22:Int):Option (List Xy3×Bool×Unit):=itr Zl7 prog 123 F123 n 23 (x0,x1,x2,x3,x4,x5,x6,x7,x8,x9,x10,x11,x12,x13,x14,x15,x16,x17,x18,x19,x20,x21,x22,())
noncomputable def Zea (n:Nat)(x0 x1:(List Xy3))(x2 x3 x4 x5 x6 x7 x8 x9 x10 x11 x12 x13 x14 x15 x16 x17:Int)(x18:Xy1)(x19 x20 x21 x22 x23 x24:Int):Option (List Xy3×Bool×Unit):=itr Zl7 prog 123 F123 n 28 (x0,x1,x2,x3,x4,x5,x6,x7,x8,x9,x10,x11,x12,x13,x14,x15,x16,x17,x18,x19,x20,x21,x22,x23,x24,())
noncomputable def Za8 (n:Nat)(x0 x1:(List Xy3))(x2 x3 x4 x5 x6 x7 x8 x9 x10 x11 x12 x13 x14 x15:Int)(x16:Xy1)(x17 x18:Int):Option (List Xy3×Bool×Unit):=itr Zl7 prog 123 F123 n 31 (x0,x1,x2,x3,x4,x5,x6,x7,x8,x9,x10,x11,x12,x13,x14,x15,x16,x17,x18,())
theorem Zk6 a0:Eq (Zf8 a0) <| Zu fuel ([]) ([]) a0 (ofNat a0.length) 0:=mkE (by kernel_rfl)
theorem Zb4 n x0 x1 x2 x3 x4:Eq (Zu (n+1) x0 x1 x2 x3 x4) <| bif x4<x3 then bif 0≤x4 then match x2[x4.toNat]? with | none=>none | some e0=>match Zh1 e0.1 with | none=>none | some e1=>bif e1.2.1 !=0 then some (x0,false,()) else bif e1.1>ofNat x1.length then some (x0,false,()) else bif 0≤wrap .i64 (ofNat x1.length - e1.1) then bif decide (0≤toNat (wrap .i64 (ofNat x1.length - e1.1)))&&decide (toNat (wrap .i64 (ofNat x1.length - e1.1))≤x1.length) then bif 0≤wrap .i64 (ofNat x1.length - e1.1) then bif toNat (wrap .i64 (ofNat x1.length - e1.1))≤x1.length then bif toNat (wrap .i64 (ofNat x1.length - e1.1))=x1.length then Yl n x0 x1 (ofNat (toNat (wrap .i64 (ofNat x1.length - e1.1)))) e0.1 e0.2.1 e0.2.2.1 e0.2.2.2.1 e0.2.2.2.2.1 e0.1 0 0 0 (tmm false (tmm true e0.2.2.2.2.1 0) 400) x4 1 1 x2 x3 x4 1 0 0 0 else Yl n x0 x1 (ofNat (toNat (wrap .i64 (ofNat x1.length - e1.1)))) e0.1 e0.2.1 e0.2.2.1 e0.2.2.2.1 e0.2.2.2.2.1 e0.1 0 0 0 (tmm false (tmm true e0.2.2.2.2.1 0) 400) x4 1 1 x2 x3 x4 (ofNat (toNat (wrap .i64 (ofNat x1.length - e1.1)))) (ofNat (x1.length - toNat (wrap .i64 (ofNat x1.length - e1.1)))) (ofNat (x1.length - toNat (wrap .i64 (ofNat x1.length - e1.1)))) 0 else none else none else none else none else none else some (x0,ofNat x1.length==1,()):=mkI (by kernel_rfl)
theorem Zp5 n x0 x1 x2 x3 x4 x5 x6 x7 x8 x9 x10 x11 x12 x13 x14 x15 x16 x17 x18:Eq (Qw (n+1) x0 x1 x2 x3 x4 x5 x6 x7 x8 x9 x10 x11 x12 x13 x14 x15 x16 x17 x18) <| bif x3==1 then Za8 n x0 x1 (ofNat x2.toNat) x3 x4 x5 x6 x7 x8 (tmm true x4 0) x10 x11 x12 x13 x14 x15 x16 x17 x18 else Za8 n x0 x1 (ofNat x2.toNat) x3 x4 x5 x6 x7 x8 x9 x10 x11 x12 x13 x14 x15 x16 x17 x18:=mkI (by kernel_rfl)
theorem Zh2 n x0 x1 x2 x3 x4 x5 x6 x7 x8 x9 x10 x11 x12 x13 x14 x15 x16 x17 x18 x19 x20 x21 x22:Eq (Yl (n+1) x0 x1 x2 x3 x4 x5 x6 x7 x8 x9 x10 x11 x12 x13 x14 x15 x16 x17 x18 x19 x20 x21 x22) <| bif x22<x21 then bif 0≤x22 then bif x22.toNat<x20.toNat then match x1[x19.toNat+x22.toNat]? with | none=>none | some e0=>bif x22==0 then Zea n x0 x1 (ofNat x2.toNat) x3 x4 x5 x6 x7 x8 x9 e0.1 x11 x12 x13 x14 x15 e0.2.1 e0.2.2.1 x16 x17 x18 (ofNat x19.toNat) (ofNat x20.toNat) x21 x22 else Zea n x0 x1 (ofNat x2.toNat) x3 x4 x5 x6 x7 x8 x9 x10 e0.1 x12 x13 x14 x15 e0.2.1 e0.2.2.1 x16 x17 x18 (ofNat x19.toNat) (ofNat x20.toNat) x21 x22 else none else none else Qw n x0 x1 (ofNat x2.toNat) x3 x4 x5 x6 x7 x8 x9 x10 x11 x12 x13 x14 x15 x16 x17 x18:=mkI (by kernel_rfl)
theorem Zh3 n x0 x1 x2 x3 x4 x5 x6 x7 x8 x9 x10 x11 x12 x13 x14 x15 x16 x17 x18 x19 x20 x21 x22 x23 x24:Eq (Zea (n+1) x0 x1 x2 x3 x4 x5 x6 x7 x8 x9 x10 x11 x12 x13 x14 x15 x16 x17 x18 x19 x20 x21 x22 x23 x24) <| Yl n x0 x1 (ofNat x2.toNat) x3 x4 x5 x6 x7 x8 x9 x10 x11 x12 x13 (wrap .i64 (x14+x16)) (tmm true x15 (wrap .i64 (x17+1))) x18 x19 x20 (ofNat x21.toNat) (ofNat x22.toNat) x23 (wrap .i64 (x24+1)):=mkI (by kernel_rfl)
theorem Zp6 n x0 x1 x2 x3 x4 x5 x6 x7 x8 x9 x10 x11 x12 x13 x14 x15 x16 x17 x18:Eq (Za8 (n+1) x0 x1 x2 x3 x4 x5 x6 x7 x8 x9 x10 x11 x12 x13 x14 x15 x16 x17 x18) <| bif !(x8==x3&&(x9==x4&&(x10==x5&&(x11==x6&&(x12==x7&&true))))) then some (x0,false,()) else bif decide (x2.toNat≤x1.length)&&Ze (x2.toNat+List.length [(x13,x14,x15,())]) 24 then bif Ze (x0.length+List.length [(x13,x14,x15,())]) 24 then Zu n (x0++[(x13,x14,x15,())]) (List.take x2.toNat x1++[(x13,x14,x15,())]) x16 x17 (wrap .i64 (x18+1)) else none else none:=mkI (by kernel_rfl)
noncomputable def Yc1:Tb:=[(123,Z10)]
def F99:TFun:=⟨[],[],[.c (.sl Xq1)],[.c (.p (.sl Xq2)),.c (.p di)],qc [qn 2,[.c (.p (.sl Xq2))],qi,qn 21],[],[],0⟩
noncomputable def Z54:=mkC Yc1 prog 99 F99
theorem ok99:Z54.ok prog 99:=mkO ⟨Yba,trivial⟩ (by kernel_rfl)
noncomputable def Zm5 (a0:Xy1):Option (List Xy3×Int×Unit):=Z54.fn (a0,())
theorem Zrg a0:Eq (Zm5 a0) <| bif ofNat a0.length>60 then some ([],4,()) else match Zf8 a0 with | none=>none | some e0=>bif !e0.2.1 then some ([],8,()) else bif 0≤wrap .i64 (ofNat e0.1.length - 1) then match e0.1[toNat (wrap .i64 (ofNat e0.1.length - 1))]? with | none=>none | some e1=>bif e1.2.2.1>20 then some ([],34,()) else some (e0.1,0,()) else none:=mkE (by kernel_rfl)
noncomputable def Yc2:Tb:=[(99,Z54)]
def F69:TFun:=⟨[],[],[.c (.sl Xq1)],[.c (.p di)],qc [qn 2,qi,qn 8],[],[],0⟩
noncomputable def Z11:=mkC Yc2 prog 69 F69
theorem ok69:Z11.ok prog 69:=mkO ⟨ok99,trivial⟩ (by kernel_rfl)
noncomputable def Zch (a0:Xy1):Option (Int×Unit):=Z11.fn (a0,())
theorem Zrh a0:Eq (Zch a0) <| match Zm5 a0 with | none=>none | some e0=>some (e0.2.1,()):=mkE (by kernel_rfl)
noncomputable def Yc3:Tb:=[]
def F71:TFun:=⟨[],[],[.a [.int .u8,.int .i64,.int .i64]],[.c (.p di)],qc [qn 2,qi,qn 37],[],[],0⟩
noncomputable def Z55:=mkC Yc3 prog 71 F71
theorem ok71:Z55.ok prog 71:=mkO trivial (by kernel_rfl)
noncomputable def Zeb (a0:Xy3):Option (Int×Unit):=Z55.fn (a0,())
theorem Zl8 a0:Eq (Zeb a0) <| let k1:Option (Int×Unit):=some (8,());bif a0.2.1<1 then k1 else bif a0.2.1>1073741824 then k1 else bif a0.1==2 then bif a0.2.2.1≥1 then bif a0.2.2.1≤a0.2.1 then bif a0.2.1≤wrap .i64 (16*a0.2.2.1) then some (0,()) else k1 else k1 else k1 else let k2:Option (Int×Unit):=bif a0.2.2.1==0 then some (0,()) else k1;bif a0.1==1 then k2 else bif a0.1==3 then k2 else k1:=mkE (by kernel_rfl)
noncomputable def Z9v:Tb:=[(102,Z53)]
def F70:TFun:=⟨[],[(14,qc [[.c (.p (.sl [.int .i64]))],[.c (.fn 100 [])],qn 5,qi,qi,qn 19,[.c (.p (.sl [.int .i64]))],qn 19,qb,qn 9])],[.c (.sl [.int .i64]),.c db],[.c (.p di)],qc [qn 4,qi,qn 25],[(20,[100]),(10,[124]),(7,[101])],[(14,[9,30])],8⟩
noncomputable def Z56:=mkC Z9v prog 70 F70
theorem ok70:Z56.ok prog 70:=mkO ⟨Ycy,trivial⟩ (by kernel_rfl)
noncomputable def Zcq (a0:(List (Int×Unit)))(a1:Bool):Option (Int×Unit):=Z56.fn (a0,a1,())
noncomputable def Y8 (n:Nat)(x0:(List (Int×Unit)))(x1 x2:Int)(x3:(List (Int×Unit)))(x4:Bool):Option (Int×Unit):=itr Z9v prog 70 F70 n 14 (x0,x1,x2,x3,x4,())
theorem Zk7 a0 a1:Eq (Zcq a0 a1) <| bif ofNat a0.length>4 then some (4,()) else bif ofNat a0.length==0 then some (8,()) else let k1:=Y8 fuel a0 (ofNat a0.length) 0 a0 false;bif a1 then bif ofNat a0.length !=2 then some (8,()) else k1 else k1:=mkE (by kernel_rfl)
theorem Zcu n x0 x1 x2 x3 x4:Eq (Y8 (n+1) x0 x1 x2 x3 x4) <| bif x2<x1 then bif 0≤x2 then match x0[x2.toNat]? with | none=>none | some e0=>let k1:Option (Int×Unit):=bif x4 then some (8,()) else bif x2≥0 then some (8,()) else match Z6 x3 with | none=>none | some e1=>bif e1.1<ofNat x3.length then some (43,()) else some (0,());bif e0.1<0 then k1 else bif e0.1≥4 then k1 else Y8 n x0 x1 (wrap .i64 (x2+1)) x3 x4 else none else bif x4 then some (8,()) else match Z6 x3 with | none=>none | some e0=>bif e0.1<ofNat x3.length then some (43,()) else some (0,()):=mkI (by kernel_rfl)
noncomputable def Z57:Tb:=[(69,Z11),(70,Z56),(71,Z55)]
def F40:TFun:=⟨[4,12],[(4,qc [qn 1,[.boxN 27 10 [.any,.any,.p (.sl [.int .i64]),.p db,.p (.sl Xq1),.p (.int .u8),.p di,.p di,.any,.any]],qn 64]),(12,qc [qn 1,[.boxN 27 10 [.any,.any,.p (.sl [.int .i64]),.p db,.any,.p (.int .u8),.p di,.p di,.any,.any]],qn 64])],[.a [.int .u8,.sl Xq1,.sl [.int .i64],.bool,.sl Xq1,.int .u8,.int .i64,.int .i64,.bool,.int .u8]],[.c (.p di)],qc [qn 2,qi,qn 63],[],[],0⟩
noncomputable def Z58:=mkC Z57 prog 40 F40
theorem ok40:Z58.ok prog 40:=mkO ⟨ok69,ok70,ok71,trivial⟩ (by kernel_rfl)
noncomputable def Ze7 (a0:Xy2):Option (Int×Unit):=Z58.fn (a0,())
noncomputable def Q6 (n:Nat)(x0:(List (Int×Unit)))(x1:Bool)(x2:Xy1)(x3 x4 x5:Int):Option (Int×Unit):=itr Z57 prog 40 F40 n 4 (x0,x1,x2,x3,x4,x5,())
noncomputable def Za9 (n:Nat)(x0:(List (Int×Unit)))(x1:Bool)(x2 x3 x4:Int):Option (Int×Unit):=itr Z57 prog 40 F40 n 12 (x0,x1,x2,x3,x4,())
theorem Znh a0:Eq (Ze7 a0) <| bif a0.1<1 then some (8,()) else bif a0.1>4 then some (8,()) else let k1:Option (Int×Unit):=let k3:=Q6 fuel a0.2.2.1 a0.2.2.2.1 a0.2.2.2.2.1 a0.2.2.2.2.2.1 a0.2.2.2.2.2.2.1 a0.2.2.2.2.2.2.2.1;bif a0.1 !=1 then match Zch a0.2.1 with | none=>none | some e0=>bif e0.1 !=0 then some (e0.1,()) else k3 else bif ofNat a0.2.1.length>0 then some (8,()) else k3;bif a0.2.2.2.2.2.2.2.2.2.1 !=1 then bif a0.2.2.2.2.2.2.2.2.2.1 !=2 then some (8,()) else k1 else k1:=mkE (by kernel_rfl)
theorem Zl9 n x0 x1 x2 x3 x4 x5:Eq (Q6 (n+1) x0 x1 x2 x3 x4 x5) <| let k1:=Za9 n x0 x1 x3 x4 x5;bif ofNat x2.length>0 then match Zch x2 with | none=>none | some e0=>bif e0.1 !=0 then some (e0.1,()) else k1 else k1:=mkI (by kernel_rfl)
theorem Zk8 n x0 x1 x2 x3 x4:Eq (Za9 (n+1) x0 x1 x2 x3 x4) <| match Zcq x0 x1 with | none=>none | some e0=>bif e0.1 !=0 then some (e0.1,()) else let k1:=match Zeb (x2,x3,x4,()) with | none=>none | some e1=>some (e1.1,());bif x1 then bif x2 !=1 then some (8,()) else k1 else k1:=mkI (by kernel_rfl)
noncomputable def Zp7:Tb:=[]
def F125:TFun:=⟨[14],[(6,qc [[.c (.p (.sl Xq1))],qn 3,[.boxN 221 1 [.rowN 4 1 [.bool]]],[.fnS 157 [.ptr 0 0]],qn 6,[.c (.p (.sl Xq1))],qi,qi,qn 73]),(14,qc [[.c (.p (.sl Xq1))],qn 3,[.boxN 221 1 [.rowN 4 1 [.bool]]],[.fnS 157 [.ptr 0 0]],qi,qn 1,[.boxN 260 2 [.p db,.p db]],qb,[.c (.slN 3 1 [.int .i64])],qn 1,[.c (.p (.sl Xq1))],qi,qi,qn 73]),(28,qc [qb,qn 1,[.boxN 221 1 [.rowN 4 1 [.bool]]],qn 5,[.c (.slN 3 1 [.int .i64])],qi,qi,qn 10,[.c (.p (.sl Xq1))],qn 3,[.c (.ptr 0 0)],[.fnS 157 [.ptr 0 0]],qi,qn 1,[.boxN 260 2 [.any,.p db]],qb,[.c (.slR 2)],qn 1,[.c (.p (.sl Xq1))],qi,qi,qn 48,qb,qn 24]),(40,qc [qb,qn 1,[.boxN 221 1 [.rowN 4 1 [.bool]]],qn 5,[.c (.p (.sl [.int .i64]))],qi,qi,qn 10,[.c (.p (.sl Xq1))],qn 3,[.c (.ptr 0 0)],[.fnS 157 [.ptr 0 0]],qi,qn 2,qb,qn 2,[.c (.p (.sl Xq1))],qi,qi,qn 54,qb,qn 2,qb,qn 15])],[.c (.sl Xq1)],[.c (.s 4 1 [.bool]),.c (.p di)],qc [qn 2,[.c (.rowN 4 1 [.bool])],qi,qn 84],[(36,[157]),(24,[157])],[(28,[88]),(40,[88])],8⟩
noncomputable def Zp8:=mkC Zp7 prog 125 F125
theorem Yc4:Zp8.ok prog 125:=mkO trivial (by kernel_rfl)
noncomputable def Z12:TCon:=⟨Zp8.args,[.c (.p (.sl [.bool])),.c (.p di)],Zp8.fn⟩
theorem Ybb:Z12.ok prog 125:=TCon.frz (c:=Zp8) Yc4 rfl
noncomputable def Zj3 (a0:Xy1):Option (List (Bool×Unit)×Int×Unit):=Zp8.fn (a0,())
noncomputable def Z9 (n:Nat)(x0:Xy1)(x1:(List (Bool×Unit)))(x2:Xy1)(x3 x4:Int):Option (List (Bool×Unit)×Int×Unit):=itr Zp7 prog 125 F125 n 6 (x0,x1,x2,x3,x4,())
noncomputable def Ye (n:Nat)(x0:Xy1)(x1:(List (Bool×Unit)))(x2:Int)(x3 x4 x5:Bool)(x6:(List (Int×Unit)))(x7:Int)(x8:Xy1)(x9 x10:Int):Option (List (Bool×Unit)×Int×Unit):=itr Zp7 prog 125 F125 n 14 (x0,x1,x2,x3,x4,x5,x6,x7,x8,x9,x10,())
noncomputable def Z8 (n:Nat)(x0:Bool)(x1:(List (Bool×Unit)))(x2:(List (Int×Unit)))(x3 x4 x5:Int)(x6:Xy1)(x7:Int)(x8 x9:Bool)(x10 x11:Int)(x12:Xy1)(x13 x14:Int)(x15:Bool):Option (List (Bool×Unit)×Int×Unit):=itr Zp7 prog 125 F125 n 28 (x0,x1,x2,x3,x4,x5,x6,x7,x8,x9,x10,x11,x12,x13,x14,x15,())
noncomputable def Zl (n:Nat)(x0:Bool)(x1:(List (Bool×Unit)))(x2:(List (Int×Unit)))(x3 x4:Int)(x5:Xy1)(x6:Int)(x7:Bool)(x8:Xy1)(x9 x10:Int)(x11 x12:Bool):Option (List (Bool×Unit)×Int×Unit):=itr Zp7 prog 125 F125 n 40 (x0,x1,x2,x3,x4,x5,x6,x7,x8,x9,x10,x11,x12,())
theorem Zu5 a0:Eq (Zj3 a0) <| Z9 fuel a0 ([]) a0 (ofNat a0.length) 0:=mkE (by kernel_rfl)
theorem Zji n x0 x1 x2 x3 x4:Eq (Z9 (n+1) x0 x1 x2 x3 x4) <| bif x4<x3 then bif 0≤x4 then match x2[x4.toNat]? with | none=>none | some e0=>bif e0.1≤4 then bif Ze (x1.length+1) 1 then Z9 n x0 (x1++[(false,())]) x2 x3 (wrap .i64 (x4+1)) else none else bif e0.1==5 then Ye n x0 x1 x4 true false false ([(e0.2.2.1,()),(e0.2.2.2.1,())]) 1 x2 x3 x4 else bif e0.1==6 then Ye n x0 x1 x4 false true true ([(e0.2.2.1,()),(e0.2.2.2.1,())]) 1 x2 x3 x4 else bif e0.1≤11 then Ye n x0 x1 x4 true false false ([(e0.2.2.1,()),(e0.2.2.2.1,())]) (ofNat (List.length [(e0.2.2.1,()),(e0.2.2.2.1,())])) x2 x3 x4 else bif e0.1≤15 then Ye n x0 x1 x4 true false true ([(e0.2.2.1,()),(e0.2.2.2.1,())]) (ofNat (List.length [(e0.2.2.1,()),(e0.2.2.2.1,())])) x2 x3 x4 else bif e0.1≤17 then Ye n x0 x1 x4 true true true ([(e0.2.2.1,()),(e0.2.2.2.1,())]) (ofNat (List.length [(e0.2.2.1,()),(e0.2.2.2.1,())])) x2 x3 x4 else Ye n x0 x1 x4 false true true ([(e0.2.2.1,()),(e0.2.2.2.1,())]) (ofNat (List.length [(e0.2.2.1,()),(e0.2.2.2.1,())])) x2 x3 x4 else none else some (x1,ofNat x0.length,()):=mkI (by kernel_rfl)
theorem Zp9 n x0 x1 x2 x3 x4 x5 x6 x7 x8 x9 x10:Eq (Ye (n+1) x0 x1 x2 x3 x4 x5 x6 x7 x8 x9 x10) <| bif x3 then Z8 n false x1 x6 (ofNat x7.toNat) (ofNat x7.toNat) 0 x0 x2 x4 x5 0 (ofNat x7.toNat) x8 x9 x10 true else bif x4 then Zl n true x1 (List.take x7.toNat (List.drop 0 x6)) (ofNat x7.toNat) 0 x0 x2 x5 x8 x9 x10 true true else some ([],x2,()):=mkI (by kernel_rfl)
theorem Zh4 n x0 x1 x2 x3 x4 x5 x6 x7 x8 x9 x10 x11 x12 x13 x14 x15:Eq (Z8 (n+1) x0 x1 x2 x3 x4 x5 x6 x7 x8 x9 x10 x11 x12 x13 x14 x15) <| let k1:=bif x8 then Zl n true x1 (List.take x11.toNat (List.drop x10.toNat x2)) (ofNat x11.toNat) 0 x6 x7 x9 x12 x13 x14 true true else some ([],x7,());bif x5<x4 then bif 0≤x5 then bif x5.toNat<x3.toNat then match x2[0+x5.toNat]? with | none=>none | some e0=>bif 0≤e0.1 then bif e0.1.toNat<x1.length then match x1[e0.1.toNat]? with | none=>none | some e1=>bif !e1.1==x0 then bif x15 then k1 else k1 else Z8 n x0 x1 x2 (ofNat x3.toNat) x4 (wrap .i64 (x5+1)) x6 x7 x8 x9 (ofNat x10.toNat) (ofNat x11.toNat) x12 x13 x14 x15 else none else none else none else none else bif x15 then bif Ze (x1.length+List.length [(x9,())]) 1 then Z9 n x6 (x1++[(x9,())]) x12 x13 (wrap .i64 (x14+1)) else none else k1:=mkI (by kernel_rfl)
theorem Zh5 n x0 x1 x2 x3 x4 x5 x6 x7 x8 x9 x10 x11 x12:Eq (Zl (n+1) x0 x1 x2 x3 x4 x5 x6 x7 x8 x9 x10 x11 x12) <| let k1:=bif Ze (x1.length+List.length [(x7,())]) 1 then Z9 n x5 (x1++[(x7,())]) x8 x9 (wrap .i64 (x10+1)) else none;bif x4<x3 then bif 0≤x4 then match x2[x4.toNat]? with | none=>none | some e0=>bif 0≤e0.1 then bif e0.1.toNat<x1.length then match x1[e0.1.toNat]? with | none=>none | some e1=>bif !e1.1==x0 then bif x11 then bif x12 then some ([],x6,()) else some ([],x6,()) else k1 else Zl n x0 x1 x2 x3 (wrap .i64 (x4+1)) x5 x6 x7 x8 x9 x10 x11 x12 else none else none else none else bif x11 then bif x12 then k1 else some ([],x6,()) else k1:=mkI (by kernel_rfl)
noncomputable def Ybc:Tb:=[(69,Z11),(125,Z12)]
def F103:TFun:=⟨[],[],[.c (.sl Xq1)],[.c (.p db),.c (.p di),.c (.p di)],qc [qn 2,qb,qi,qi,qn 25],[],[],0⟩
noncomputable def Zzy:=mkC Ybc prog 103 F103
theorem Yc5:Zzy.ok prog 103:=mkO ⟨ok69,Ybb,trivial⟩ (by kernel_rfl)
noncomputable def Zqa (a0:Xy1):Option (Bool×Int×Int×Unit):=Zzy.fn (a0,())
theorem Zzz a0:Eq (Zqa a0) <| match Zch a0 with | none=>none | some e0=>bif e0.1 !=0 then some (false,0,e0.1,()) else match Zj3 a0 with | none=>none | some e1=>bif e1.2.1<ofNat a0.length then some (false,e1.2.1,42,()) else bif 0≤wrap .i64 (e1.2.1 - 1) then match e1.1[toNat (wrap .i64 (e1.2.1 - 1))]? with | none=>none | some e2=>some (e2.1,wrap .i64 (e1.2.1 - 1),0,()) else none:=mkE (by kernel_rfl)
noncomputable def Yc6:Tb:=[(103,Zzy)]
def F72:TFun:=⟨[],[],[.c (.sl Xq1),.c db],[.c (.p di),.c (.p di)],qc [qn 4,qi,qi,qn 18],[],[],0⟩
noncomputable def Z13:=mkC Yc6 prog 72 F72
theorem ok72:Z13.ok prog 72:=mkO ⟨Yc5,trivial⟩ (by kernel_rfl)
noncomputable def Zf9 (a0:Xy1)(a1:Bool):Option (Int×Int×Unit):=Z13.fn (a0,a1,())
theorem Zu6 a0 a1:Eq (Zf9 a0 a1) <| match Zqa a0 with | none=>none | some e0=>bif e0.2.2.1==0 then bif !e0.1==a1 then some (e0.2.1,42,()) else some e0.2 else some e0.2:=mkE (by kernel_rfl)
noncomputable def Yc7:Tb:=[(72,Z13)]
def F42:TFun:=⟨[],[],[.c (.sl Xq1)],[.c (.p di),.c (.p di)],qc [qn 2,qi,qi,qn 4],[],[],0⟩
noncomputable def Z59:=mkC Yc7 prog 42 F42
theorem ok42:Z59.ok prog 42:=mkO ⟨ok72,trivial⟩ (by kernel_rfl)
noncomputable def Zga (a0:Xy1):Option (Int×Int×Unit):=Z59.fn (a0,())
theorem Zqb a0:Eq (Zga a0) <| match Zf9 a0 false with | none=>none | some e0=>some e0:=mkE (by kernel_rfl)
noncomputable def Yc8:Tb:=[(72,Z13)]
def F43:TFun:=⟨[],[],[.c (.sl Xq1)],[.c (.p di),.c (.p di)],qc [qn 2,qi,qi,qn 4],[],[],0⟩
noncomputable def Z6a:=mkC Yc8 prog 43 F43
theorem ok43:Z6a.ok prog 43:=mkO ⟨ok72,trivial⟩ (by kernel_rfl)
noncomputable def Zev (a0:Xy1):Option (Int×Int×Unit):=Z6a.fn (a0,())
theorem Zri a0:Eq (Zev a0) <| match Zf9 a0 true with | none=>none | some e0=>some e0:=mkE (by kernel_rfl)
noncomputable def Yc9:Tb:=[(40,Z58),(42,Z59),(43,Z6a)]
def F13:TFun:=⟨[],[],[.a [.int .u8,.sl Xq1,.sl [.int .i64],.bool,.sl Xq1,.int .u8,.int .i64,.int .i64,.bool,.int .u8]],[.c (.p di),.c (.p di)],qc [qn 2,qi,qi,qn 16],[(11,[4]),(7,[41])],[],8⟩
noncomputable def Zxr:=mkC Yc9 prog 13 F13
theorem ok13:Zxr.ok prog 13:=mkO ⟨ok40,ok42,ok43,trivial⟩ (by kernel_rfl)
noncomputable def Zba (a0:Xy2):Option (Int×Int×Unit):=Zxr.fn (a0,())
theorem Zqc a0:Eq (Zba a0) <| match Ze7 a0 with | none=>none | some e0=>bif e0.1 !=0 then some (0,e0.1,()) else let k1:Option (Int×Int×Unit):=some (0,0,());bif ofNat a0.2.1.length==0 then bif ofNat a0.2.2.2.2.1.length==0 then k1 else match Zev a0.2.2.2.2.1 with | none=>none | some e1=>bif e1.2.1 !=0 then bif 0≤e1.1 then match a0.2.2.2.2.1[e1.1.toNat]? with | none=>none | some e2=>some (e2.2.2.2.2.1,e1.2.1,()) else none else k1 else match Zga a0.2.1 with | none=>none | some e1=>bif e1.2.1 !=0 then bif 0≤e1.1 then match a0.2.1[e1.1.toNat]? with | none=>none | some e2=>some (e2.2.2.2.2.1,e1.2.1,()) else none else bif ofNat a0.2.2.2.2.1.length==0 then k1 else match Zev a0.2.2.2.2.1 with | none=>none | some e2=>bif e2.2.1 !=0 then bif 0≤e2.1 then match a0.2.2.2.2.1[e2.1.toNat]? with | none=>none | some e3=>some (e3.2.2.2.2.1,e2.2.1,()) else none else k1:=mkE (by kernel_rfl)
end Tg
