import Derived.Test.YtdgcdoiefodccaaGreatBVT
import Derived.Test.YtdgcdoiefodccaaGreatBHS
/- Functions of the code, told plainly and checked by the kernel. -/
set_option linter.unusedVariables false
set_option linter.unusedSimpArgs false
set_option maxRecDepth 100000
namespace Tg
open Go.Abs hiding fuel
open Go.Proofs.Tryz (prog)
open Int (ofNat toNat)
open Go.IntKind (wrap)
noncomputable def Yp9:Tb:=[]
def F178:TFun:=⟨[],[],[.c (.int .u8)],[.c (.p di),.c (.p di)],qc [qn 2,qi,qi,qn 21],[],[],0⟩
noncomputable def Z9z:=mkC Yp9 prog 178 F178
theorem Ys5:Z9z.ok prog 178:=mkO trivial (by kernel_rfl)
noncomputable def Zmy (a0:Int):Option (Int×Int×Unit):=Z9z.fn (a0,())
theorem Zy2 a0:Eq (Zmy a0) <| let k1:Option (Int×Int×Unit):=bif a0==5 then some (1,0,()) else bif a0==6 then some (1,0,()) else bif a0≥7 then bif a0≤19 then some (2,0,()) else some (0,2,()) else some (0,2,());bif a0≥1 then bif a0≤4 then some (0,0,()) else k1 else k1:=mkE (by kernel_rfl)
noncomputable def Zrz:Tb:=[(178,Z9z)]
def F157:TFun:=⟨[28,21,31],[(4,qc [qn 4,[.c (.rowN 233 3 Xq2)],[.c (.rowN 233 3 Xq2)],qn 9,[.c (.p (.sl Xq1))],qi,qi,qn 87]),(21,qc [qn 4,[.c (.rowN 233 3 Xq2)],[.c (.slN 233 3 Xq2)],qn 1,[.boxN 98 5 [.p (.int .u8),.p di,.p di,.p di,.p di]],qn 3,[.boxN 98 5 [.p (.int .u8),.p di,.p di,.p di,.p di]],[.boxN 233 3 [.p di,.p di,.p di]],qn 2,[.c (.p (.sl Xq1))],qi,qi,qn 87]),(23,qc [qn 4,[.c (.rowN 233 3 Xq2)],[.c (.slN 233 3 Xq2)],qn 1,[.boxN 98 5 [.p (.int .u8),.p di,.p di,.p di,.p di]],qn 3,[.boxN 98 5 [.p (.int .u8),.p di,.p di,.p di,.p di]],[.boxN 233 3 [.p di,.p di,.p di]],qn 2,[.c (.p (.sl Xq1))],qi,qi,qn 34,[.c (.slR 1)],qi,qi,qn 50]),(28,qc [qn 4,[.c (.rowN 233 3 Xq2)],[.c (.slN 233 3 Xq2)],qn 1,[.boxN 98 5 [.p (.int .u8),.p di,.p di,.p di,.p di]],qn 3,[.boxN 98 5 [.p (.int .u8),.p di,.p di,.p di,.p di]],[.boxN 233 3 [.p di,.p di,.p di]],qn 1,[.boxN 233 3 [.any,.p di,.p di]],[.c (.p (.sl Xq1))],qi,qi,qn 34,[.c (.slR 1)],qi,qi,qn 50]),(31,qc [qn 4,[.c (.rowN 233 3 Xq2)],[.c (.slN 233 3 Xq2)],qn 1,[.boxN 98 5 [.p (.int .u8),.p di,.p di,.p di,.p di]],qn 3,[.boxN 98 5 [.p (.int .u8),.p di,.p di,.p di,.p di]],[.boxN 233 3 [.p di,.p di,.p di]],qn 2,[.c (.p (.sl Xq1))],qi,qi,qn 87])],[.c (.sl Xq1)],[.c (.s 233 3 Xq2),.c (.p db)],qc [qn 2,[.c (.rowN 233 3 Xq2)],qb,qn 101],[(16,[179])],[],8⟩
noncomputable def Zwf:=mkC Zrz prog 157 F157
theorem Ys6:Zwf.ok prog 157:=mkO ⟨Ys5,trivial⟩ (by kernel_rfl)
noncomputable def Ycb:TCon:=⟨Zwf.args,[.c (.p (.sl Xq2)),.c (.p db)],Zwf.fn⟩
theorem Yqa:Ycb.ok prog 157:=TCon.frz (c:=Zwf) Ys6 rfl
noncomputable def Zjk (a0:Xy1):Option (List Xy3×Bool×Unit):=Zwf.fn (a0,())
noncomputable def Zu (n:Nat)(x0 x1:(List Xy3))(x2:Xy1)(x3 x4:Int):Option (List Xy3×Bool×Unit):=itr Zrz prog 157 F157 n 4 (x0,x1,x2,x3,x4,())
noncomputable def Zbn (n:Nat)(x0 x1:(List Xy3))(x2 x3 x4 x5 x6 x7 x8 x9 x10 x11 x12 x13 x14 x15:Int)(x16:Xy1)(x17 x18:Int):Option (List Xy3×Bool×Unit):=itr Zrz prog 157 F157 n 21 (x0,x1,x2,x3,x4,x5,x6,x7,x8,x9,x10,x11,x12,x13,x14,x15,x16,x17,x18,())
noncomputable def Yv (n:Nat)(x0 x1:(List Xy3))(x2 x3 x4 x5 x6 x7 x8 x9 x10 x11 x12 x13 x14 x15:Int)(x16:Xy1)(x17 x18 x19 x20 x21 x22:Int):Option (List Xy3×Bool×Unit):=itr Zrz prog 157 F157 n 23 (x0,x1,x2,x3,x4,x5,x6,x7,x8,x9,x10,x11,x12,x13,x14,x15,x16,x17,x18,x19,x20,x21,x22,())
noncomputable def Zg8 (n:Nat)(x0 x1:(List Xy3))(x2 x3 x4 x5 x6 x7 x8 x9 x10 x11 x12 x13 x14 x15 x16 x17:Int)(x18:Xy1)(x19 x20 x21 x22 x23 x24:Int):Option (List Xy3×Bool×Unit):=itr Zrz prog 157 F157 n 28 (x0,x1,x2,x3,x4,x5,x6,x7,x8,x9,x10,x11,x12,x13,x14,x15,x16,x17,x18,x19,x20,x21,x22,x23,x24,())
noncomputable def Zdp (n:Nat)(x0 x1:(List Xy3))(x2 x3 x4 x5 x6 x7 x8 x9 x10 x11 x12 x13 x14 x15:Int)(x16:Xy1)(x17 x18:Int):Option (List Xy3×Bool×Unit):=itr Zrz prog 157 F157 n 31 (x0,x1,x2,x3,x4,x5,x6,x7,x8,x9,x10,x11,x12,x13,x14,x15,x16,x17,x18,())
theorem Zqo a0:Eq (Zjk a0) <| Zu fuel ([]) ([]) a0 (ofNat a0.length) 0:=mkE (by kernel_rfl)
theorem Zew n x0 x1 x2 x3 x4:Eq (Zu (n+1) x0 x1 x2 x3 x4) <| bif x4<x3 then bif 0≤x4 then match x2[x4.toNat]? with | none=>none | some e0=>match Zmy e0.1 with | none=>none | some e1=>bif e1.2.1 !=0 then some (x0,false,()) else bif e1.1>ofNat x1.length then some (x0,false,()) else bif 0≤wrap .i64 (ofNat x1.length - e1.1) then bif decide (0≤toNat (wrap .i64 (ofNat x1.length - e1.1)))&&decide (toNat (wrap .i64 (ofNat x1.length - e1.1))≤x1.length) then bif 0≤wrap .i64 (ofNat x1.length - e1.1) then bif toNat (wrap .i64 (ofNat x1.length - e1.1))≤x1.length then bif toNat (wrap .i64 (ofNat x1.length - e1.1))=x1.length then Yv n x0 x1 (ofNat (toNat (wrap .i64 (ofNat x1.length - e1.1)))) e0.1 e0.2.1 e0.2.2.1 e0.2.2.2.1 e0.2.2.2.2.1 e0.1 0 0 0 (tmm false (tmm true e0.2.2.2.2.1 0) 400) x4 1 1 x2 x3 x4 1 0 0 0 else Yv n x0 x1 (ofNat (toNat (wrap .i64 (ofNat x1.length - e1.1)))) e0.1 e0.2.1 e0.2.2.1 e0.2.2.2.1 e0.2.2.2.2.1 e0.1 0 0 0 (tmm false (tmm true e0.2.2.2.2.1 0) 400) x4 1 1 x2 x3 x4 (ofNat (toNat (wrap .i64 (ofNat x1.length - e1.1)))) (ofNat (x1.length - toNat (wrap .i64 (ofNat x1.length - e1.1)))) (ofNat (x1.length - toNat (wrap .i64 (ofNat x1.length - e1.1)))) 0 else none else none else none else none else none else some (x0,ofNat x1.length==1,()):=mkI (by kernel_rfl)
theorem Zwg n x0 x1 x2 x3 x4 x5 x6 x7 x8 x9 x10 x11 x12 x13 x14 x15 x16 x17 x18:Eq (Zbn (n+1) x0 x1 x2 x3 x4 x5 x6 x7 x8 x9 x10 x11 x12 x13 x14 x15 x16 x17 x18) <| bif x3==1 then Zdp n x0 x1 (ofNat x2.toNat) x3 x4 x5 x6 x7 x8 (tmm true x4 0) x10 x11 x12 x13 x14 x15 x16 x17 x18 else Zdp n x0 x1 (ofNat x2.toNat) x3 x4 x5 x6 x7 x8 x9 x10 x11 x12 x13 x14 x15 x16 x17 x18:=mkI (by kernel_rfl)
theorem Zmz n x0 x1 x2 x3 x4 x5 x6 x7 x8 x9 x10 x11 x12 x13 x14 x15 x16 x17 x18 x19 x20 x21 x22:Eq (Yv (n+1) x0 x1 x2 x3 x4 x5 x6 x7 x8 x9 x10 x11 x12 x13 x14 x15 x16 x17 x18 x19 x20 x21 x22) <| bif x22<x21 then bif 0≤x22 then bif x22.toNat<x20.toNat then match x1[x19.toNat+x22.toNat]? with | none=>none | some e0=>bif x22==0 then Zg8 n x0 x1 (ofNat x2.toNat) x3 x4 x5 x6 x7 x8 x9 e0.1 x11 x12 x13 x14 x15 e0.2.1 e0.2.2.1 x16 x17 x18 (ofNat x19.toNat) (ofNat x20.toNat) x21 x22 else Zg8 n x0 x1 (ofNat x2.toNat) x3 x4 x5 x6 x7 x8 x9 x10 e0.1 x12 x13 x14 x15 e0.2.1 e0.2.2.1 x16 x17 x18 (ofNat x19.toNat) (ofNat x20.toNat) x21 x22 else none else none else Zbn n x0 x1 (ofNat x2.toNat) x3 x4 x5 x6 x7 x8 x9 x10 x11 x12 x13 x14 x15 x16 x17 x18:=mkI (by kernel_rfl)
theorem Zm0 n x0 x1 x2 x3 x4 x5 x6 x7 x8 x9 x10 x11 x12 x13 x14 x15 x16 x17 x18 x19 x20 x21 x22 x23 x24:Eq (Zg8 (n+1) x0 x1 x2 x3 x4 x5 x6 x7 x8 x9 x10 x11 x12 x13 x14 x15 x16 x17 x18 x19 x20 x21 x22 x23 x24) <| Yv n x0 x1 (ofNat x2.toNat) x3 x4 x5 x6 x7 x8 x9 x10 x11 x12 x13 (wrap .i64 (x14+x16)) (tmm true x15 (wrap .i64 (x17+1))) x18 x19 x20 (ofNat x21.toNat) (ofNat x22.toNat) x23 (wrap .i64 (x24+1)):=mkI (by kernel_rfl)
theorem Zwh n x0 x1 x2 x3 x4 x5 x6 x7 x8 x9 x10 x11 x12 x13 x14 x15 x16 x17 x18:Eq (Zdp (n+1) x0 x1 x2 x3 x4 x5 x6 x7 x8 x9 x10 x11 x12 x13 x14 x15 x16 x17 x18) <| bif !(x8==x3&&(x9==x4&&(x10==x5&&(x11==x6&&(x12==x7&&true))))) then some (x0,false,()) else bif decide (x2.toNat≤x1.length)&&Zb (x2.toNat+List.length [(x13,x14,x15,())]) 24 then bif Zb (x0.length+List.length [(x13,x14,x15,())]) 24 then Zu n (x0++[(x13,x14,x15,())]) (List.take x2.toNat x1++[(x13,x14,x15,())]) x16 x17 (wrap .i64 (x18+1)) else none else none:=mkI (by kernel_rfl)
noncomputable def Yqb:Tb:=[(157,Ycb)]
def F137:TFun:=⟨[],[],[.c (.sl Xq1)],[.c (.p (.sl Xq2)),.c (.p di)],qc [qn 2,[.c (.p (.sl Xq2))],qi,qn 21],[],[],0⟩
noncomputable def Z90:=mkC Yqb prog 137 F137
theorem Ys7:Z90.ok prog 137:=mkO ⟨Yqa,trivial⟩ (by kernel_rfl)
noncomputable def Zs5 (a0:Xy1):Option (List Xy3×Int×Unit):=Z90.fn (a0,())
theorem Zy3 a0:Eq (Zs5 a0) <| bif ofNat a0.length>60 then some ([],4,()) else match Zjk a0 with | none=>none | some e0=>bif !e0.2.1 then some ([],8,()) else bif 0≤wrap .i64 (ofNat e0.1.length - 1) then match e0.1[toNat (wrap .i64 (ofNat e0.1.length - 1))]? with | none=>none | some e1=>bif e1.2.2.1>20 then some ([],34,()) else some (e0.1,0,()) else none:=mkE (by kernel_rfl)
noncomputable def Ys8:Tb:=[(137,Z90)]
def F98:TFun:=⟨[],[],[.c (.sl Xq1)],[.c (.p di)],qc [qn 2,qi,qn 8],[],[],0⟩
noncomputable def Ycc:=mkC Ys8 prog 98 F98
theorem ok98:Ycc.ok prog 98:=mkO ⟨Ys7,trivial⟩ (by kernel_rfl)
noncomputable def Zfc (a0:Xy1):Option (Int×Unit):=Ycc.fn (a0,())
theorem Zy4 a0:Eq (Zfc a0) <| match Zs5 a0 with | none=>none | some e0=>some (e0.2.1,()):=mkE (by kernel_rfl)
noncomputable def Yqc:Tb:=[]
def F100:TFun:=⟨[],[],[.a [.int .u8,.int .i64,.int .i64]],[.c (.p di)],qc [qn 2,qi,qn 37],[],[],0⟩
noncomputable def Z91:=mkC Yqc prog 100 F100
theorem Ys9:Z91.ok prog 100:=mkO trivial (by kernel_rfl)
noncomputable def Zg9 (a0:Xy3):Option (Int×Unit):=Z91.fn (a0,())
theorem Zr0 a0:Eq (Zg9 a0) <| let k1:Option (Int×Unit):=some (8,());bif a0.2.1<1 then k1 else bif a0.2.1>1073741824 then k1 else bif a0.1==2 then bif a0.2.2.1≥1 then bif a0.2.2.1≤a0.2.1 then bif a0.2.1≤wrap .i64 (16*a0.2.2.1) then some (0,()) else k1 else k1 else k1 else let k2:Option (Int×Unit):=bif a0.2.2.1==0 then some (0,()) else k1;bif a0.1==1 then k2 else bif a0.1==3 then k2 else k1:=mkE (by kernel_rfl)
noncomputable def Ynv:Tb:=[(140,Yhv)]
def F99:TFun:=⟨[],[(14,qc [[.c (.p (.sl [.int .i64]))],[.c (.fn 138 [])],qn 5,qi,qi,qn 19,[.c (.p (.sl [.int .i64]))],qn 19,qb,qn 9])],[.c (.sl [.int .i64]),.c db],[.c (.p di)],qc [qn 4,qi,qn 25],[(20,[138]),(10,[158]),(7,[139])],[(14,[9,30])],8⟩
noncomputable def Yhw:=mkC Ynv prog 99 F99
theorem ok99:Yhw.ok prog 99:=mkO ⟨Ys4,trivial⟩ (by kernel_rfl)
noncomputable def Zfn (a0:(List (Int×Unit)))(a1:Bool):Option (Int×Unit):=Yhw.fn (a0,a1,())
noncomputable def Zaf (n:Nat)(x0:(List (Int×Unit)))(x1 x2:Int)(x3:(List (Int×Unit)))(x4:Bool):Option (Int×Unit):=itr Ynv prog 99 F99 n 14 (x0,x1,x2,x3,x4,())
theorem Zqp a0 a1:Eq (Zfn a0 a1) <| bif ofNat a0.length>4 then some (4,()) else bif ofNat a0.length==0 then some (8,()) else let k1:=Zaf fuel a0 (ofNat a0.length) 0 a0 false;bif a1 then bif ofNat a0.length !=2 then some (8,()) else k1 else k1:=mkE (by kernel_rfl)
theorem Zfs n x0 x1 x2 x3 x4:Eq (Zaf (n+1) x0 x1 x2 x3 x4) <| bif x2<x1 then bif 0≤x2 then match x0[x2.toNat]? with | none=>none | some e0=>let k1:Option (Int×Unit):=bif x4 then some (8,()) else bif x2≥0 then some (8,()) else match Z8 x3 with | none=>none | some e1=>bif e1.1<ofNat x3.length then some (43,()) else some (0,());bif e0.1<0 then k1 else bif e0.1≥4 then k1 else Zaf n x0 x1 (wrap .i64 (x2+1)) x3 x4 else none else bif x4 then some (8,()) else match Z8 x3 with | none=>none | some e0=>bif e0.1<ofNat x3.length then some (43,()) else some (0,()):=mkI (by kernel_rfl)
noncomputable def Yhx:Tb:=[(98,Ycc),(99,Yhw),(100,Z91)]
def F63:TFun:=⟨[4,12],[(4,qc [qn 1,[.boxN 27 10 [.any,.any,.p (.sl [.int .i64]),.p db,.p (.sl Xq1),.p (.int .u8),.p di,.p di,.any,.any]],qn 64]),(12,qc [qn 1,[.boxN 27 10 [.any,.any,.p (.sl [.int .i64]),.p db,.any,.p (.int .u8),.p di,.p di,.any,.any]],qn 64])],[.a [.int .u8,.sl Xq1,.sl [.int .i64],.bool,.sl Xq1,.int .u8,.int .i64,.int .i64,.bool,.int .u8]],[.c (.p di)],qc [qn 2,qi,qn 63],[],[],0⟩
noncomputable def Yhy:=mkC Yhx prog 63 F63
theorem ok63:Yhy.ok prog 63:=mkO ⟨ok98,ok99,Ys9,trivial⟩ (by kernel_rfl)
noncomputable def Zif (a0:Xy2):Option (Int×Unit):=Yhy.fn (a0,())
noncomputable def Zb3 (n:Nat)(x0:(List (Int×Unit)))(x1:Bool)(x2:Xy1)(x3 x4 x5:Int):Option (Int×Unit):=itr Yhx prog 63 F63 n 4 (x0,x1,x2,x3,x4,x5,())
noncomputable def Zdq (n:Nat)(x0:(List (Int×Unit)))(x1:Bool)(x2 x3 x4:Int):Option (Int×Unit):=itr Yhx prog 63 F63 n 12 (x0,x1,x2,x3,x4,())
theorem Ztp a0:Eq (Zif a0) <| bif a0.1<1 then some (8,()) else bif a0.1>4 then some (8,()) else let k1:Option (Int×Unit):=let k3:=Zb3 fuel a0.2.2.1 a0.2.2.2.1 a0.2.2.2.2.1 a0.2.2.2.2.2.1 a0.2.2.2.2.2.2.1 a0.2.2.2.2.2.2.2.1;bif a0.1 !=1 then match Zfc a0.2.1 with | none=>none | some e0=>bif e0.1 !=0 then some (e0.1,()) else k3 else bif ofNat a0.2.1.length>0 then some (8,()) else k3;bif a0.2.2.2.2.2.2.2.2.2.1 !=1 then bif a0.2.2.2.2.2.2.2.2.2.1 !=2 then some (8,()) else k1 else k1:=mkE (by kernel_rfl)
theorem Zr1 n x0 x1 x2 x3 x4 x5:Eq (Zb3 (n+1) x0 x1 x2 x3 x4 x5) <| let k1:=Zdq n x0 x1 x3 x4 x5;bif ofNat x2.length>0 then match Zfc x2 with | none=>none | some e0=>bif e0.1 !=0 then some (e0.1,()) else k1 else k1:=mkI (by kernel_rfl)
theorem Zqq n x0 x1 x2 x3 x4:Eq (Zdq (n+1) x0 x1 x2 x3 x4) <| match Zfn x0 x1 with | none=>none | some e0=>bif e0.1 !=0 then some (e0.1,()) else let k1:=match Zg9 (x2,x3,x4,()) with | none=>none | some e1=>some (e1.1,());bif x1 then bif x2 !=1 then some (8,()) else k1 else k1:=mkI (by kernel_rfl)
noncomputable def Zwi:Tb:=[]
def F159:TFun:=⟨[14],[(6,qc [[.c (.p (.sl Xq1))],qn 3,[.boxN 197 1 [.rowN 4 1 [.bool]]],[.fnS 180 [.ptr 0 0]],qn 6,[.c (.p (.sl Xq1))],qi,qi,qn 73]),(14,qc [[.c (.p (.sl Xq1))],qn 3,[.boxN 197 1 [.rowN 4 1 [.bool]]],[.fnS 180 [.ptr 0 0]],qi,qn 1,[.boxN 266 2 [.p db,.p db]],qb,[.c (.slN 3 1 [.int .i64])],qn 1,[.c (.p (.sl Xq1))],qi,qi,qn 73]),(28,qc [qb,qn 1,[.boxN 197 1 [.rowN 4 1 [.bool]]],qn 5,[.c (.slN 3 1 [.int .i64])],qi,qi,qn 10,[.c (.p (.sl Xq1))],qn 3,[.c (.ptr 0 0)],[.fnS 180 [.ptr 0 0]],qi,qn 1,[.boxN 266 2 [.any,.p db]],qb,[.c (.slR 2)],qn 1,[.c (.p (.sl Xq1))],qi,qi,qn 48,qb,qn 24]),(40,qc [qb,qn 1,[.boxN 197 1 [.rowN 4 1 [.bool]]],qn 5,[.c (.p (.sl [.int .i64]))],qi,qi,qn 10,[.c (.p (.sl Xq1))],qn 3,[.c (.ptr 0 0)],[.fnS 180 [.ptr 0 0]],qi,qn 2,qb,qn 2,[.c (.p (.sl Xq1))],qi,qi,qn 54,qb,qn 2,qb,qn 15])],[.c (.sl Xq1)],[.c (.s 4 1 [.bool]),.c (.p di)],qc [qn 2,[.c (.rowN 4 1 [.bool])],qi,qn 84],[(36,[180]),(24,[180])],[(28,[88]),(40,[88])],8⟩
noncomputable def Zwj:=mkC Zwi prog 159 F159
theorem Yta:Zwj.ok prog 159:=mkO trivial (by kernel_rfl)
noncomputable def Ycd:TCon:=⟨Zwj.args,[.c (.p (.sl [.bool])),.c (.p di)],Zwj.fn⟩
theorem Yqd:Ycd.ok prog 159:=TCon.frz (c:=Zwj) Yta rfl
noncomputable def Zpm (a0:Xy1):Option (List (Bool×Unit)×Int×Unit):=Zwj.fn (a0,())
noncomputable def Yb (n:Nat)(x0:Xy1)(x1:(List (Bool×Unit)))(x2:Xy1)(x3 x4:Int):Option (List (Bool×Unit)×Int×Unit):=itr Zwi prog 159 F159 n 6 (x0,x1,x2,x3,x4,())
noncomputable def Yi (n:Nat)(x0:Xy1)(x1:(List (Bool×Unit)))(x2:Int)(x3 x4 x5:Bool)(x6:(List (Int×Unit)))(x7:Int)(x8:Xy1)(x9 x10:Int):Option (List (Bool×Unit)×Int×Unit):=itr Zwi prog 159 F159 n 14 (x0,x1,x2,x3,x4,x5,x6,x7,x8,x9,x10,())
noncomputable def Yw (n:Nat)(x0:Bool)(x1:(List (Bool×Unit)))(x2:(List (Int×Unit)))(x3 x4 x5:Int)(x6:Xy1)(x7:Int)(x8 x9:Bool)(x10 x11:Int)(x12:Xy1)(x13 x14:Int)(x15:Bool):Option (List (Bool×Unit)×Int×Unit):=itr Zwi prog 159 F159 n 28 (x0,x1,x2,x3,x4,x5,x6,x7,x8,x9,x10,x11,x12,x13,x14,x15,())
noncomputable def Yj (n:Nat)(x0:Bool)(x1:(List (Bool×Unit)))(x2:(List (Int×Unit)))(x3 x4:Int)(x5:Xy1)(x6:Int)(x7:Bool)(x8:Xy1)(x9 x10:Int)(x11 x12:Bool):Option (List (Bool×Unit)×Int×Unit):=itr Zwi prog 159 F159 n 40 (x0,x1,x2,x3,x4,x5,x6,x7,x8,x9,x10,x11,x12,())
theorem Z29 a0:Eq (Zpm a0) <| Yb fuel a0 ([]) a0 (ofNat a0.length) 0:=mkE (by kernel_rfl)
theorem Zoo n x0 x1 x2 x3 x4:Eq (Yb (n+1) x0 x1 x2 x3 x4) <| bif x4<x3 then bif 0≤x4 then match x2[x4.toNat]? with | none=>none | some e0=>bif e0.1≤4 then bif Zb (x1.length+1) 1 then Yb n x0 (x1++[(false,())]) x2 x3 (wrap .i64 (x4+1)) else none else bif e0.1==5 then Yi n x0 x1 x4 true false false ([(e0.2.2.1,()),(e0.2.2.2.1,())]) 1 x2 x3 x4 else bif e0.1==6 then Yi n x0 x1 x4 false true true ([(e0.2.2.1,()),(e0.2.2.2.1,())]) 1 x2 x3 x4 else bif e0.1≤11 then Yi n x0 x1 x4 true false false ([(e0.2.2.1,()),(e0.2.2.2.1,())]) (ofNat (List.length [(e0.2.2.1,()),(e0.2.2.2.1,())])) x2 x3 x4 else bif e0.1≤15 then Yi n x0 x1 x4 true false true ([(e0.2.2.1,()),(e0.2.2.2.1,())]) (ofNat (List.length [(e0.2.2.1,()),(e0.2.2.2.1,())])) x2 x3 x4 else bif e0.1≤17 then Yi n x0 x1 x4 true true true ([(e0.2.2.1,()),(e0.2.2.2.1,())]) (ofNat (List.length [(e0.2.2.1,()),(e0.2.2.2.1,())])) x2 x3 x4 else Yi n x0 x1 x4 false true true ([(e0.2.2.1,()),(e0.2.2.2.1,())]) (ofNat (List.length [(e0.2.2.1,()),(e0.2.2.2.1,())])) x2 x3 x4 else none else some (x1,ofNat x0.length,()):=mkI (by kernel_rfl)
theorem Zwk n x0 x1 x2 x3 x4 x5 x6 x7 x8 x9 x10:Eq (Yi (n+1) x0 x1 x2 x3 x4 x5 x6 x7 x8 x9 x10) <| bif x3 then Yw n false x1 x6 (ofNat x7.toNat) (ofNat x7.toNat) 0 x0 x2 x4 x5 0 (ofNat x7.toNat) x8 x9 x10 true else bif x4 then Yj n true x1 (List.take x7.toNat (List.drop 0 x6)) (ofNat x7.toNat) 0 x0 x2 x5 x8 x9 x10 true true else some ([],x2,()):=mkI (by kernel_rfl)
theorem Zm1 n x0 x1 x2 x3 x4 x5 x6 x7 x8 x9 x10 x11 x12 x13 x14 x15:Eq (Yw (n+1) x0 x1 x2 x3 x4 x5 x6 x7 x8 x9 x10 x11 x12 x13 x14 x15) <| let k1:=bif x8 then Yj n true x1 (List.take x11.toNat (List.drop x10.toNat x2)) (ofNat x11.toNat) 0 x6 x7 x9 x12 x13 x14 true true else some ([],x7,());bif x5<x4 then bif 0≤x5 then bif x5.toNat<x3.toNat then match x2[0+x5.toNat]? with | none=>none | some e0=>bif 0≤e0.1 then bif e0.1.toNat<x1.length then match x1[e0.1.toNat]? with | none=>none | some e1=>bif !e1.1==x0 then bif x15 then k1 else k1 else Yw n x0 x1 x2 (ofNat x3.toNat) x4 (wrap .i64 (x5+1)) x6 x7 x8 x9 (ofNat x10.toNat) (ofNat x11.toNat) x12 x13 x14 x15 else none else none else none else none else bif x15 then bif Zb (x1.length+List.length [(x9,())]) 1 then Yb n x6 (x1++[(x9,())]) x12 x13 (wrap .i64 (x14+1)) else none else k1:=mkI (by kernel_rfl)
theorem Zm2 n x0 x1 x2 x3 x4 x5 x6 x7 x8 x9 x10 x11 x12:Eq (Yj (n+1) x0 x1 x2 x3 x4 x5 x6 x7 x8 x9 x10 x11 x12) <| let k1:=bif Zb (x1.length+List.length [(x7,())]) 1 then Yb n x5 (x1++[(x7,())]) x8 x9 (wrap .i64 (x10+1)) else none;bif x4<x3 then bif 0≤x4 then match x2[x4.toNat]? with | none=>none | some e0=>bif 0≤e0.1 then bif e0.1.toNat<x1.length then match x1[e0.1.toNat]? with | none=>none | some e1=>bif !e1.1==x0 then bif x11 then bif x12 then some ([],x6,()) else some ([],x6,()) else k1 else Yj n x0 x1 x2 x3 (wrap .i64 (x4+1)) x5 x6 x7 x8 x9 x10 x11 x12 else none else none else none else bif x11 then bif x12 then k1 else some ([],x6,()) else k1:=mkI (by kernel_rfl)
noncomputable def Yqe:Tb:=[(98,Ycc),(159,Ycd)]
def F141:TFun:=⟨[],[],[.c (.sl Xq1)],[.c (.p db),.c (.p di),.c (.p di)],qc [qn 2,qb,qi,qi,qn 25],[],[],0⟩
noncomputable def Z92:=mkC Yqe prog 141 F141
theorem Ytb:Z92.ok prog 141:=mkO ⟨ok98,Yqd,trivial⟩ (by kernel_rfl)
noncomputable def Zwl (a0:Xy1):Option (Bool×Int×Int×Unit):=Z92.fn (a0,())
theorem Z93 a0:Eq (Zwl a0) <| match Zfc a0 with | none=>none | some e0=>bif e0.1 !=0 then some (false,0,e0.1,()) else match Zpm a0 with | none=>none | some e1=>bif e1.2.1<ofNat a0.length then some (false,e1.2.1,42,()) else bif 0≤wrap .i64 (e1.2.1 - 1) then match e1.1[toNat (wrap .i64 (e1.2.1 - 1))]? with | none=>none | some e2=>some (e2.1,wrap .i64 (e1.2.1 - 1),0,()) else none:=mkE (by kernel_rfl)
noncomputable def Yqf:Tb:=[(141,Z92)]
def F101:TFun:=⟨[],[],[.c (.sl Xq1),.c db],[.c (.p di),.c (.p di)],qc [qn 4,qi,qi,qn 18],[],[],0⟩
noncomputable def Z3a:=mkC Yqf prog 101 F101
theorem Ynw:Z3a.ok prog 101:=mkO ⟨Ytb,trivial⟩ (by kernel_rfl)
noncomputable def Zjl (a0:Xy1)(a1:Bool):Option (Int×Int×Unit):=Z3a.fn (a0,a1,())
theorem Z3b a0 a1:Eq (Zjl a0 a1) <| match Zwl a0 with | none=>none | some e0=>bif e0.2.2.1==0 then bif !e0.1==a1 then some (e0.2.1,42,()) else some e0.2 else some e0.2:=mkE (by kernel_rfl)
noncomputable def Ytc:Tb:=[(101,Z3a)]
def F65:TFun:=⟨[],[],[.c (.sl Xq1)],[.c (.p di),.c (.p di)],qc [qn 2,qi,qi,qn 4],[],[],0⟩
noncomputable def Yhz:=mkC Ytc prog 65 F65
theorem ok65:Yhz.ok prog 65:=mkO ⟨Ynw,trivial⟩ (by kernel_rfl)
noncomputable def Zjm (a0:Xy1):Option (Int×Int×Unit):=Yhz.fn (a0,())
theorem Zwm a0:Eq (Zjm a0) <| match Zjl a0 false with | none=>none | some e0=>some e0:=mkE (by kernel_rfl)
noncomputable def Ytd:Tb:=[(101,Z3a)]
def F66:TFun:=⟨[],[],[.c (.sl Xq1)],[.c (.p di),.c (.p di)],qc [qn 2,qi,qi,qn 4],[],[],0⟩
noncomputable def Yh0:=mkC Ytd prog 66 F66
theorem ok66:Yh0.ok prog 66:=mkO ⟨Ynw,trivial⟩ (by kernel_rfl)
noncomputable def Zhz (a0:Xy1):Option (Int×Int×Unit):=Yh0.fn (a0,())
theorem Zy5 a0:Eq (Zhz a0) <| match Zjl a0 true with | none=>none | some e0=>some e0:=mkE (by kernel_rfl)
noncomputable def Yte:Tb:=[(63,Yhy),(65,Yhz),(66,Yh0)]
def F27:TFun:=⟨[],[],[.a [.int .u8,.sl Xq1,.sl [.int .i64],.bool,.sl Xq1,.int .u8,.int .i64,.int .i64,.bool,.int .u8]],[.c (.p di),.c (.p di)],qc [qn 2,qi,qi,qn 16],[(11,[4]),(7,[64])],[],8⟩
noncomputable def Z02:=mkC Yte prog 27 F27
theorem ok27:Z02.ok prog 27:=mkO ⟨ok63,ok65,ok66,trivial⟩ (by kernel_rfl)
noncomputable def Qz (a0:Xy2):Option (Int×Int×Unit):=Z02.fn (a0,())
theorem Zwn a0:Eq (Qz a0) <| match Zif a0 with | none=>none | some e0=>bif e0.1 !=0 then some (0,e0.1,()) else let k1:Option (Int×Int×Unit):=some (0,0,());bif ofNat a0.2.1.length==0 then bif ofNat a0.2.2.2.2.1.length==0 then k1 else match Zhz a0.2.2.2.2.1 with | none=>none | some e1=>bif e1.2.1 !=0 then bif 0≤e1.1 then match a0.2.2.2.2.1[e1.1.toNat]? with | none=>none | some e2=>some (e2.2.2.2.2.1,e1.2.1,()) else none else k1 else match Zjm a0.2.1 with | none=>none | some e1=>bif e1.2.1 !=0 then bif 0≤e1.1 then match a0.2.1[e1.1.toNat]? with | none=>none | some e2=>some (e2.2.2.2.2.1,e1.2.1,()) else none else bif ofNat a0.2.2.2.2.1.length==0 then k1 else match Zhz a0.2.2.2.2.1 with | none=>none | some e2=>bif e2.2.1 !=0 then bif 0≤e2.1 then match a0.2.2.2.2.1[e2.1.toNat]? with | none=>none | some e3=>some (e3.2.2.2.2.1,e2.2.1,()) else none else k1:=mkE (by kernel_rfl)
end Tg
