import Derived.Test.YtfnhchmemplhaaaGreatBVT
import Derived.Test.YtfnhchmemplhaaaGreatBHS
/- Functions of the code, told plainly and checked by the kernel. -/
set_option linter.unusedVariables false
set_option linter.unusedSimpArgs false
set_option maxRecDepth 100000
namespace Tg
open Go.Abs hiding fuel
open Go.Proofs.Tryz (prog)
open Int (ofNat toNat)
open Go.IntKind (wrap)
noncomputable def Yit:Tb:=[]
def F154:TFun:=⟨[],[],[.c (.int .u8)],[.c (.p di),.c (.p di)],qc [qn 2,qi,qi,qn 21],[],[],0⟩
noncomputable def Z42:=mkC Yit prog 154 F154
theorem Ylg:Z42.ok prog 154:=mkO trivial (by kernel_rfl)
noncomputable def Zlc (a0:Int):Option (Int×Int×Unit):=Z42.fn (a0,())
theorem Zwo a0:Eq (Zlc a0) <| let k1:Option (Int×Int×Unit):=bif a0==5 then some (1,0,()) else bif a0==6 then some (1,0,()) else bif a0≥7 then bif a0≤19 then some (2,0,()) else some (0,2,()) else some (0,2,());bif a0≥1 then bif a0≤4 then some (0,0,()) else k1 else k1:=mkE (by kernel_rfl)
noncomputable def Zp0:Tb:=[(154,Z42)]
def F134:TFun:=⟨[28,21,31],[(4,qc [qn 4,[.c (.rowN 207 3 Xq2)],[.c (.rowN 207 3 Xq2)],qn 9,[.c (.p (.sl Xq1))],qi,qi,qn 87]),(21,qc [qn 4,[.c (.rowN 207 3 Xq2)],[.c (.slN 207 3 Xq2)],qn 1,[.boxN 152 5 [.p (.int .u8),.p di,.p di,.p di,.p di]],qn 3,[.boxN 152 5 [.p (.int .u8),.p di,.p di,.p di,.p di]],[.boxN 207 3 [.p di,.p di,.p di]],qn 2,[.c (.p (.sl Xq1))],qi,qi,qn 87]),(23,qc [qn 4,[.c (.rowN 207 3 Xq2)],[.c (.slN 207 3 Xq2)],qn 1,[.boxN 152 5 [.p (.int .u8),.p di,.p di,.p di,.p di]],qn 3,[.boxN 152 5 [.p (.int .u8),.p di,.p di,.p di,.p di]],[.boxN 207 3 [.p di,.p di,.p di]],qn 2,[.c (.p (.sl Xq1))],qi,qi,qn 34,[.c (.slR 1)],qi,qi,qn 50]),(28,qc [qn 4,[.c (.rowN 207 3 Xq2)],[.c (.slN 207 3 Xq2)],qn 1,[.boxN 152 5 [.p (.int .u8),.p di,.p di,.p di,.p di]],qn 3,[.boxN 152 5 [.p (.int .u8),.p di,.p di,.p di,.p di]],[.boxN 207 3 [.p di,.p di,.p di]],qn 1,[.boxN 207 3 [.any,.p di,.p di]],[.c (.p (.sl Xq1))],qi,qi,qn 34,[.c (.slR 1)],qi,qi,qn 50]),(31,qc [qn 4,[.c (.rowN 207 3 Xq2)],[.c (.slN 207 3 Xq2)],qn 1,[.boxN 152 5 [.p (.int .u8),.p di,.p di,.p di,.p di]],qn 3,[.boxN 152 5 [.p (.int .u8),.p di,.p di,.p di,.p di]],[.boxN 207 3 [.p di,.p di,.p di]],qn 2,[.c (.p (.sl Xq1))],qi,qi,qn 87])],[.c (.sl Xq1)],[.c (.s 207 3 Xq2),.c (.p db)],qc [qn 2,[.c (.rowN 207 3 Xq2)],qb,qn 101],[(16,[155])],[],8⟩
noncomputable def Zua:=mkC Zp0 prog 134 F134
theorem Ylh:Zua.ok prog 134:=mkO ⟨Ylg,trivial⟩ (by kernel_rfl)
noncomputable def Z65:TCon:=⟨Zua.args,[.c (.p (.sl Xq2)),.c (.p db)],Zua.fn⟩
theorem Yiu:Z65.ok prog 134:=TCon.frz (c:=Zua) Ylh rfl
noncomputable def Zh7 (a0:Xy1):Option (List Xy3×Bool×Unit):=Zua.fn (a0,())
noncomputable def Zp (n:Nat)(x0 x1:(List Xy3))(x2:Xy1)(x3 x4:Int):Option (List Xy3×Bool×Unit):=itr Zp0 prog 134 F134 n 4 (x0,x1,x2,x3,x4,())
noncomputable def Zbb (n:Nat)(x0 x1:(List Xy3))(x2 x3 x4 x5 x6 x7 x8 x9 x10 x11 x12 x13 x14 x15:Int)(x16:Xy1)(x17 x18:Int):Option (List Xy3×Bool×Unit):=itr Zp0 prog 134 F134 n 21 (x0,x1,x2,x3,x4,x5,x6,x7,x8,x9,x10,x11,x12,x13,x14,x15,x16,x17,x18,())
noncomputable def Yf (n:Nat)(x0 x1:(List Xy3))(x2 x3 x4 x5 x6 x7 x8 x9 x10 x11 x12 x13 x14 x15:Int)(x16:Xy1)(x17 x18 x19 x20 x21 x22:Int):Option (List Xy3×Bool×Unit):=itr Zp0 prog 134 F134 n 23 (x0,x1,x2,x3,x4,x5,x6,x7,x8,x9,x10,x11,x12,x13,x14,x15,x16,x17,x18,x19,x20,x21,x22,())
noncomputable def Zfz (n:Nat)(x0 x1:(List Xy3))(x2 x3 x4 x5 x6 x7 x8 x9 x10 x11 x12 x13 x14 x15 x16 x17:Int)(x18:Xy1)(x19 x20 x21 x22 x23 x24:Int):Option (List Xy3×Bool×Unit):=itr Zp0 prog 134 F134 n 28 (x0,x1,x2,x3,x4,x5,x6,x7,x8,x9,x10,x11,x12,x13,x14,x15,x16,x17,x18,x19,x20,x21,x22,x23,x24,())
noncomputable def Zc5 (n:Nat)(x0 x1:(List Xy3))(x2 x3 x4 x5 x6 x7 x8 x9 x10 x11 x12 x13 x14 x15:Int)(x16:Xy1)(x17 x18:Int):Option (List Xy3×Bool×Unit):=itr Zp0 prog 134 F134 n 31 (x0,x1,x2,x3,x4,x5,x6,x7,x8,x9,x10,x11,x12,x13,x14,x15,x16,x17,x18,())
theorem Zop a0:Eq (Zh7 a0) <| Zp fuel ([]) ([]) a0 (ofNat a0.length) 0:=mkE (by kernel_rfl)
theorem Zd7 n x0 x1 x2 x3 x4:Eq (Zp (n+1) x0 x1 x2 x3 x4) <| bif x4<x3 then bif 0≤x4 then match x2[x4.toNat]? with | none=>none | some e0=>match Zlc e0.1 with | none=>none | some e1=>bif e1.2.1 !=0 then some (x0,false,()) else bif e1.1>ofNat x1.length then some (x0,false,()) else bif 0≤wrap .i64 (ofNat x1.length - e1.1) then bif decide (0≤toNat (wrap .i64 (ofNat x1.length - e1.1)))&&decide (toNat (wrap .i64 (ofNat x1.length - e1.1))≤x1.length) then bif 0≤wrap .i64 (ofNat x1.length - e1.1) then bif toNat (wrap .i64 (ofNat x1.length - e1.1))≤x1.length then bif toNat (wrap .i64 (ofNat x1.length - e1.1))=x1.length then Yf n x0 x1 (ofNat (toNat (wrap .i64 (ofNat x1.length - e1.1)))) e0.1 e0.2.1 e0.2.2.1 e0.2.2.2.1 e0.2.2.2.2.1 e0.1 0 0 0 (tmm false (tmm true e0.2.2.2.2.1 0) 400) x4 1 1 x2 x3 x4 1 0 0 0 else Yf n x0 x1 (ofNat (toNat (wrap .i64 (ofNat x1.length - e1.1)))) e0.1 e0.2.1 e0.2.2.1 e0.2.2.2.1 e0.2.2.2.2.1 e0.1 0 0 0 (tmm false (tmm true e0.2.2.2.2.1 0) 400) x4 1 1 x2 x3 x4 (ofNat (toNat (wrap .i64 (ofNat x1.length - e1.1)))) (ofNat (x1.length - toNat (wrap .i64 (ofNat x1.length - e1.1)))) (ofNat (x1.length - toNat (wrap .i64 (ofNat x1.length - e1.1)))) 0 else none else none else none else none else none else some (x0,ofNat x1.length==1,()):=mkI (by kernel_rfl)
theorem Zub n x0 x1 x2 x3 x4 x5 x6 x7 x8 x9 x10 x11 x12 x13 x14 x15 x16 x17 x18:Eq (Zbb (n+1) x0 x1 x2 x3 x4 x5 x6 x7 x8 x9 x10 x11 x12 x13 x14 x15 x16 x17 x18) <| bif x3==1 then Zc5 n x0 x1 (ofNat x2.toNat) x3 x4 x5 x6 x7 x8 (tmm true x4 0) x10 x11 x12 x13 x14 x15 x16 x17 x18 else Zc5 n x0 x1 (ofNat x2.toNat) x3 x4 x5 x6 x7 x8 x9 x10 x11 x12 x13 x14 x15 x16 x17 x18:=mkI (by kernel_rfl)
theorem Zld n x0 x1 x2 x3 x4 x5 x6 x7 x8 x9 x10 x11 x12 x13 x14 x15 x16 x17 x18 x19 x20 x21 x22:Eq (Yf (n+1) x0 x1 x2 x3 x4 x5 x6 x7 x8 x9 x10 x11 x12 x13 x14 x15 x16 x17 x18 x19 x20 x21 x22) <| bif x22<x21 then bif 0≤x22 then bif x22.toNat<x20.toNat then match x1[x19.toNat+x22.toNat]? with | none=>none | some e0=>bif x22==0 then Zfz n x0 x1 (ofNat x2.toNat) x3 x4 x5 x6 x7 x8 x9 e0.1 x11 x12 x13 x14 x15 e0.2.1 e0.2.2.1 x16 x17 x18 (ofNat x19.toNat) (ofNat x20.toNat) x21 x22 else Zfz n x0 x1 (ofNat x2.toNat) x3 x4 x5 x6 x7 x8 x9 x10 e0.1 x12 x13 x14 x15 e0.2.1 e0.2.2.1 x16 x17 x18 (ofNat x19.toNat) (ofNat x20.toNat) x21 x22 else none else none else Zbb n x0 x1 (ofNat x2.toNat) x3 x4 x5 x6 x7 x8 x9 x10 x11 x12 x13 x14 x15 x16 x17 x18:=mkI (by kernel_rfl)
theorem Zle n x0 x1 x2 x3 x4 x5 x6 x7 x8 x9 x10 x11 x12 x13 x14 x15 x16 x17 x18 x19 x20 x21 x22 x23 x24:Eq (Zfz (n+1) x0 x1 x2 x3 x4 x5 x6 x7 x8 x9 x10 x11 x12 x13 x14 x15 x16 x17 x18 x19 x20 x21 x22 x23 x24) <| Yf n x0 x1 (ofNat x2.toNat) x3 x4 x5 x6 x7 x8 x9 x10 x11 x12 x13 (wrap .i64 (x14+x16)) (tmm true x15 (wrap .i64 (x17+1))) x18 x19 x20 (ofNat x21.toNat) (ofNat x22.toNat) x23 (wrap .i64 (x24+1)):=mkI (by kernel_rfl)
theorem Zuc n x0 x1 x2 x3 x4 x5 x6 x7 x8 x9 x10 x11 x12 x13 x14 x15 x16 x17 x18:Eq (Zc5 (n+1) x0 x1 x2 x3 x4 x5 x6 x7 x8 x9 x10 x11 x12 x13 x14 x15 x16 x17 x18) <| bif !(x8==x3&&(x9==x4&&(x10==x5&&(x11==x6&&(x12==x7&&true))))) then some (x0,false,()) else bif decide (x2.toNat≤x1.length)&&Zg (x2.toNat+List.length [(x13,x14,x15,())]) 24 then bif Zg (x0.length+List.length [(x13,x14,x15,())]) 24 then Zp n (x0++[(x13,x14,x15,())]) (List.take x2.toNat x1++[(x13,x14,x15,())]) x16 x17 (wrap .i64 (x18+1)) else none else none:=mkI (by kernel_rfl)
noncomputable def Yiv:Tb:=[(134,Z65)]
def F112:TFun:=⟨[],[],[.c (.sl Xq1)],[.c (.p (.sl Xq2)),.c (.p di)],qc [qn 2,[.c (.p (.sl Xq2))],qi,qn 21],[],[],0⟩
noncomputable def Z43:=mkC Yiv prog 112 F112
theorem Yli:Z43.ok prog 112:=mkO ⟨Yiu,trivial⟩ (by kernel_rfl)
noncomputable def Zq1 (a0:Xy1):Option (List Xy3×Int×Unit):=Z43.fn (a0,())
theorem Zwp a0:Eq (Zq1 a0) <| bif ofNat a0.length>60 then some ([],4,()) else match Zh7 a0 with | none=>none | some e0=>bif !e0.2.1 then some ([],8,()) else bif 0≤wrap .i64 (ofNat e0.1.length - 1) then match e0.1[toNat (wrap .i64 (ofNat e0.1.length - 1))]? with | none=>none | some e1=>bif e1.2.2.1>20 then some ([],34,()) else some (e0.1,0,()) else none:=mkE (by kernel_rfl)
noncomputable def Ylj:Tb:=[(112,Z43)]
def F76:TFun:=⟨[],[],[.c (.sl Xq1)],[.c (.p di)],qc [qn 2,qi,qn 8],[],[],0⟩
noncomputable def Z66:=mkC Ylj prog 76 F76
theorem ok76:Z66.ok prog 76:=mkO ⟨Yli,trivial⟩ (by kernel_rfl)
noncomputable def Zeh (a0:Xy1):Option (Int×Unit):=Z66.fn (a0,())
theorem Zwq a0:Eq (Zeh a0) <| match Zq1 a0 with | none=>none | some e0=>some (e0.2.1,()):=mkE (by kernel_rfl)
noncomputable def Ylk:Tb:=[]
def F78:TFun:=⟨[],[],[.a [.int .u8,.int .i64,.int .i64]],[.c (.p di)],qc [qn 2,qi,qn 37],[],[],0⟩
noncomputable def Yb3:=mkC Ylk prog 78 F78
theorem ok78:Yb3.ok prog 78:=mkO trivial (by kernel_rfl)
noncomputable def Zf0 (a0:Xy3):Option (Int×Unit):=Yb3.fn (a0,())
theorem Zp1 a0:Eq (Zf0 a0) <| let k1:Option (Int×Unit):=some (8,());bif a0.2.1<1 then k1 else bif a0.2.1>1073741824 then k1 else bif a0.1==2 then bif a0.2.2.1≥1 then bif a0.2.2.1≤a0.2.1 then bif a0.2.1≤wrap .i64 (16*a0.2.2.1) then some (0,()) else k1 else k1 else k1 else let k2:Option (Int×Unit):=bif a0.2.2.1==0 then some (0,()) else k1;bif a0.1==1 then k2 else bif a0.1==3 then k2 else k1:=mkE (by kernel_rfl)
noncomputable def Yg5:Tb:=[(115,Yb2)]
def F77:TFun:=⟨[],[(14,qc [[.c (.p (.sl [.int .i64]))],[.c (.fn 113 [])],qn 5,qi,qi,qn 19,[.c (.p (.sl [.int .i64]))],qn 19,qb,qn 9])],[.c (.sl [.int .i64]),.c db],[.c (.p di)],qc [qn 4,qi,qn 25],[(20,[113]),(10,[135]),(7,[114])],[(14,[9,30])],8⟩
noncomputable def Yb4:=mkC Yg5 prog 77 F77
theorem ok77:Yb4.ok prog 77:=mkO ⟨Ylf,trivial⟩ (by kernel_rfl)
noncomputable def Zeo (a0:(List (Int×Unit)))(a1:Bool):Option (Int×Unit):=Yb4.fn (a0,a1,())
noncomputable def Xf (n:Nat)(x0:(List (Int×Unit)))(x1 x2:Int)(x3:(List (Int×Unit)))(x4:Bool):Option (Int×Unit):=itr Yg5 prog 77 F77 n 14 (x0,x1,x2,x3,x4,())
theorem Zoq a0 a1:Eq (Zeo a0 a1) <| bif ofNat a0.length>4 then some (4,()) else bif ofNat a0.length==0 then some (8,()) else let k1:=Xf fuel a0 (ofNat a0.length) 0 a0 false;bif a1 then bif ofNat a0.length !=2 then some (8,()) else k1 else k1:=mkE (by kernel_rfl)
theorem Zev n x0 x1 x2 x3 x4:Eq (Xf (n+1) x0 x1 x2 x3 x4) <| bif x2<x1 then bif 0≤x2 then match x0[x2.toNat]? with | none=>none | some e0=>let k1:Option (Int×Unit):=bif x4 then some (8,()) else bif x2≥0 then some (8,()) else match Z4 x3 with | none=>none | some e1=>bif e1.1<ofNat x3.length then some (43,()) else some (0,());bif e0.1<0 then k1 else bif e0.1≥4 then k1 else Xf n x0 x1 (wrap .i64 (x2+1)) x3 x4 else none else bif x4 then some (8,()) else match Z4 x3 with | none=>none | some e0=>bif e0.1<ofNat x3.length then some (43,()) else some (0,()):=mkI (by kernel_rfl)
noncomputable def Yb5:Tb:=[(76,Z66),(77,Yb4),(78,Yb3)]
def F55:TFun:=⟨[4,12],[(4,qc [qn 1,[.boxN 27 10 [.any,.any,.p (.sl [.int .i64]),.p db,.p (.sl Xq1),.p (.int .u8),.p di,.p di,.any,.any]],qn 64]),(12,qc [qn 1,[.boxN 27 10 [.any,.any,.p (.sl [.int .i64]),.p db,.any,.p (.int .u8),.p di,.p di,.any,.any]],qn 64])],[.a [.int .u8,.sl Xq1,.sl [.int .i64],.bool,.sl Xq1,.int .u8,.int .i64,.int .i64,.bool,.int .u8]],[.c (.p di)],qc [qn 2,qi,qn 63],[],[],0⟩
noncomputable def Yb6:=mkC Yb5 prog 55 F55
theorem ok55:Yb6.ok prog 55:=mkO ⟨ok76,ok77,ok78,trivial⟩ (by kernel_rfl)
noncomputable def Zg3 (a0:Xy2):Option (Int×Unit):=Yb6.fn (a0,())
noncomputable def Zbl (n:Nat)(x0:(List (Int×Unit)))(x1:Bool)(x2:Xy1)(x3 x4 x5:Int):Option (Int×Unit):=itr Yb5 prog 55 F55 n 4 (x0,x1,x2,x3,x4,x5,())
noncomputable def Zc6 (n:Nat)(x0:(List (Int×Unit)))(x1:Bool)(x2 x3 x4:Int):Option (Int×Unit):=itr Yb5 prog 55 F55 n 12 (x0,x1,x2,x3,x4,())
theorem Zrm a0:Eq (Zg3 a0) <| bif a0.1<1 then some (8,()) else bif a0.1>4 then some (8,()) else let k1:Option (Int×Unit):=let k3:=Zbl fuel a0.2.2.1 a0.2.2.2.1 a0.2.2.2.2.1 a0.2.2.2.2.2.1 a0.2.2.2.2.2.2.1 a0.2.2.2.2.2.2.2.1;bif a0.1 !=1 then match Zeh a0.2.1 with | none=>none | some e0=>bif e0.1 !=0 then some (e0.1,()) else k3 else bif ofNat a0.2.1.length>0 then some (8,()) else k3;bif a0.2.2.2.2.2.2.2.2.2.1 !=1 then bif a0.2.2.2.2.2.2.2.2.2.1 !=2 then some (8,()) else k1 else k1:=mkE (by kernel_rfl)
theorem Zp2 n x0 x1 x2 x3 x4 x5:Eq (Zbl (n+1) x0 x1 x2 x3 x4 x5) <| let k1:=Zc6 n x0 x1 x3 x4 x5;bif ofNat x2.length>0 then match Zeh x2 with | none=>none | some e0=>bif e0.1 !=0 then some (e0.1,()) else k1 else k1:=mkI (by kernel_rfl)
theorem Zor n x0 x1 x2 x3 x4:Eq (Zc6 (n+1) x0 x1 x2 x3 x4) <| match Zeo x0 x1 with | none=>none | some e0=>bif e0.1 !=0 then some (e0.1,()) else let k1:=match Zf0 (x2,x3,x4,()) with | none=>none | some e1=>some (e1.1,());bif x1 then bif x2 !=1 then some (8,()) else k1 else k1:=mkI (by kernel_rfl)
noncomputable def Zud:Tb:=[]
def F136:TFun:=⟨[14],[(6,qc [[.c (.p (.sl Xq1))],qn 3,[.boxN 171 1 [.rowN 4 1 [.bool]]],[.fnS 156 [.ptr 0 0]],qn 6,[.c (.p (.sl Xq1))],qi,qi,qn 73]),(14,qc [[.c (.p (.sl Xq1))],qn 3,[.boxN 171 1 [.rowN 4 1 [.bool]]],[.fnS 156 [.ptr 0 0]],qi,qn 1,[.boxN 238 2 [.p db,.p db]],qb,[.c (.slN 3 1 [.int .i64])],qn 1,[.c (.p (.sl Xq1))],qi,qi,qn 73]),(28,qc [qb,qn 1,[.boxN 171 1 [.rowN 4 1 [.bool]]],qn 5,[.c (.slN 3 1 [.int .i64])],qi,qi,qn 10,[.c (.p (.sl Xq1))],qn 3,[.c (.ptr 0 0)],[.fnS 156 [.ptr 0 0]],qi,qn 1,[.boxN 238 2 [.any,.p db]],qb,[.c (.slR 2)],qn 1,[.c (.p (.sl Xq1))],qi,qi,qn 48,qb,qn 24]),(40,qc [qb,qn 1,[.boxN 171 1 [.rowN 4 1 [.bool]]],qn 5,[.c (.p (.sl [.int .i64]))],qi,qi,qn 10,[.c (.p (.sl Xq1))],qn 3,[.c (.ptr 0 0)],[.fnS 156 [.ptr 0 0]],qi,qn 2,qb,qn 2,[.c (.p (.sl Xq1))],qi,qi,qn 54,qb,qn 2,qb,qn 15])],[.c (.sl Xq1)],[.c (.s 4 1 [.bool]),.c (.p di)],qc [qn 2,[.c (.rowN 4 1 [.bool])],qi,qn 84],[(36,[156]),(24,[156])],[(28,[88]),(40,[88])],8⟩
noncomputable def Zue:=mkC Zud prog 136 F136
theorem Yll:Zue.ok prog 136:=mkO trivial (by kernel_rfl)
noncomputable def Z67:TCon:=⟨Zue.args,[.c (.p (.sl [.bool])),.c (.p di)],Zue.fn⟩
theorem Yiw:Z67.ok prog 136:=TCon.frz (c:=Zue) Yll rfl
noncomputable def Znu (a0:Xy1):Option (List (Bool×Unit)×Int×Unit):=Zue.fn (a0,())
noncomputable def Z7 (n:Nat)(x0:Xy1)(x1:(List (Bool×Unit)))(x2:Xy1)(x3 x4:Int):Option (List (Bool×Unit)×Int×Unit):=itr Zud prog 136 F136 n 6 (x0,x1,x2,x3,x4,())
noncomputable def Yb (n:Nat)(x0:Xy1)(x1:(List (Bool×Unit)))(x2:Int)(x3 x4 x5:Bool)(x6:(List (Int×Unit)))(x7:Int)(x8:Xy1)(x9 x10:Int):Option (List (Bool×Unit)×Int×Unit):=itr Zud prog 136 F136 n 14 (x0,x1,x2,x3,x4,x5,x6,x7,x8,x9,x10,())
noncomputable def Z5 (n:Nat)(x0:Bool)(x1:(List (Bool×Unit)))(x2:(List (Int×Unit)))(x3 x4 x5:Int)(x6:Xy1)(x7:Int)(x8 x9:Bool)(x10 x11:Int)(x12:Xy1)(x13 x14:Int)(x15:Bool):Option (List (Bool×Unit)×Int×Unit):=itr Zud prog 136 F136 n 28 (x0,x1,x2,x3,x4,x5,x6,x7,x8,x9,x10,x11,x12,x13,x14,x15,())
noncomputable def Zl (n:Nat)(x0:Bool)(x1:(List (Bool×Unit)))(x2:(List (Int×Unit)))(x3 x4:Int)(x5:Xy1)(x6:Int)(x7:Bool)(x8:Xy1)(x9 x10:Int)(x11 x12:Bool):Option (List (Bool×Unit)×Int×Unit):=itr Zud prog 136 F136 n 40 (x0,x1,x2,x3,x4,x5,x6,x7,x8,x9,x10,x11,x12,())
theorem Zz7 a0:Eq (Znu a0) <| Z7 fuel a0 ([]) a0 (ofNat a0.length) 0:=mkE (by kernel_rfl)
theorem Zmy n x0 x1 x2 x3 x4:Eq (Z7 (n+1) x0 x1 x2 x3 x4) <| bif x4<x3 then bif 0≤x4 then match x2[x4.toNat]? with | none=>none | some e0=>bif e0.1≤4 then bif Zg (x1.length+1) 1 then Z7 n x0 (x1++[(false,())]) x2 x3 (wrap .i64 (x4+1)) else none else bif e0.1==5 then Yb n x0 x1 x4 true false false ([(e0.2.2.1,()),(e0.2.2.2.1,())]) 1 x2 x3 x4 else bif e0.1==6 then Yb n x0 x1 x4 false true true ([(e0.2.2.1,()),(e0.2.2.2.1,())]) 1 x2 x3 x4 else bif e0.1≤11 then Yb n x0 x1 x4 true false false ([(e0.2.2.1,()),(e0.2.2.2.1,())]) (ofNat (List.length [(e0.2.2.1,()),(e0.2.2.2.1,())])) x2 x3 x4 else bif e0.1≤15 then Yb n x0 x1 x4 true false true ([(e0.2.2.1,()),(e0.2.2.2.1,())]) (ofNat (List.length [(e0.2.2.1,()),(e0.2.2.2.1,())])) x2 x3 x4 else bif e0.1≤17 then Yb n x0 x1 x4 true true true ([(e0.2.2.1,()),(e0.2.2.2.1,())]) (ofNat (List.length [(e0.2.2.1,()),(e0.2.2.2.1,())])) x2 x3 x4 else Yb n x0 x1 x4 false true true ([(e0.2.2.1,()),(e0.2.2.2.1,())]) (ofNat (List.length [(e0.2.2.1,()),(e0.2.2.2.1,())])) x2 x3 x4 else none else some (x1,ofNat x0.length,()):=mkI (by kernel_rfl)
theorem Zuf n x0 x1 x2 x3 x4 x5 x6 x7 x8 x9 x10:Eq (Yb (n+1) x0 x1 x2 x3 x4 x5 x6 x7 x8 x9 x10) <| bif x3 then Z5 n false x1 x6 (ofNat x7.toNat) (ofNat x7.toNat) 0 x0 x2 x4 x5 0 (ofNat x7.toNat) x8 x9 x10 true else bif x4 then Zl n true x1 (List.take x7.toNat (List.drop 0 x6)) (ofNat x7.toNat) 0 x0 x2 x5 x8 x9 x10 true true else some ([],x2,()):=mkI (by kernel_rfl)
theorem Zlf n x0 x1 x2 x3 x4 x5 x6 x7 x8 x9 x10 x11 x12 x13 x14 x15:Eq (Z5 (n+1) x0 x1 x2 x3 x4 x5 x6 x7 x8 x9 x10 x11 x12 x13 x14 x15) <| let k1:=bif x8 then Zl n true x1 (List.take x11.toNat (List.drop x10.toNat x2)) (ofNat x11.toNat) 0 x6 x7 x9 x12 x13 x14 true true else some ([],x7,());bif x5<x4 then bif 0≤x5 then bif x5.toNat<x3.toNat then match x2[0+x5.toNat]? with | none=>none | some e0=>bif 0≤e0.1 then bif e0.1.toNat<x1.length then match x1[e0.1.toNat]? with | none=>none | some e1=>bif !e1.1==x0 then bif x15 then k1 else k1 else Z5 n x0 x1 x2 (ofNat x3.toNat) x4 (wrap .i64 (x5+1)) x6 x7 x8 x9 (ofNat x10.toNat) (ofNat x11.toNat) x12 x13 x14 x15 else none else none else none else none else bif x15 then bif Zg (x1.length+List.length [(x9,())]) 1 then Z7 n x6 (x1++[(x9,())]) x12 x13 (wrap .i64 (x14+1)) else none else k1:=mkI (by kernel_rfl)
theorem Zlg n x0 x1 x2 x3 x4 x5 x6 x7 x8 x9 x10 x11 x12:Eq (Zl (n+1) x0 x1 x2 x3 x4 x5 x6 x7 x8 x9 x10 x11 x12) <| let k1:=bif Zg (x1.length+List.length [(x7,())]) 1 then Z7 n x5 (x1++[(x7,())]) x8 x9 (wrap .i64 (x10+1)) else none;bif x4<x3 then bif 0≤x4 then match x2[x4.toNat]? with | none=>none | some e0=>bif 0≤e0.1 then bif e0.1.toNat<x1.length then match x1[e0.1.toNat]? with | none=>none | some e1=>bif !e1.1==x0 then bif x11 then bif x12 then some ([],x6,()) else some ([],x6,()) else k1 else Zl n x0 x1 x2 x3 (wrap .i64 (x4+1)) x5 x6 x7 x8 x9 x10 x11 x12 else none else none else none else bif x11 then bif x12 then k1 else some ([],x6,()) else k1:=mkI (by kernel_rfl)
noncomputable def Yix:Tb:=[(76,Z66),(136,Z67)]
def F116:TFun:=⟨[],[],[.c (.sl Xq1)],[.c (.p db),.c (.p di),.c (.p di)],qc [qn 2,qb,qi,qi,qn 25],[],[],0⟩
noncomputable def Z44:=mkC Yix prog 116 F116
theorem Ylm:Z44.ok prog 116:=mkO ⟨ok76,Yiw,trivial⟩ (by kernel_rfl)
noncomputable def Zug (a0:Xy1):Option (Bool×Int×Int×Unit):=Z44.fn (a0,())
theorem Z45 a0:Eq (Zug a0) <| match Zeh a0 with | none=>none | some e0=>bif e0.1 !=0 then some (false,0,e0.1,()) else match Znu a0 with | none=>none | some e1=>bif e1.2.1<ofNat a0.length then some (false,e1.2.1,42,()) else bif 0≤wrap .i64 (e1.2.1 - 1) then match e1.1[toNat (wrap .i64 (e1.2.1 - 1))]? with | none=>none | some e2=>some (e2.1,wrap .i64 (e1.2.1 - 1),0,()) else none:=mkE (by kernel_rfl)
noncomputable def Yln:Tb:=[(116,Z44)]
def F79:TFun:=⟨[],[],[.c (.sl Xq1),.c db],[.c (.p di),.c (.p di)],qc [qn 4,qi,qi,qn 18],[],[],0⟩
noncomputable def Z68:=mkC Yln prog 79 F79
theorem ok79:Z68.ok prog 79:=mkO ⟨Ylm,trivial⟩ (by kernel_rfl)
noncomputable def Zh8 (a0:Xy1)(a1:Bool):Option (Int×Int×Unit):=Z68.fn (a0,a1,())
theorem Zz8 a0 a1:Eq (Zh8 a0 a1) <| match Zug a0 with | none=>none | some e0=>bif e0.2.2.1==0 then bif !e0.1==a1 then some (e0.2.1,42,()) else some e0.2 else some e0.2:=mkE (by kernel_rfl)
noncomputable def Ylo:Tb:=[(79,Z68)]
def F57:TFun:=⟨[],[],[.c (.sl Xq1)],[.c (.p di),.c (.p di)],qc [qn 2,qi,qi,qn 4],[],[],0⟩
noncomputable def Yb7:=mkC Ylo prog 57 F57
theorem ok57:Yb7.ok prog 57:=mkO ⟨ok79,trivial⟩ (by kernel_rfl)
noncomputable def Zh9 (a0:Xy1):Option (Int×Int×Unit):=Yb7.fn (a0,())
theorem Zuh a0:Eq (Zh9 a0) <| match Zh8 a0 false with | none=>none | some e0=>some e0:=mkE (by kernel_rfl)
noncomputable def Ylp:Tb:=[(79,Z68)]
def F58:TFun:=⟨[],[],[.c (.sl Xq1)],[.c (.p di),.c (.p di)],qc [qn 2,qi,qi,qn 4],[],[],0⟩
noncomputable def Yb8:=mkC Ylp prog 58 F58
theorem ok58:Yb8.ok prog 58:=mkO ⟨ok79,trivial⟩ (by kernel_rfl)
noncomputable def Zgl (a0:Xy1):Option (Int×Int×Unit):=Yb8.fn (a0,())
theorem Zwr a0:Eq (Zgl a0) <| match Zh8 a0 true with | none=>none | some e0=>some e0:=mkE (by kernel_rfl)
noncomputable def Ylq:Tb:=[(55,Yb6),(57,Yb7),(58,Yb8)]
def F38:TFun:=⟨[],[],[.a [.int .u8,.sl Xq1,.sl [.int .i64],.bool,.sl Xq1,.int .u8,.int .i64,.int .i64,.bool,.int .u8]],[.c (.p di),.c (.p di)],qc [qn 2,qi,qi,qn 16],[(11,[4]),(7,[56])],[],8⟩
noncomputable def Yb9:=mkC Ylq prog 38 F38
theorem ok38:Yb9.ok prog 38:=mkO ⟨ok55,ok57,ok58,trivial⟩ (by kernel_rfl)
noncomputable def Zc7 (a0:Xy2):Option (Int×Int×Unit):=Yb9.fn (a0,())
theorem Zui a0:Eq (Zc7 a0) <| match Zg3 a0 with | none=>none | some e0=>bif e0.1 !=0 then some (0,e0.1,()) else let k1:Option (Int×Int×Unit):=some (0,0,());bif ofNat a0.2.1.length==0 then bif ofNat a0.2.2.2.2.1.length==0 then k1 else match Zgl a0.2.2.2.2.1 with | none=>none | some e1=>bif e1.2.1 !=0 then bif 0≤e1.1 then match a0.2.2.2.2.1[e1.1.toNat]? with | none=>none | some e2=>some (e2.2.2.2.2.1,e1.2.1,()) else none else k1 else match Zh9 a0.2.1 with | none=>none | some e1=>bif e1.2.1 !=0 then bif 0≤e1.1 then match a0.2.1[e1.1.toNat]? with | none=>none | some e2=>some (e2.2.2.2.2.1,e1.2.1,()) else none else bif ofNat a0.2.2.2.2.1.length==0 then k1 else match Zgl a0.2.2.2.2.1 with | none=>none | some e2=>bif e2.2.1 !=0 then bif 0≤e2.1 then match a0.2.2.2.2.1[e2.1.toNat]? with | none=>none | some e3=>some (e3.2.2.2.2.1,e2.2.1,()) else none else k1:=mkE (by kernel_rfl)
end Tg
