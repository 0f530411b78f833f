import Derived.Test.YtfnhchmemplhaaaGreatVT
import Derived.Test.YtfnhchmemplhaaaGreatHS
/- Functions of the code, told plainly and checked by the kernel. -/
set_option linter.unusedVariables false
set_option linter.unusedSimpArgs false
set_option maxRecDepth 100000
namespace Tg
open Go.Abs hiding fuel
open Go.Proofs.Tryz (prog)
open Int (ofNat toNat)
open Go.IntKind (wrap)
noncomputable def tab154:Tb:=[]
def F154:TFun:=⟨[],[],[.c (.int .u8)],[.c (.p di),.c (.p di)],qc [qn 2,qi,qi,qn 21],[],[],0⟩
noncomputable def con154:=mkC tab154 prog 154 F154
theorem ok154:con154.ok prog 154:=mkO trivial (by kernel_rfl)
noncomputable def nodes_Parts (a0:Int):Option (Int×Int×Unit):=con154.fn (a0,())
theorem nodes_Parts_c a0:Eq (nodes_Parts a0) <| let k1:Option (Int×Int×Unit):=bif a0==5 then some (1,0,()) else bif a0==6 then some (1,0,()) else bif a0≥7 then bif a0≤19 then some (2,0,()) else some (0,2,()) else some (0,2,());bif a0≥1 then bif a0≤4 then some (0,0,()) else k1 else k1:=mkE (by kernel_rfl)
noncomputable def tab134:Tb:=[(154,con154)]
def F134:TFun:=⟨[28,21,31],[(4,qc [qn 4,[.c (.rowN 207 3 Xq2)],[.c (.rowN 207 3 Xq2)],qn 9,[.c (.p (.sl Xq1))],qi,qi,qn 87]),(21,qc [qn 4,[.c (.rowN 207 3 Xq2)],[.c (.slN 207 3 Xq2)],qn 1,[.boxN 152 5 [.p (.int .u8),.p di,.p di,.p di,.p di]],qn 3,[.boxN 152 5 [.p (.int .u8),.p di,.p di,.p di,.p di]],[.boxN 207 3 [.p di,.p di,.p di]],qn 2,[.c (.p (.sl Xq1))],qi,qi,qn 87]),(23,qc [qn 4,[.c (.rowN 207 3 Xq2)],[.c (.slN 207 3 Xq2)],qn 1,[.boxN 152 5 [.p (.int .u8),.p di,.p di,.p di,.p di]],qn 3,[.boxN 152 5 [.p (.int .u8),.p di,.p di,.p di,.p di]],[.boxN 207 3 [.p di,.p di,.p di]],qn 2,[.c (.p (.sl Xq1))],qi,qi,qn 34,[.c (.slR 1)],qi,qi,qn 50]),(28,qc [qn 4,[.c (.rowN 207 3 Xq2)],[.c (.slN 207 3 Xq2)],qn 1,[.boxN 152 5 [.p (.int .u8),.p di,.p di,.p di,.p di]],qn 3,[.boxN 152 5 [.p (.int .u8),.p di,.p di,.p di,.p di]],[.boxN 207 3 [.p di,.p di,.p di]],qn 1,[.boxN 207 3 [.any,.p di,.p di]],[.c (.p (.sl Xq1))],qi,qi,qn 34,[.c (.slR 1)],qi,qi,qn 50]),(31,qc [qn 4,[.c (.rowN 207 3 Xq2)],[.c (.slN 207 3 Xq2)],qn 1,[.boxN 152 5 [.p (.int .u8),.p di,.p di,.p di,.p di]],qn 3,[.boxN 152 5 [.p (.int .u8),.p di,.p di,.p di,.p di]],[.boxN 207 3 [.p di,.p di,.p di]],qn 2,[.c (.p (.sl Xq1))],qi,qi,qn 87])],[.c (.sl Xq1)],[.c (.s 207 3 Xq2),.c (.p db)],qc [qn 2,[.c (.rowN 207 3 Xq2)],qb,qn 101],[(16,[155])],[],8⟩
noncomputable def con134:=mkC tab134 prog 134 F134
theorem ok134:con134.ok prog 134:=mkO ⟨ok154,trivial⟩ (by kernel_rfl)
noncomputable def con134p:TCon:=⟨con134.args,[.c (.p (.sl Xq2)),.c (.p db)],con134.fn⟩
theorem ok134p:con134p.ok prog 134:=TCon.frz (c:=con134) ok134 rfl
noncomputable def nodes_tops (a0:Xy1):Option (List Xy3×Bool×Unit):=con134.fn (a0,())
noncomputable def nodes_tops_i4 (n:Nat)(x0 x1:(List Xy3))(x2:Xy1)(x3 x4:Int):Option (List Xy3×Bool×Unit):=itr tab134 prog 134 F134 n 4 (x0,x1,x2,x3,x4,())
noncomputable def nodes_tops_i21 (n:Nat)(x0 x1:(List Xy3))(x2 x3 x4 x5 x6 x7 x8 x9 x10 x11 x12 x13 x14 x15:Int)(x16:Xy1)(x17 x18:Int):Option (List Xy3×Bool×Unit):=itr tab134 prog 134 F134 n 21 (x0,x1,x2,x3,x4,x5,x6,x7,x8,x9,x10,x11,x12,x13,x14,x15,x16,x17,x18,())
noncomputable def nodes_tops_i23 (n:Nat)(x0 x1:(List Xy3))(x2 x3 x4 x5 x6 x7 x8 x9 x10 x11 x12 x13 x14 x15:Int)(x16:Xy1)(x17 x18 x19 x20 x21 x22:Int):Option (List Xy3×Bool×Unit):=itr tab134 prog 134 F134 n 23 (x0,x1,x2,x3,x4,x5,x6,x7,x8,x9,x10,x11,x12,x13,x14,x15,x16,x17,x18,x19,x20,x21,x22,())
noncomputable def nodes_tops_i28 (n:Nat)(x0 x1:(List Xy3))(x2 x3 x4 x5 x6 x7 x8 x9 x10 x11 x12 x13 x14 x15 x16 x17:Int)(x18:Xy1)(x19 x20 x21 x22 x23 x24:Int):Option (List Xy3×Bool×Unit):=itr tab134 prog 134 F134 n 28 (x0,x1,x2,x3,x4,x5,x6,x7,x8,x9,x10,x11,x12,x13,x14,x15,x16,x17,x18,x19,x20,x21,x22,x23,x24,())
noncomputable def nodes_tops_i31 (n:Nat)(x0 x1:(List Xy3))(x2 x3 x4 x5 x6 x7 x8 x9 x10 x11 x12 x13 x14 x15:Int)(x16:Xy1)(x17 x18:Int):Option (List Xy3×Bool×Unit):=itr tab134 prog 134 F134 n 31 (x0,x1,x2,x3,x4,x5,x6,x7,x8,x9,x10,x11,x12,x13,x14,x15,x16,x17,x18,())
theorem nodes_tops_c a0:Eq (nodes_tops a0) <| nodes_tops_i4 fuel ([]) ([]) a0 (ofNat a0.length) 0:=mkE (by kernel_rfl)
theorem nodes_tops_c4 n x0 x1 x2 x3 x4:Eq (nodes_tops_i4 (n+1) x0 x1 x2 x3 x4) <| bif x4<x3 then bif 0≤x4 then match x2[x4.toNat]? with | none=>none | some e0=>match nodes_Parts e0.1 with | none=>none | some e1=>bif e1.2.1 !=0 then some (x0,false,()) else bif e1.1>ofNat x1.length then some (x0,false,()) else bif 0≤wrap .i64 (ofNat x1.length - e1.1) then bif decide (0≤toNat (wrap .i64 (ofNat x1.length - e1.1)))&&decide (toNat (wrap .i64 (ofNat x1.length - e1.1))≤x1.length) then bif 0≤wrap .i64 (ofNat x1.length - e1.1) then bif toNat (wrap .i64 (ofNat x1.length - e1.1))≤x1.length then bif toNat (wrap .i64 (ofNat x1.length - e1.1))=x1.length then nodes_tops_i23 n x0 x1 (ofNat (toNat (wrap .i64 (ofNat x1.length - e1.1)))) e0.1 e0.2.1 e0.2.2.1 e0.2.2.2.1 e0.2.2.2.2.1 e0.1 0 0 0 (tmm false (tmm true e0.2.2.2.2.1 0) 400) x4 1 1 x2 x3 x4 1 0 0 0 else nodes_tops_i23 n x0 x1 (ofNat (toNat (wrap .i64 (ofNat x1.length - e1.1)))) e0.1 e0.2.1 e0.2.2.1 e0.2.2.2.1 e0.2.2.2.2.1 e0.1 0 0 0 (tmm false (tmm true e0.2.2.2.2.1 0) 400) x4 1 1 x2 x3 x4 (ofNat (toNat (wrap .i64 (ofNat x1.length - e1.1)))) (ofNat (x1.length - toNat (wrap .i64 (ofNat x1.length - e1.1)))) (ofNat (x1.length - toNat (wrap .i64 (ofNat x1.length - e1.1)))) 0 else none else none else none else none else none else some (x0,ofNat x1.length==1,()):=mkI (by kernel_rfl)
theorem nodes_tops_c21 n x0 x1 x2 x3 x4 x5 x6 x7 x8 x9 x10 x11 x12 x13 x14 x15 x16 x17 x18:Eq (nodes_tops_i21 (n+1) x0 x1 x2 x3 x4 x5 x6 x7 x8 x9 x10 x11 x12 x13 x14 x15 x16 x17 x18) <| bif x3==1 then nodes_tops_i31 n x0 x1 (ofNat x2.toNat) x3 x4 x5 x6 x7 x8 (tmm true x4 0) x10 x11 x12 x13 x14 x15 x16 x17 x18 else nodes_tops_i31 n x0 x1 (ofNat x2.toNat) x3 x4 x5 x6 x7 x8 x9 x10 x11 x12 x13 x14 x15 x16 x17 x18:=mkI (by kernel_rfl)
theorem nodes_tops_c23 n x0 x1 x2 x3 x4 x5 x6 x7 x8 x9 x10 x11 x12 x13 x14 x15 x16 x17 x18 x19 x20 x21 x22:Eq (nodes_tops_i23 (n+1) x0 x1 x2 x3 x4 x5 x6 x7 x8 x9 x10 x11 x12 x13 x14 x15 x16 x17 x18 x19 x20 x21 x22) <| bif x22<x21 then bif 0≤x22 then bif x22.toNat<x20.toNat then match x1[x19.toNat+x22.toNat]? with | none=>none | some e0=>bif x22==0 then nodes_tops_i28 n x0 x1 (ofNat x2.toNat) x3 x4 x5 x6 x7 x8 x9 e0.1 x11 x12 x13 x14 x15 e0.2.1 e0.2.2.1 x16 x17 x18 (ofNat x19.toNat) (ofNat x20.toNat) x21 x22 else nodes_tops_i28 n x0 x1 (ofNat x2.toNat) x3 x4 x5 x6 x7 x8 x9 x10 e0.1 x12 x13 x14 x15 e0.2.1 e0.2.2.1 x16 x17 x18 (ofNat x19.toNat) (ofNat x20.toNat) x21 x22 else none else none else nodes_tops_i21 n x0 x1 (ofNat x2.toNat) x3 x4 x5 x6 x7 x8 x9 x10 x11 x12 x13 x14 x15 x16 x17 x18:=mkI (by kernel_rfl)
theorem nodes_tops_c28 n x0 x1 x2 x3 x4 x5 x6 x7 x8 x9 x10 x11 x12 x13 x14 x15 x16 x17 x18 x19 x20 x21 x22 x23 x24:Eq (nodes_tops_i28 (n+1) x0 x1 x2 x3 x4 x5 x6 x7 x8 x9 x10 x11 x12 x13 x14 x15 x16 x17 x18 x19 x20 x21 x22 x23 x24) <| nodes_tops_i23 n x0 x1 (ofNat x2.toNat) x3 x4 x5 x6 x7 x8 x9 x10 x11 x12 x13 (wrap .i64 (x14+x16)) (tmm true x15 (wrap .i64 (x17+1))) x18 x19 x20 (ofNat x21.toNat) (ofNat x22.toNat) x23 (wrap .i64 (x24+1)):=mkI (by kernel_rfl)
theorem nodes_tops_c31 n x0 x1 x2 x3 x4 x5 x6 x7 x8 x9 x10 x11 x12 x13 x14 x15 x16 x17 x18:Eq (nodes_tops_i31 (n+1) x0 x1 x2 x3 x4 x5 x6 x7 x8 x9 x10 x11 x12 x13 x14 x15 x16 x17 x18) <| bif !(x8==x3&&(x9==x4&&(x10==x5&&(x11==x6&&(x12==x7&&true))))) then some (x0,false,()) else bif decide (x2.toNat≤x1.length)&&bigOk (x2.toNat+List.length [(x13,x14,x15,())]) 24 then bif bigOk (x0.length+List.length [(x13,x14,x15,())]) 24 then nodes_tops_i4 n (x0++[(x13,x14,x15,())]) (List.take x2.toNat x1++[(x13,x14,x15,())]) x16 x17 (wrap .i64 (x18+1)) else none else none:=mkI (by kernel_rfl)
noncomputable def tab112:Tb:=[(134,con134p)]
def F112:TFun:=⟨[],[],[.c (.sl Xq1)],[.c (.p (.sl Xq2)),.c (.p di)],qc [qn 2,[.c (.p (.sl Xq2))],qi,qn 21],[],[],0⟩
noncomputable def con112:=mkC tab112 prog 112 F112
theorem ok112:con112.ok prog 112:=mkO ⟨ok134p,trivial⟩ (by kernel_rfl)
noncomputable def nodes_check (a0:Xy1):Option (List Xy3×Int×Unit):=con112.fn (a0,())
theorem nodes_check_c a0:Eq (nodes_check a0) <| bif ofNat a0.length>60 then some ([],4,()) else match nodes_tops a0 with | none=>none | some e0=>bif !e0.2.1 then some ([],8,()) else bif 0≤wrap .i64 (ofNat e0.1.length - 1) then match e0.1[toNat (wrap .i64 (ofNat e0.1.length - 1))]? with | none=>none | some e1=>bif e1.2.2.1>20 then some ([],34,()) else some (e0.1,0,()) else none:=mkE (by kernel_rfl)
noncomputable def tab76:Tb:=[(112,con112)]
def F76:TFun:=⟨[],[],[.c (.sl Xq1)],[.c (.p di)],qc [qn 2,qi,qn 8],[],[],0⟩
noncomputable def con76:=mkC tab76 prog 76 F76
theorem ok76:con76.ok prog 76:=mkO ⟨ok112,trivial⟩ (by kernel_rfl)
noncomputable def nodes_Check (a0:Xy1):Option (Int×Unit):=con76.fn (a0,())
theorem nodes_Check_c a0:Eq (nodes_Check a0) <| match nodes_check a0 with | none=>none | some e0=>some (e0.2.1,()):=mkE (by kernel_rfl)
noncomputable def tab78:Tb:=[]
def F78:TFun:=⟨[],[],[.a [.int .u8,.int .i64,.int .i64]],[.c (.p di)],qc [qn 2,qi,qn 37],[],[],0⟩
noncomputable def con78:=mkC tab78 prog 78 F78
theorem ok78:con78.ok prog 78:=mkO trivial (by kernel_rfl)
noncomputable def clauses_Window (a0:Xy3):Option (Int×Unit):=con78.fn (a0,())
theorem clauses_Window_c a0:Eq (clauses_Window a0) <| let k1:Option (Int×Unit):=some (8,());bif a0.2.1<1 then k1 else bif a0.2.1>1073741824 then k1 else bif a0.1==2 then bif a0.2.2.1≥1 then bif a0.2.2.1≤a0.2.1 then bif a0.2.1≤wrap .i64 (16*a0.2.2.1) then some (0,()) else k1 else k1 else k1 else let k2:Option (Int×Unit):=bif a0.2.2.1==0 then some (0,()) else k1;bif a0.1==1 then k2 else bif a0.1==3 then k2 else k1:=mkE (by kernel_rfl)
noncomputable def tab77:Tb:=[(115,con115)]
def F77:TFun:=⟨[],[(14,qc [[.c (.p (.sl [.int .i64]))],[.c (.fn 113 [])],qn 5,qi,qi,qn 19,[.c (.p (.sl [.int .i64]))],qn 19,qb,qn 9])],[.c (.sl [.int .i64]),.c db],[.c (.p di)],qc [qn 4,qi,qn 25],[(20,[113]),(10,[135]),(7,[114])],[(14,[9,30])],8⟩
noncomputable def con77:=mkC tab77 prog 77 F77
theorem ok77:con77.ok prog 77:=mkO ⟨ok115,trivial⟩ (by kernel_rfl)
noncomputable def clauses_Sources (a0:(List (Int×Unit)))(a1:Bool):Option (Int×Unit):=con77.fn (a0,a1,())
noncomputable def clauses_Sources_i14 (n:Nat)(x0:(List (Int×Unit)))(x1 x2:Int)(x3:(List (Int×Unit)))(x4:Bool):Option (Int×Unit):=itr tab77 prog 77 F77 n 14 (x0,x1,x2,x3,x4,())
theorem clauses_Sources_c a0 a1:Eq (clauses_Sources a0 a1) <| bif ofNat a0.length>4 then some (4,()) else bif ofNat a0.length==0 then some (8,()) else let k1:=clauses_Sources_i14 fuel a0 (ofNat a0.length) 0 a0 false;bif a1 then bif ofNat a0.length !=2 then some (8,()) else k1 else k1:=mkE (by kernel_rfl)
theorem clauses_Sources_c14 n x0 x1 x2 x3 x4:Eq (clauses_Sources_i14 (n+1) x0 x1 x2 x3 x4) <| bif x2<x1 then bif 0≤x2 then match x0[x2.toNat]? with | none=>none | some e0=>let k1:Option (Int×Unit):=bif x4 then some (8,()) else bif x2≥0 then some (8,()) else match clauses_distinct_int_ x3 with | none=>none | some e1=>bif e1.1<ofNat x3.length then some (43,()) else some (0,());bif e0.1<0 then k1 else bif e0.1≥4 then k1 else clauses_Sources_i14 n x0 x1 (wrap .i64 (x2+1)) x3 x4 else none else bif x4 then some (8,()) else match clauses_distinct_int_ x3 with | none=>none | some e0=>bif e0.1<ofNat x3.length then some (43,()) else some (0,()):=mkI (by kernel_rfl)
noncomputable def tab55:Tb:=[(76,con76),(77,con77),(78,con78)]
def F55:TFun:=⟨[4,12],[(4,qc [qn 1,[.boxN 27 10 [.any,.any,.p (.sl [.int .i64]),.p db,.p (.sl Xq1),.p (.int .u8),.p di,.p di,.any,.any]],qn 64]),(12,qc [qn 1,[.boxN 27 10 [.any,.any,.p (.sl [.int .i64]),.p db,.any,.p (.int .u8),.p di,.p di,.any,.any]],qn 64])],[.a [.int .u8,.sl Xq1,.sl [.int .i64],.bool,.sl Xq1,.int .u8,.int .i64,.int .i64,.bool,.int .u8]],[.c (.p di)],qc [qn 2,qi,qn 63],[],[],0⟩
noncomputable def con55:=mkC tab55 prog 55 F55
theorem ok55:con55.ok prog 55:=mkO ⟨ok76,ok77,ok78,trivial⟩ (by kernel_rfl)
noncomputable def clauses_Check (a0:Xy2):Option (Int×Unit):=con55.fn (a0,())
noncomputable def clauses_Check_i4 (n:Nat)(x0:(List (Int×Unit)))(x1:Bool)(x2:Xy1)(x3 x4 x5:Int):Option (Int×Unit):=itr tab55 prog 55 F55 n 4 (x0,x1,x2,x3,x4,x5,())
noncomputable def clauses_Check_i12 (n:Nat)(x0:(List (Int×Unit)))(x1:Bool)(x2 x3 x4:Int):Option (Int×Unit):=itr tab55 prog 55 F55 n 12 (x0,x1,x2,x3,x4,())
theorem clauses_Check_c a0:Eq (clauses_Check a0) <| bif a0.1<1 then some (8,()) else bif a0.1>4 then some (8,()) else let k1:Option (Int×Unit):=let k3:=clauses_Check_i4 fuel a0.2.2.1 a0.2.2.2.1 a0.2.2.2.2.1 a0.2.2.2.2.2.1 a0.2.2.2.2.2.2.1 a0.2.2.2.2.2.2.2.1;bif a0.1 !=1 then match nodes_Check a0.2.1 with | none=>none | some e0=>bif e0.1 !=0 then some (e0.1,()) else k3 else bif ofNat a0.2.1.length>0 then some (8,()) else k3;bif a0.2.2.2.2.2.2.2.2.2.1 !=1 then bif a0.2.2.2.2.2.2.2.2.2.1 !=2 then some (8,()) else k1 else k1:=mkE (by kernel_rfl)
theorem clauses_Check_c4 n x0 x1 x2 x3 x4 x5:Eq (clauses_Check_i4 (n+1) x0 x1 x2 x3 x4 x5) <| let k1:=clauses_Check_i12 n x0 x1 x3 x4 x5;bif ofNat x2.length>0 then match nodes_Check x2 with | none=>none | some e0=>bif e0.1 !=0 then some (e0.1,()) else k1 else k1:=mkI (by kernel_rfl)
theorem clauses_Check_c12 n x0 x1 x2 x3 x4:Eq (clauses_Check_i12 (n+1) x0 x1 x2 x3 x4) <| match clauses_Sources x0 x1 with | none=>none | some e0=>bif e0.1 !=0 then some (e0.1,()) else let k1:=match clauses_Window (x2,x3,x4,()) with | none=>none | some e1=>some (e1.1,());bif x1 then bif x2 !=1 then some (8,()) else k1 else k1:=mkI (by kernel_rfl)
noncomputable def tab136:Tb:=[]
def F136:TFun:=⟨[14],[(6,qc [[.c (.p (.sl Xq1))],qn 3,[.boxN 171 1 [.rowN 4 1 [.bool]]],[.fnS 156 [.ptr 0 0]],qn 6,[.c (.p (.sl Xq1))],qi,qi,qn 73]),(14,qc [[.c (.p (.sl Xq1))],qn 3,[.boxN 171 1 [.rowN 4 1 [.bool]]],[.fnS 156 [.ptr 0 0]],qi,qn 1,[.boxN 238 2 [.p db,.p db]],qb,[.c (.slN 3 1 [.int .i64])],qn 1,[.c (.p (.sl Xq1))],qi,qi,qn 73]),(28,qc [qb,qn 1,[.boxN 171 1 [.rowN 4 1 [.bool]]],qn 5,[.c (.slN 3 1 [.int .i64])],qi,qi,qn 10,[.c (.p (.sl Xq1))],qn 3,[.c (.ptr 0 0)],[.fnS 156 [.ptr 0 0]],qi,qn 1,[.boxN 238 2 [.any,.p db]],qb,[.c (.slR 2)],qn 1,[.c (.p (.sl Xq1))],qi,qi,qn 48,qb,qn 24]),(40,qc [qb,qn 1,[.boxN 171 1 [.rowN 4 1 [.bool]]],qn 5,[.c (.p (.sl [.int .i64]))],qi,qi,qn 10,[.c (.p (.sl Xq1))],qn 3,[.c (.ptr 0 0)],[.fnS 156 [.ptr 0 0]],qi,qn 2,qb,qn 2,[.c (.p (.sl Xq1))],qi,qi,qn 54,qb,qn 2,qb,qn 15])],[.c (.sl Xq1)],[.c (.s 4 1 [.bool]),.c (.p di)],qc [qn 2,[.c (.rowN 4 1 [.bool])],qi,qn 84],[(36,[156]),(24,[156])],[(28,[88]),(40,[88])],8⟩
noncomputable def con136:=mkC tab136 prog 136 F136
theorem ok136:con136.ok prog 136:=mkO trivial (by kernel_rfl)
noncomputable def con136p:TCon:=⟨con136.args,[.c (.p (.sl [.bool])),.c (.p di)],con136.fn⟩
theorem ok136p:con136p.ok prog 136:=TCon.frz (c:=con136) ok136 rfl
noncomputable def kinds_told (a0:Xy1):Option (List (Bool×Unit)×Int×Unit):=con136.fn (a0,())
noncomputable def kinds_told_i6 (n:Nat)(x0:Xy1)(x1:(List (Bool×Unit)))(x2:Xy1)(x3 x4:Int):Option (List (Bool×Unit)×Int×Unit):=itr tab136 prog 136 F136 n 6 (x0,x1,x2,x3,x4,())
noncomputable def kinds_told_i14 (n:Nat)(x0:Xy1)(x1:(List (Bool×Unit)))(x2:Int)(x3 x4 x5:Bool)(x6:(List (Int×Unit)))(x7:Int)(x8:Xy1)(x9 x10:Int):Option (List (Bool×Unit)×Int×Unit):=itr tab136 prog 136 F136 n 14 (x0,x1,x2,x3,x4,x5,x6,x7,x8,x9,x10,())
noncomputable def kinds_told_i28 (n:Nat)(x0:Bool)(x1:(List (Bool×Unit)))(x2:(List (Int×Unit)))(x3 x4 x5:Int)(x6:Xy1)(x7:Int)(x8 x9:Bool)(x10 x11:Int)(x12:Xy1)(x13 x14:Int)(x15:Bool):Option (List (Bool×Unit)×Int×Unit):=itr tab136 prog 136 F136 n 28 (x0,x1,x2,x3,x4,x5,x6,x7,x8,x9,x10,x11,x12,x13,x14,x15,())
noncomputable def kinds_told_i40 (n:Nat)(x0:Bool)(x1:(List (Bool×Unit)))(x2:(List (Int×Unit)))(x3 x4:Int)(x5:Xy1)(x6:Int)(x7:Bool)(x8:Xy1)(x9 x10:Int)(x11 x12:Bool):Option (List (Bool×Unit)×Int×Unit):=itr tab136 prog 136 F136 n 40 (x0,x1,x2,x3,x4,x5,x6,x7,x8,x9,x10,x11,x12,())
theorem kinds_told_c a0:Eq (kinds_told a0) <| kinds_told_i6 fuel a0 ([]) a0 (ofNat a0.length) 0:=mkE (by kernel_rfl)
theorem kinds_told_c6 n x0 x1 x2 x3 x4:Eq (kinds_told_i6 (n+1) x0 x1 x2 x3 x4) <| bif x4<x3 then bif 0≤x4 then match x2[x4.toNat]? with | none=>none | some e0=>bif e0.1≤4 then bif bigOk (x1.length+1) 1 then kinds_told_i6 n x0 (x1++[(false,())]) x2 x3 (wrap .i64 (x4+1)) else none else bif e0.1==5 then kinds_told_i14 n x0 x1 x4 true false false ([(e0.2.2.1,()),(e0.2.2.2.1,())]) 1 x2 x3 x4 else bif e0.1==6 then kinds_told_i14 n x0 x1 x4 false true true ([(e0.2.2.1,()),(e0.2.2.2.1,())]) 1 x2 x3 x4 else bif e0.1≤11 then kinds_told_i14 n x0 x1 x4 true false false ([(e0.2.2.1,()),(e0.2.2.2.1,())]) (ofNat (List.length [(e0.2.2.1,()),(e0.2.2.2.1,())])) x2 x3 x4 else bif e0.1≤15 then kinds_told_i14 n x0 x1 x4 true false true ([(e0.2.2.1,()),(e0.2.2.2.1,())]) (ofNat (List.length [(e0.2.2.1,()),(e0.2.2.2.1,())])) x2 x3 x4 else bif e0.1≤17 then kinds_told_i14 n x0 x1 x4 true true true ([(e0.2.2.1,()),(e0.2.2.2.1,())]) (ofNat (List.length [(e0.2.2.1,()),(e0.2.2.2.1,())])) x2 x3 x4 else kinds_told_i14 n x0 x1 x4 false true true ([(e0.2.2.1,()),(e0.2.2.2.1,())]) (ofNat (List.length [(e0.2.2.1,()),(e0.2.2.2.1,())])) x2 x3 x4 else none else some (x1,ofNat x0.length,()):=mkI (by kernel_rfl)
theorem kinds_told_c14 n x0 x1 x2 x3 x4 x5 x6 x7 x8 x9 x10:Eq (kinds_told_i14 (n+1) x0 x1 x2 x3 x4 x5 x6 x7 x8 x9 x10) <| bif x3 then kinds_told_i28 n false x1 x6 (ofNat x7.toNat) (ofNat x7.toNat) 0 x0 x2 x4 x5 0 (ofNat x7.toNat) x8 x9 x10 true else bif x4 then kinds_told_i40 n true x1 (List.take x7.toNat (List.drop 0 x6)) (ofNat x7.toNat) 0 x0 x2 x5 x8 x9 x10 true true else some ([],x2,()):=mkI (by kernel_rfl)
theorem kinds_told_c28 n x0 x1 x2 x3 x4 x5 x6 x7 x8 x9 x10 x11 x12 x13 x14 x15:Eq (kinds_told_i28 (n+1) x0 x1 x2 x3 x4 x5 x6 x7 x8 x9 x10 x11 x12 x13 x14 x15) <| let k1:=bif x8 then kinds_told_i40 n true x1 (List.take x11.toNat (List.drop x10.toNat x2)) (ofNat x11.toNat) 0 x6 x7 x9 x12 x13 x14 true true else some ([],x7,());bif x5<x4 then bif 0≤x5 then bif x5.toNat<x3.toNat then match x2[0+x5.toNat]? with | none=>none | some e0=>bif 0≤e0.1 then bif e0.1.toNat<x1.length then match x1[e0.1.toNat]? with | none=>none | some e1=>bif !e1.1==x0 then bif x15 then k1 else k1 else kinds_told_i28 n x0 x1 x2 (ofNat x3.toNat) x4 (wrap .i64 (x5+1)) x6 x7 x8 x9 (ofNat x10.toNat) (ofNat x11.toNat) x12 x13 x14 x15 else none else none else none else none else bif x15 then bif bigOk (x1.length+List.length [(x9,())]) 1 then kinds_told_i6 n x6 (x1++[(x9,())]) x12 x13 (wrap .i64 (x14+1)) else none else k1:=mkI (by kernel_rfl)
theorem kinds_told_c40 n x0 x1 x2 x3 x4 x5 x6 x7 x8 x9 x10 x11 x12:Eq (kinds_told_i40 (n+1) x0 x1 x2 x3 x4 x5 x6 x7 x8 x9 x10 x11 x12) <| let k1:=bif bigOk (x1.length+List.length [(x7,())]) 1 then kinds_told_i6 n x5 (x1++[(x7,())]) x8 x9 (wrap .i64 (x10+1)) else none;bif x4<x3 then bif 0≤x4 then match x2[x4.toNat]? with | none=>none | some e0=>bif 0≤e0.1 then bif e0.1.toNat<x1.length then match x1[e0.1.toNat]? with | none=>none | some e1=>bif !e1.1==x0 then bif x11 then bif x12 then some ([],x6,()) else some ([],x6,()) else k1 else kinds_told_i40 n x0 x1 x2 x3 (wrap .i64 (x4+1)) x5 x6 x7 x8 x9 x10 x11 x12 else none else none else none else bif x11 then bif x12 then k1 else some ([],x6,()) else k1:=mkI (by kernel_rfl)
noncomputable def tab116:Tb:=[(76,con76),(136,con136p)]
def F116:TFun:=⟨[],[],[.c (.sl Xq1)],[.c (.p db),.c (.p di),.c (.p di)],qc [qn 2,qb,qi,qi,qn 25],[],[],0⟩
noncomputable def con116:=mkC tab116 prog 116 F116
theorem ok116:con116.ok prog 116:=mkO ⟨ok76,ok136p,trivial⟩ (by kernel_rfl)
noncomputable def kinds_Of (a0:Xy1):Option (Bool×Int×Int×Unit):=con116.fn (a0,())
theorem kinds_Of_c a0:Eq (kinds_Of a0) <| match nodes_Check a0 with | none=>none | some e0=>bif e0.1 !=0 then some (false,0,e0.1,()) else match kinds_told a0 with | none=>none | some e1=>bif e1.2.1<ofNat a0.length then some (false,e1.2.1,42,()) else bif 0≤wrap .i64 (e1.2.1 - 1) then match e1.1[toNat (wrap .i64 (e1.2.1 - 1))]? with | none=>none | some e2=>some (e2.1,wrap .i64 (e1.2.1 - 1),0,()) else none:=mkE (by kernel_rfl)
noncomputable def tab79:Tb:=[(116,con116)]
def F79:TFun:=⟨[],[],[.c (.sl Xq1),.c db],[.c (.p di),.c (.p di)],qc [qn 4,qi,qi,qn 18],[],[],0⟩
noncomputable def con79:=mkC tab79 prog 79 F79
theorem ok79:con79.ok prog 79:=mkO ⟨ok116,trivial⟩ (by kernel_rfl)
noncomputable def kinds_want (a0:Xy1)(a1:Bool):Option (Int×Int×Unit):=con79.fn (a0,a1,())
theorem kinds_want_c a0 a1:Eq (kinds_want a0 a1) <| match kinds_Of a0 with | none=>none | some e0=>bif e0.2.2.1==0 then bif !e0.1==a1 then some (e0.2.1,42,()) else some e0.2 else some e0.2:=mkE (by kernel_rfl)
noncomputable def tab57:Tb:=[(79,con79)]
def F57:TFun:=⟨[],[],[.c (.sl Xq1)],[.c (.p di),.c (.p di)],qc [qn 2,qi,qi,qn 4],[],[],0⟩
noncomputable def con57:=mkC tab57 prog 57 F57
theorem ok57:con57.ok prog 57:=mkO ⟨ok79,trivial⟩ (by kernel_rfl)
noncomputable def kinds_Number (a0:Xy1):Option (Int×Int×Unit):=con57.fn (a0,())
theorem kinds_Number_c a0:Eq (kinds_Number a0) <| match kinds_want a0 false with | none=>none | some e0=>some e0:=mkE (by kernel_rfl)
noncomputable def tab58:Tb:=[(79,con79)]
def F58:TFun:=⟨[],[],[.c (.sl Xq1)],[.c (.p di),.c (.p di)],qc [qn 2,qi,qi,qn 4],[],[],0⟩
noncomputable def con58:=mkC tab58 prog 58 F58
theorem ok58:con58.ok prog 58:=mkO ⟨ok79,trivial⟩ (by kernel_rfl)
noncomputable def kinds_Truth (a0:Xy1):Option (Int×Int×Unit):=con58.fn (a0,())
theorem kinds_Truth_c a0:Eq (kinds_Truth a0) <| match kinds_want a0 true with | none=>none | some e0=>some e0:=mkE (by kernel_rfl)
noncomputable def tab38:Tb:=[(55,con55),(57,con57),(58,con58)]
def F38:TFun:=⟨[],[],[.a [.int .u8,.sl Xq1,.sl [.int .i64],.bool,.sl Xq1,.int .u8,.int .i64,.int .i64,.bool,.int .u8]],[.c (.p di),.c (.p di)],qc [qn 2,qi,qi,qn 16],[(11,[4]),(7,[56])],[],8⟩
noncomputable def con38:=mkC tab38 prog 38 F38
theorem ok38:con38.ok prog 38:=mkO ⟨ok55,ok57,ok58,trivial⟩ (by kernel_rfl)
noncomputable def checks_Check (a0:Xy2):Option (Int×Int×Unit):=con38.fn (a0,())
theorem checks_Check_c a0:Eq (checks_Check a0) <| match clauses_Check a0 with | none=>none | some e0=>bif e0.1 !=0 then some (0,e0.1,()) else let k1:Option (Int×Int×Unit):=some (0,0,());bif ofNat a0.2.1.length==0 then bif ofNat a0.2.2.2.2.1.length==0 then k1 else match kinds_Truth a0.2.2.2.2.1 with | none=>none | some e1=>bif e1.2.1 !=0 then bif 0≤e1.1 then match a0.2.2.2.2.1[e1.1.toNat]? with | none=>none | some e2=>some (e2.2.2.2.2.1,e1.2.1,()) else none else k1 else match kinds_Number a0.2.1 with | none=>none | some e1=>bif e1.2.1 !=0 then bif 0≤e1.1 then match a0.2.1[e1.1.toNat]? with | none=>none | some e2=>some (e2.2.2.2.2.1,e1.2.1,()) else none else bif ofNat a0.2.2.2.2.1.length==0 then k1 else match kinds_Truth a0.2.2.2.2.1 with | none=>none | some e2=>bif e2.2.1 !=0 then bif 0≤e2.1 then match a0.2.2.2.2.1[e2.1.toNat]? with | none=>none | some e3=>some (e3.2.2.2.2.1,e2.2.1,()) else none else k1:=mkE (by kernel_rfl)
end Tg
