import Derived.Test.YtfnhchmemplhaaaGreatVb1
import Derived.Test.YtfnhchmemplhaaaGreatVb4
import Derived.Test.YtfnhchmemplhaaaGreatSP
/- Functions of the code, told plainly and checked by the kernel. -/
set_option linter.unusedVariables false
set_option linter.unusedSimpArgs false
set_option maxRecDepth 100000
namespace Tg
open Go.Abs hiding fuel
open Go.Proofs.Tryz (prog)
open Int (ofNat toNat)
open Go.IntKind (wrap)
noncomputable def tab70:Tb:=[]
def F70:TFun:=⟨[],[(4,qc [qn 1,qi,qb,[.boxN 31 2 [.any,.p (.sl Yq5)]],qn 3,[.c (.rowN 3 1 Yq7)],qi,qn 52]),(9,qc [qn 1,qi,qb,[.boxN 31 2 [.any,.p (.sl Yq5)]],qn 3,[.c (.rowN 3 1 Yq7)],qi,qi,qn 51])],[.a [.sl Yq8,.sl Yq5],.c di,.c db],[.c (.s 3 1 Yq7)],qc [qn 6,[.c (.rowN 3 1 Yq7)],qn 54],[],[],0⟩
noncomputable def con70:=mkC tab70 prog 70 F70
theorem ok70:con70.ok prog 70:=mkO trivial (by kernel_rfl)
noncomputable def con70p:TCon:=⟨con70.args,[.c (.p (.sl Yq7))],con70.fn⟩
theorem ok70p:con70p.ok prog 70:=TCon.frz (c:=con70) ok70 rfl
noncomputable def ref35_joined (a0:(List Yy7×List (Int×Int×Int×Int×Int×Unit)×Unit))(a1:Int)(a2:Bool):Option Yy9:=con70.fn (a0,a1,a2,())
noncomputable def ref35_joined_i4 (n:Nat)(x0:Int)(x1:Bool)(x2:Yy4)(x3:Yy6)(x4:Int):Option Yy9:=itr tab70 prog 70 F70 n 4 (x0,x1,x2,x3,x4,())
noncomputable def ref35_joined_i9 (n:Nat)(x0:Int)(x1:Bool)(x2:Yy4)(x3:Yy6)(x4 x5:Int):Option Yy9:=itr tab70 prog 70 F70 n 9 (x0,x1,x2,x3,x4,x5,())
theorem ref35_joined_c a0 a1 a2:Eq (ref35_joined a0 a1 a2) <| ref35_joined_i4 fuel a1 a2 a0.2.1 ([]) 0:=mkE (by kernel_rfl)
theorem ref35_joined_c4 n x0 x1 x2 x3 x4:Eq (ref35_joined_i4 (n+1) x0 x1 x2 x3 x4) <| bif x4<20 then ref35_joined_i9 n x0 x1 x2 x3 x4 0 else some (x3,()):=mkI (by kernel_rfl)
theorem ref35_joined_c9 n x0 x1 x2 x3 x4 x5:Eq (ref35_joined_i9 (n+1) x0 x1 x2 x3 x4 x5) <| bif x5<ofNat x2.length then ix x2 x5 fun e0=>let k1:=let k3:=ref35_joined_i9 n x0 x1 x2 x3 x4 (wrap .i64 (x5+1));bif !x1 then bif e0.1==x0 then bif e0.2.1==x4 then bif bigOk (x3.length+List.length [(x5,())]) 8 then ref35_joined_i9 n x0 x1 x2 (x3++[(x5,())]) x4 (wrap .i64 (x5+1)) else none else k3 else k3 else k3;bif x1 then bif e0.2.2.1==x0 then bif e0.2.2.2.1==x4 then bif bigOk (x3.length+List.length [(x5,())]) 8 then ref35_joined_i9 n x0 x1 x2 (x3++[(x5,())]) x4 (wrap .i64 (x5+1)) else none else k1 else k1 else k1 else ref35_joined_i4 n x0 x1 x2 x3 (wrap .i64 (x4+1)):=mkI (by kernel_rfl)
noncomputable def tab49:Tb:=[(70,con70p)]
def F49:TFun:=⟨[],[],[.a Yq1,.c di],[.c (.p (.sl Yq7))],qc [qn 4,[.c (.p (.sl Yq7))],qn 4],[],[],0⟩
noncomputable def con49:=mkC tab49 prog 49 F49
theorem ok49:con49.ok prog 49:=mkO ⟨ok70p,trivial⟩ (by kernel_rfl)
noncomputable def ref35_Outs (a0:Yy1)(a1:Int):Option Yy9:=con49.fn (a0,a1,())
theorem ref35_Outs_c a0 a1:Eq (ref35_Outs a0 a1) <| (ref35_joined (a0.2.2.2.2.2.2.2.2.2.2.1,a0.2.2.2.2.2.2.2.2.2.2.2.1,()) a1 false).bind fun e0=>some (e0.1,()):=mkE (by kernel_rfl)
noncomputable def tab68:Tb:=[(70,con70p)]
def F68:TFun:=⟨[],[],[.a Yq1,.c di],[.c (.p (.sl Yq7))],qc [qn 4,[.c (.p (.sl Yq7))],qn 4],[],[],0⟩
noncomputable def con68:=mkC tab68 prog 68 F68
theorem ok68:con68.ok prog 68:=mkO ⟨ok70p,trivial⟩ (by kernel_rfl)
noncomputable def ref35_Ins (a0:Yy1)(a1:Int):Option Yy9:=con68.fn (a0,a1,())
theorem ref35_Ins_c a0 a1:Eq (ref35_Ins a0 a1) <| (ref35_joined (a0.2.2.2.2.2.2.2.2.2.2.1,a0.2.2.2.2.2.2.2.2.2.2.2.1,()) a1 true).bind fun e0=>some (e0.1,()):=mkE (by kernel_rfl)
noncomputable def tab46:Tb:=[(67,con67),(49,con49),(68,con68)]
def F46:TFun:=⟨[7],[(7,qc [qn 1,qi,[.boxN 35 14 [.p (.int .u8),.p (.sl Yq4),.p (.sl Yq7),.p db,.p (.sl Yq4),.p (.int .u8),.p di,.p di,.p db,.p (.int .u8),.p (.sl Yq8),.p (.sl Yq5),.p (.sl Yq2),.p (.sl Yq3)]],qn 2,[.boxN 73 9 [.p (.int .u8),.any,.any,.any,.p (.sl Yq7),.any,.any,.any,.any]],qi,qn 100]),(9,qc [qn 1,qi,[.boxN 35 14 [.p (.int .u8),.p (.sl Yq4),.p (.sl Yq7),.p db,.p (.sl Yq4),.p (.int .u8),.p di,.p di,.p db,.p (.int .u8),.p (.sl Yq8),.p (.sl Yq5),.p (.sl Yq2),.p (.sl Yq3)]],qn 2,[.boxN 73 9 [.p (.int .u8),.any,.any,.p (.sl Yq6),.p (.sl Yq7),.any,.any,.any,.any]],qi,qi,qn 99])],[.a Yq1,.c di],[.c (.p db)],qc [qn 4,qb,qn 102],[],[],0⟩
noncomputable def con46:=mkC tab46 prog 46 F46
theorem ok46:con46.ok prog 46:=mkO ⟨ok67,ok49,ok68,trivial⟩ (by kernel_rfl)
noncomputable def ref35_tasked (a0:Yy1)(a1:Int):Option (Bool×Unit):=con46.fn (a0,a1,())
noncomputable def ref35_tasked_i7 (n:Nat)(x0 x1:Int)(x2:Yy4)(x3:Yy6)(x4:Bool)(x5:Yy4)(x6 x7 x8:Int)(x9:Bool)(x10:Int)(x11:(List Yy7))(x12:Yy4)(x13:(List Yy2))(x14:(List Yy3))(x15:Int)(x16:Yy6)(x17:Int):Option (Bool×Unit):=itr tab46 prog 46 F46 n 7 (x0,x1,x2,x3,x4,x5,x6,x7,x8,x9,x10,x11,x12,x13,x14,x15,x16,x17,())
noncomputable def ref35_tasked_i9 (n:Nat)(x0 x1:Int)(x2:Yy4)(x3:Yy6)(x4:Bool)(x5:Yy4)(x6 x7 x8:Int)(x9:Bool)(x10:Int)(x11:(List Yy7))(x12:Yy4)(x13:(List Yy2))(x14:(List Yy3))(x15:Int)(x16:Yy5)(x17:Yy6)(x18 x19:Int):Option (Bool×Unit):=itr tab46 prog 46 F46 n 9 (x0,x1,x2,x3,x4,x5,x6,x7,x8,x9,x10,x11,x12,x13,x14,x15,x16,x17,x18,x19,())
theorem ref35_tasked_c a0 a1:Eq (ref35_tasked a0 a1) <| ix a0.2.2.2.2.2.2.2.2.2.2.2.2.1 a1 fun e0=>ix a0.2.2.2.2.2.2.2.2.2.2.1 a1 fun e1=>bif !(e0.1==e1.1&&(e0.2.1==e1.2.1&&true)) then some (false,()) else (ref27_Check e0).bind fun e2=>bif e2.1 !=0 then some (false,()) else (ref35_Outs a0 a1).bind fun e3=>ref35_tasked_i9 fuel a1 a0.1 a0.2.1 a0.2.2.1 a0.2.2.2.1 a0.2.2.2.2.1 a0.2.2.2.2.2.1 a0.2.2.2.2.2.2.1 a0.2.2.2.2.2.2.2.1 a0.2.2.2.2.2.2.2.2.1 a0.2.2.2.2.2.2.2.2.2.1 a0.2.2.2.2.2.2.2.2.2.2.1 a0.2.2.2.2.2.2.2.2.2.2.2.1 a0.2.2.2.2.2.2.2.2.2.2.2.2.1 a0.2.2.2.2.2.2.2.2.2.2.2.2.2.1 e0.1 e0.2.2.2.1 e0.2.2.2.2.1 (ofNat e3.1.length) 0:=mkE (by kernel_rfl)
theorem ref35_tasked_c7 n x0 x1 x2 x3 x4 x5 x6 x7 x8 x9 x10 x11 x12 x13 x14 x15 x16 x17:Eq (ref35_tasked_i7 (n+1) x0 x1 x2 x3 x4 x5 x6 x7 x8 x9 x10 x11 x12 x13 x14 x15 x16 x17) <| let k1:=(ref35_Ins (x1,x2,x3,x4,x5,x6,x7,x8,x9,x10,x11,x12,x13,x14,()) x0).bind fun e0=>let k3:=bif x15 !=5 then some (true,()) else bif ofNat e0.1.length==2 then some (x4,()) else some (false,());bif x15 !=4 then k3 else bif ofNat x16.length==ofNat e0.1.length then bif !x4 then k3 else some (false,()) else some (false,());bif x15==2 then let k4:=bif x17 !=2 then some (false,()) else bif !x10==2 then some (false,()) else k1;bif x17 !=1 then k4 else bif x10==2 then k4 else k1 else k1:=mkI (by kernel_rfl)
theorem ref35_tasked_c9 n x0 x1 x2 x3 x4 x5 x6 x7 x8 x9 x10 x11 x12 x13 x14 x15 x16 x17 x18 x19:Eq (ref35_tasked_i9 (n+1) x0 x1 x2 x3 x4 x5 x6 x7 x8 x9 x10 x11 x12 x13 x14 x15 x16 x17 x18 x19) <| bif x19<ofNat x16.length then ix x16 x19 fun e0=>bif e0.1≥x18 then some (false,()) else ref35_tasked_i9 n x0 x1 x2 x3 x4 x5 x6 x7 x8 x9 x10 x11 x12 x13 x14 x15 x16 x17 x18 (wrap .i64 (x19+1)) else ref35_tasked_i7 n x0 x1 x2 x3 x4 x5 x6 x7 x8 x9 x10 x11 x12 x13 x14 x15 x17 x18:=mkI (by kernel_rfl)
noncomputable def tab27:Tb:=[(43,con43),(44,con44),(45,con45),(46,con46)]
def F27:TFun:=⟨[6],[(6,qc [qn 1,[.boxN 35 14 [.p (.int .u8),.p (.sl Yq4),.p (.sl Yq7),.p db,.p (.sl Yq4),.p (.int .u8),.p di,.p di,.p db,.p (.int .u8),.p (.sl Yq8),.p (.sl Yq5),.p (.sl Yq2),.p (.sl Yq3)]],qn 74]),(8,qc [qn 1,[.boxN 35 14 [.p (.int .u8),.p (.sl Yq4),.p (.sl Yq7),.p db,.p (.sl Yq4),.p (.int .u8),.p di,.p di,.p db,.p (.int .u8),.p (.sl Yq8),.p (.sl Yq5),.p (.sl Yq2),.p (.sl Yq3)]],qn 1,qi,qn 72]),(16,qc [qn 1,[.boxN 35 14 [.p (.int .u8),.p (.sl Yq4),.p (.sl Yq7),.p db,.p (.sl Yq4),.p (.int .u8),.p di,.p di,.p db,.p (.int .u8),.p (.sl Yq8),.p (.sl Yq5),.p (.sl Yq2),.p (.sl Yq3)]],qn 2,qi,qn 71])],[.a Yq1],[.c (.p di)],qc [qn 2,qi,qn 73],[],[],0⟩
noncomputable def con27:=mkC tab27 prog 27 F27
theorem ok27:con27.ok prog 27:=mkO ⟨ok43,ok44,ok45,ok46,trivial⟩ (by kernel_rfl)
noncomputable def ref35_Check (a0:Yy1):Option (Int×Unit):=con27.fn (a0,())
noncomputable def ref35_Check_i6 (n:Nat)(x0:Int)(x1:Yy4)(x2:Yy6)(x3:Bool)(x4:Yy4)(x5 x6 x7:Int)(x8:Bool)(x9:Int)(x10:(List Yy7))(x11:Yy4)(x12:(List Yy2))(x13:(List Yy3)):Option (Int×Unit):=itr tab27 prog 27 F27 n 6 (x0,x1,x2,x3,x4,x5,x6,x7,x8,x9,x10,x11,x12,x13,())
noncomputable def ref35_Check_i8 (n:Nat)(x0:Int)(x1:Yy4)(x2:Yy6)(x3:Bool)(x4:Yy4)(x5 x6 x7:Int)(x8:Bool)(x9:Int)(x10:(List Yy7))(x11:Yy4)(x12:(List Yy2))(x13:(List Yy3))(x14:Int):Option (Int×Unit):=itr tab27 prog 27 F27 n 8 (x0,x1,x2,x3,x4,x5,x6,x7,x8,x9,x10,x11,x12,x13,x14,())
noncomputable def ref35_Check_i16 (n:Nat)(x0:Int)(x1:Yy4)(x2:Yy6)(x3:Bool)(x4:Yy4)(x5 x6 x7:Int)(x8:Bool)(x9:Int)(x10:(List Yy7))(x11:Yy4)(x12:(List Yy2))(x13:(List Yy3))(x14:Int):Option (Int×Unit):=itr tab27 prog 27 F27 n 16 (x0,x1,x2,x3,x4,x5,x6,x7,x8,x9,x10,x11,x12,x13,x14,())
theorem ref35_Check_c a0:Eq (ref35_Check a0) <| (ref29_Accepted (a0.1,a0.2.1,a0.2.2.1,a0.2.2.2.1,a0.2.2.2.2.1,a0.2.2.2.2.2.1,a0.2.2.2.2.2.2.1,a0.2.2.2.2.2.2.2.1,a0.2.2.2.2.2.2.2.2.1,a0.2.2.2.2.2.2.2.2.2.1,())).bind fun e0=>bif !e0.1 then some (8,()) else (ref24_Check (a0.2.2.2.2.2.2.2.2.2.2.1,a0.2.2.2.2.2.2.2.2.2.2.2.1,())).bind fun e1=>bif e1.1 !=0 then some (8,()) else bif ofNat a0.2.2.2.2.2.2.2.2.2.2.2.2.1.length !=ofNat a0.2.2.2.2.2.2.2.2.2.2.1.length then some (8,()) else bif ofNat a0.2.2.2.2.2.2.2.2.2.2.2.2.2.1.length !=ofNat a0.2.2.2.2.2.2.2.2.2.2.2.1.length then some (8,()) else ref35_Check_i8 fuel a0.1 a0.2.1 a0.2.2.1 a0.2.2.2.1 a0.2.2.2.2.1 a0.2.2.2.2.2.1 a0.2.2.2.2.2.2.1 a0.2.2.2.2.2.2.2.1 a0.2.2.2.2.2.2.2.2.1 a0.2.2.2.2.2.2.2.2.2.1 a0.2.2.2.2.2.2.2.2.2.2.1 a0.2.2.2.2.2.2.2.2.2.2.2.1 a0.2.2.2.2.2.2.2.2.2.2.2.2.1 a0.2.2.2.2.2.2.2.2.2.2.2.2.2.1 0:=mkE (by kernel_rfl)
theorem ref35_Check_c6 n x0 x1 x2 x3 x4 x5 x6 x7 x8 x9 x10 x11 x12 x13:Eq (ref35_Check_i6 (n+1) x0 x1 x2 x3 x4 x5 x6 x7 x8 x9 x10 x11 x12 x13) <| ref35_Check_i16 n x0 x1 x2 x3 x4 x5 x6 x7 x8 x9 x10 x11 x12 x13 0:=mkI (by kernel_rfl)
theorem ref35_Check_c8 n x0 x1 x2 x3 x4 x5 x6 x7 x8 x9 x10 x11 x12 x13 x14:Eq (ref35_Check_i8 (n+1) x0 x1 x2 x3 x4 x5 x6 x7 x8 x9 x10 x11 x12 x13 x14) <| bif x14<ofNat x13.length then ix x13 x14 fun e0=>ix x11 x14 fun e1=>bif e0.1 !=e1.2.2.2.2.1 then some (8,()) else ix x13 x14 fun e2=>(ref26_Check e2).bind fun e3=>bif e3.1 !=0 then some (8,()) else ref35_Check_i8 n x0 x1 x2 x3 x4 x5 x6 x7 x8 x9 x10 x11 x12 x13 (wrap .i64 (x14+1)) else ref35_Check_i6 n x0 x1 x2 x3 x4 x5 x6 x7 x8 x9 x10 x11 x12 x13:=mkI (by kernel_rfl)
theorem ref35_Check_c16 n x0 x1 x2 x3 x4 x5 x6 x7 x8 x9 x10 x11 x12 x13 x14:Eq (ref35_Check_i16 (n+1) x0 x1 x2 x3 x4 x5 x6 x7 x8 x9 x10 x11 x12 x13 x14) <| bif x14<ofNat x12.length then (ref35_tasked (x0,x1,x2,x3,x4,x5,x6,x7,x8,x9,x10,x11,x12,x13,()) x14).bind fun e0=>bif !e0.1 then some (8,()) else ref35_Check_i16 n x0 x1 x2 x3 x4 x5 x6 x7 x8 x9 x10 x11 x12 x13 (wrap .i64 (x14+1)) else some (0,()):=mkI (by kernel_rfl)
noncomputable def tab75:Tb:=[]
def F75:TFun:=⟨[],[(4,qc [qn 1,[.c (.p (.sl Yq7))],[.boxN 35 14 [.any,.any,.any,.any,.any,.any,.any,.any,.any,.any,.any,.any,.any,.p (.sl Yq3)]],qn 2,[.c (.rowN 77 2 Yq3)],qi,qn 18])],[.a Yq1,.c (.sl Yq7)],[.c (.s 77 2 Yq3)],qc [qn 4,[.c (.rowN 77 2 Yq3)],qn 20],[],[],0⟩
noncomputable def con75:=mkC tab75 prog 75 F75
theorem ok75:con75.ok prog 75:=mkO trivial (by kernel_rfl)
noncomputable def con75p:TCon:=⟨con75.args,[.c (.p (.sl Yq3))],con75.fn⟩
theorem ok75p:con75p.ok prog 75:=TCon.frz (c:=con75) ok75 rfl
noncomputable def ref35_Queues (a0:Yy1)(a1:Yy6):Option (List Yy3×Unit):=con75.fn (a0,a1,())
noncomputable def ref35_Queues_i4 (n:Nat)(x0:Yy6)(x1 x2:(List Yy3))(x3:Int):Option (List Yy3×Unit):=itr tab75 prog 75 F75 n 4 (x0,x1,x2,x3,())
theorem ref35_Queues_c a0 a1:Eq (ref35_Queues a0 a1) <| ref35_Queues_i4 fuel a1 a0.2.2.2.2.2.2.2.2.2.2.2.2.2.1 ([]) 0:=mkE (by kernel_rfl)
theorem ref35_Queues_c4 n x0 x1 x2 x3:Eq (ref35_Queues_i4 (n+1) x0 x1 x2 x3) <| bif x3<ofNat x0.length then ix x0 x3 fun e0=>ix x1 e0.1 fun e1=>bif bigOk (x2.length+List.length [e1]) 32 then ref35_Queues_i4 n x0 x1 (x2++[e1]) (wrap .i64 (x3+1)) else none else some (x2,()):=mkI (by kernel_rfl)
noncomputable def tab111:Tb:=[]
def F111:TFun:=⟨[1],[(1,qc [qi,[.c (.p (.sl Yq3))],qn 29]),(5,qc [qi,[.c (.p (.sl Yq3))],qn 3,qi,qn 25])],[.c di,.c (.sl Yq3)],[.c (.p di)],qc [qn 4,qi,qn 26],[],[],0⟩
noncomputable def con111:=mkC tab111 prog 111 F111
theorem ok111:con111.ok prog 111:=mkO trivial (by kernel_rfl)
noncomputable def ref27_first (a0:Int)(a1:(List Yy3)):Option (Int×Unit):=con111.fn (a0,a1,())
noncomputable def ref27_first_i1 (n:Nat)(x0:Int)(x1:(List Yy3)):Option (Int×Unit):=itr tab111 prog 111 F111 n 1 (x0,x1,())
noncomputable def ref27_first_i5 (n:Nat)(x0:Int)(x1:(List Yy3))(x2:Int):Option (Int×Unit):=itr tab111 prog 111 F111 n 5 (x0,x1,x2,())
theorem ref27_first_c a0 a1:Eq (ref27_first a0 a1) <| bif a0≥ofNat a1.length then ref27_first_i1 fuel 0 a1 else ref27_first_i1 fuel a0 a1:=mkE (by kernel_rfl)
theorem ref27_first_c1 n x0 x1:Eq (ref27_first_i1 (n+1) x0 x1) <| ref27_first_i5 n x0 x1 0:=mkI (by kernel_rfl)
theorem ref27_first_c5 n x0 x1 x2:Eq (ref27_first_i5 (n+1) x0 x1 x2) <| bif x2<ofNat x1.length then bif ofNat x1.length=0 then none else ix x1 (Int.tmod (wrap .i64 (x0+x2)) (ofNat x1.length)) fun e0=>bif ofNat e0.2.1.length>0 then some ((Int.tmod (wrap .i64 (x0+x2)) (ofNat x1.length),())) else ref27_first_i5 n x0 x1 (wrap .i64 (x2+1)) else some ((-1),()):=mkI (by kernel_rfl)
noncomputable def tab74:Tb:=[(111,con111)]
def F74:TFun:=⟨[],[],[.a Yq2,.c (.sl Yq3),.c (.sl Yq3)],[.c (.p db)],qc [qn 6,qb,qn 30],[],[],0⟩
noncomputable def con74:=mkC tab74 prog 74 F74
theorem ok74:con74.ok prog 74:=mkO ⟨ok111,trivial⟩ (by kernel_rfl)
noncomputable def ref27_Able (a0:Yy2)(a1 a2:(List Yy3)):Option (Bool×Unit):=con74.fn (a0,a1,a2,())
theorem ref27_Able_c a0 a1 a2:Eq (ref27_Able a0 a1 a2) <| bif ofNat a0.2.2.2.1.length>0 then (a0.2.2.2.1[0]?).bind fun e0=>ix a2 e0.1 fun e1=>some (decide (ofNat e1.2.1.length<e1.1),()) else bif a0.1==1 then some (decide (ofNat a0.2.2.2.2.2.2.1.length>0),()) else (ref27_first 0 a1).bind fun e0=>some (decide (e0.1≥0),()):=mkE (by kernel_rfl)
noncomputable def tab54:Tb:=[(68,con68),(75,con75p),(49,con49),(74,con74)]
def F54:TFun:=⟨[],[],[.a Yq1,.c di],[.c (.p db)],qc [qn 4,qb,qn 16],[],[],0⟩
noncomputable def con54:=mkC tab54 prog 54 F54
theorem ok54:con54.ok prog 54:=mkO ⟨ok68,ok75p,ok49,ok74,trivial⟩ (by kernel_rfl)
noncomputable def ref35_Able (a0:Yy1)(a1:Int):Option (Bool×Unit):=con54.fn (a0,a1,())
theorem ref35_Able_c a0 a1:Eq (ref35_Able a0 a1) <| ix a0.2.2.2.2.2.2.2.2.2.2.2.2.1 a1 fun e0=>(ref35_Ins a0 a1).bind fun e1=>(ref35_Queues a0 e1.1).bind fun e2=>(ref35_Outs a0 a1).bind fun e3=>(ref35_Queues a0 e3.1).bind fun e4=>(ref27_Able e0 e2.1 e4.1).bind fun e5=>some (e5.1,()):=mkE (by kernel_rfl)
noncomputable def tab34:Tb:=[(54,con54)]
def F34:TFun:=⟨[],[(4,qc [qn 1,[.boxN 35 14 [.p (.int .u8),.p (.sl Yq4),.p (.sl Yq7),.p db,.p (.sl Yq4),.p (.int .u8),.p di,.p di,.p db,.p (.int .u8),.p (.sl Yq8),.p (.sl Yq5),.p (.sl Yq2),.p (.sl Yq3)]],qn 1,[.c (.rowN 3 1 Yq7)],qi,qn 15])],[.a Yq1],[.c (.s 3 1 Yq7)],qc [qn 2,[.c (.rowN 3 1 Yq7)],qn 17],[],[],0⟩
noncomputable def con34:=mkC tab34 prog 34 F34
theorem ok34:con34.ok prog 34:=mkO ⟨ok54,trivial⟩ (by kernel_rfl)
noncomputable def con34p:TCon:=⟨con34.args,[.c (.p (.sl Yq7))],con34.fn⟩
theorem ok34p:con34p.ok prog 34:=TCon.frz (c:=con34) ok34 rfl
noncomputable def ref38_Able (a0:Yy1):Option Yy9:=con34.fn (a0,())
noncomputable def ref38_Able_i4 (n:Nat)(x0:Int)(x1:Yy4)(x2:Yy6)(x3:Bool)(x4:Yy4)(x5 x6 x7:Int)(x8:Bool)(x9:Int)(x10:(List Yy7))(x11:Yy4)(x12:(List Yy2))(x13:(List Yy3))(x14:Yy6)(x15:Int):Option Yy9:=itr tab34 prog 34 F34 n 4 (x0,x1,x2,x3,x4,x5,x6,x7,x8,x9,x10,x11,x12,x13,x14,x15,())
theorem ref38_Able_c a0:Eq (ref38_Able a0) <| ref38_Able_i4 fuel a0.1 a0.2.1 a0.2.2.1 a0.2.2.2.1 a0.2.2.2.2.1 a0.2.2.2.2.2.1 a0.2.2.2.2.2.2.1 a0.2.2.2.2.2.2.2.1 a0.2.2.2.2.2.2.2.2.1 a0.2.2.2.2.2.2.2.2.2.1 a0.2.2.2.2.2.2.2.2.2.2.1 a0.2.2.2.2.2.2.2.2.2.2.2.1 a0.2.2.2.2.2.2.2.2.2.2.2.2.1 a0.2.2.2.2.2.2.2.2.2.2.2.2.2.1 ([]) 0:=mkE (by kernel_rfl)
theorem ref38_Able_c4 n x0 x1 x2 x3 x4 x5 x6 x7 x8 x9 x10 x11 x12 x13 x14 x15:Eq (ref38_Able_i4 (n+1) x0 x1 x2 x3 x4 x5 x6 x7 x8 x9 x10 x11 x12 x13 x14 x15) <| bif x15<ofNat x12.length then (ref35_Able (x0,x1,x2,x3,x4,x5,x6,x7,x8,x9,x10,x11,x12,x13,()) x15).bind fun e0=>bif e0.1 then bif bigOk (x14.length+List.length [(x15,())]) 8 then ref38_Able_i4 n x0 x1 x2 x3 x4 x5 x6 x7 x8 x9 x10 x11 x12 x13 (x14++[(x15,())]) (wrap .i64 (x15+1)) else none else ref38_Able_i4 n x0 x1 x2 x3 x4 x5 x6 x7 x8 x9 x10 x11 x12 x13 x14 (wrap .i64 (x15+1)) else some (x14,()):=mkI (by kernel_rfl)
noncomputable def tab14:Tb:=[(27,con27),(34,con34p)]
def F14:TFun:=⟨[],[],[.a Yq1],[.c (.p (.sl Yq7)),.c (.p di)],qc [qn 2,[.c (.p (.sl Yq7))],qi,qn 8],[],[],0⟩
noncomputable def con14:=mkC tab14 prog 14 F14
theorem ok14:con14.ok prog 14:=mkO ⟨ok27,ok34p,trivial⟩ (by kernel_rfl)
noncomputable def ref38_All (a0:Yy1):Option (List (Int×Unit)×Int×Unit):=con14.fn (a0,())
theorem ref38_All_c a0:Eq (ref38_All a0) <| (ref35_Check a0).bind fun e0=>bif e0.1 !=0 then some ([],e0.1,()) else (ref38_Able a0).bind fun e1=>some (e1.1,0,()):=mkE (by kernel_rfl)
noncomputable def tab36:Tb:=[(34,con34p)]
def F36:TFun:=⟨[],[(5,qc [qn 1,qi,qn 3,[.c (.p (.sl Yq7))],qi,qn 24])],[.a Yq1,.c di],[.c (.p di)],qc [qn 4,qi,qn 26],[],[],0⟩
noncomputable def con36:=mkC tab36 prog 36 F36
theorem ok36:con36.ok prog 36:=mkO ⟨ok34p,trivial⟩ (by kernel_rfl)
noncomputable def ref38_Next (a0:Yy1)(a1:Int):Option (Int×Unit):=con36.fn (a0,a1,())
noncomputable def ref38_Next_i5 (n:Nat)(x0:Int)(x1:Yy6)(x2:Int):Option (Int×Unit):=itr tab36 prog 36 F36 n 5 (x0,x1,x2,())
theorem ref38_Next_c a0 a1:Eq (ref38_Next a0 a1) <| (ref38_Able a0).bind fun e0=>ref38_Next_i5 fuel a1 e0.1 0:=mkE (by kernel_rfl)
theorem ref38_Next_c5 n x0 x1 x2:Eq (ref38_Next_i5 (n+1) x0 x1 x2) <| bif x2<ofNat x1.length then ix x1 x2 fun e0=>bif e0.1≥x0 then ix x1 x2 fun e1=>some (e1.1,()) else ref38_Next_i5 n x0 x1 (wrap .i64 (x2+1)) else bif ofNat x1.length>0 then (x1[0]?).bind fun e0=>some (e0.1,()) else some ((-1),()):=mkI (by kernel_rfl)
noncomputable def tab18:Tb:=[(27,con27),(36,con36)]
def F18:TFun:=⟨[],[],[.a Yq1,.c di],[.c (.p di),.c (.p di)],qc [qn 4,qi,qi,qn 22],[],[],0⟩
noncomputable def con18:=mkC tab18 prog 18 F18
theorem ok18:con18.ok prog 18:=mkO ⟨ok27,ok36,trivial⟩ (by kernel_rfl)
noncomputable def ref38_First (a0:Yy1)(a1:Int):Option Yy7:=con18.fn (a0,a1,())
theorem ref38_First_c a0 a1:Eq (ref38_First a0 a1) <| (ref35_Check a0).bind fun e0=>bif e0.1 !=0 then some (0,e0.1,()) else bif a1<0 then some (0,51,()) else bif a1>ofNat a0.2.2.2.2.2.2.2.2.2.2.2.2.1.length then some (0,51,()) else (ref38_Next a0 a1).bind fun e1=>bif e1.1<0 then some (0,6,()) else some (e1.1,0,()):=mkE (by kernel_rfl)
noncomputable def tab16:Tb:=[(27,con27),(35,con35)]
def F16:TFun:=⟨[],[],[.a Yq1],[.a [.p di,.p di,.p di],.c (.p di)],qc [qn 2,[.boxN 54 3 [.p di,.p di,.p di]],qi,qn 9],[],[],0⟩
noncomputable def con16:=mkC tab16 prog 16 F16
theorem ok16:con16.ok prog 16:=mkO ⟨ok27,ok35,trivial⟩ (by kernel_rfl)
noncomputable def ref38_Left (a0:Yy1):Option Yy8:=con16.fn (a0,())
theorem ref38_Left_c a0:Eq (ref38_Left a0) <| (ref35_Check a0).bind fun e0=>bif e0.1 !=0 then some (((0,0,0,()),e0.1,())) else (ref38_Rest a0).bind fun e1=>some (e1.1,0,()):=mkE (by kernel_rfl)
end Tg

/- The reference's list of an operator's channels. -/
namespace Tg
open Go
open Go.Abs (bigOk cloned tmm)
def hitP (b:Bool)(op pl:Int)(c:Cn):Bool:=decide (Tj.selF b c=op)&&decide (Tj.keyF b c=pl)
def hits (b:Bool)(op pl:Int):Nat→List Cn→List (Int×Unit)
 | _,[]=>[]
 | i,c::r=>(bif hitP b op pl c then [((i:Int),())] else [])++hits b op pl (i+1) r
theorem hits_len (b:Bool)(op pl:Int):∀ (r:List Cn) (i:Nat),(hits b op pl i r).length≤r.length
 | [],_=>Nat.le_refl _
 | c::r,i=>by
  have:=hits_len b op pl r (i+1)
  rw [hits]
  cases hitP b op pl c <;> simp <;> omega
theorem hits_eq (b:Bool)(op:Int)(pl:Nat)(chs:List Cn):∀ (r:List Cn) (k:Nat),chs.drop k=r→hits b op pl k r=(((List.range' k r.length)).filter fun i=>(chs[i]?).any fun c=>decide (Tj.selF b c=op)&&decide (Tj.keyF b c=(pl:Int))).map fun i:Nat=>((i:Int),())
 | [],_,_=>rfl
 | c::r,k,h=>by
  obtain⟨h1,h2,h3⟩:=drop_get h
  rw [hits,hits_eq b op pl chs r (k+1) h3,List.length_cons,List.range'_succ,List.filter_cons,h2]
  simp only [Option.any_some]
  unfold hitP
  by_cases hh:(decide (Tj.selF b c=op)&&decide (Tj.keyF b c=(pl:Int)))=true
  · rw [if_pos hh,hh]
    simp
  · rw [if_neg hh,Bool.not_eq_true _ |>.mp hh]
    simp
theorem joinL_eq (b:Bool)(x:Gr)(op:Int):joinL b x op=(List.range 20).flatMap fun pl:Nat=>hits b op pl 0 x.2.1:=by
 unfold joinL Tj.joinW
 rw [List.map_flatMap]
 congr 1
 funext pl
 rw [hits_eq b op pl x.2.1 x.2.1 0 rfl,List.range_eq_range']
theorem joined9 (b:Bool)(op:Int)(pl:Nat)(chs:List Cn)(hl:chs.length≤1000)(hp:pl≤100):∀ (r:List Cn) (i m:Nat) (out:List (Int×Unit)),chs.drop i=r→i≤chs.length→out.length+r.length≤100000 →
    ref35_joined_i9 (m+r.length+1) op b chs out (pl:Int) (i:Int)=ref35_joined_i4 m op b chs (out++hits b op pl i r) ((pl+1:Nat):Int)
  | [],i,m,out,h,hi,ho=>by
   have:=drop_end h hi
   subst this
   simp only [List.length_nil,ref35_joined_c9,geL,cond_false,wS (show pl<1000000000000 by omega),hits,List.append_nil,Nat.add_zero]
  | c::r,i,m,out,h,hi,ho=>by
   obtain⟨h1,h2,h3⟩:=drop_get h
   simp only [List.length_cons] at ho ⊢
   have ih:=fun o (ho2:o.length+r.length≤100000)=>joined9 b op pl chs hl hp r (i+1) m o h3 (by omega) ho2
   have hb:bigOk (out.length+[((i:Int),())].length) 8=true:=big_ok (by simp;omega) (by omega)
   have e:ref35_joined_i9 (m+(r.length+1)+1) op b chs out (pl:Int) (i:Int)=bif hitP b op pl c then ref35_joined_i9 (m+r.length+1) op b chs (out++[((i:Int),())]) (pl:Int) ((i+1:Nat):Int) else ref35_joined_i9 (m+r.length+1) op b chs out (pl:Int) ((i+1:Nat):Int):=by
    rw [show m+(r.length+1)+1=(m+r.length+1)+1 by omega]
    rw [ref35_joined_c9]
    simp only [ltL h2,cond_true,ix_s h2,wS (show i<1000000000000 by omega),hb]
    generalize ref35_joined_i9 (m+r.length+1) op b chs (out++[((i:Int),())]) (pl:Int) ((i+1:Nat):Int)=Z1
    generalize ref35_joined_i9 (m+r.length+1) op b chs out (pl:Int) ((i+1:Nat):Int)=Z2
    unfold hitP
    cases b <;> simp only [Tj.selF,Tj.keyF,cond_true,cond_false,Bool.not_false,Bool.not_true] <;> grind
   rw [e,hits]
   cases hitP b op pl c with
   | true =>
    simp only [cond_true]
    rw [ih _ (by simp;omega),List.append_assoc]
   | false =>
    simp only [cond_false,List.nil_append]
    exact ih _ (by omega)
theorem joined4 (b:Bool)(op:Int)(chs:List Cn)(hl:chs.length≤1000):∀ (k pl n:Nat) (out:List (Int×Unit)),pl+k=20→out.length+1000 * k≤30000→k * (chs.length+2)+1≤n →
    ref35_joined_i4 n op b chs out (pl:Int)=some (out++(List.range' pl k).flatMap (fun q:Nat=>hits b op q 0 chs),())
  | 0,pl,n,out,hp,ho,hn=>by
   obtain⟨m,rfl⟩:∃ m,n=m+1:=⟨n - 1,by omega⟩
   have:pl=20:=by omega
   subst this
   simp [ref35_joined_c4]
  | k+1,pl,n,out,hp,ho,hn=>by
   have he:(k+1) * (chs.length+2)=k * (chs.length+2)+(chs.length+2):=by rw [Nat.add_mul];omega
   obtain⟨m,rfl⟩:∃ m,n=(m+chs.length+1)+1:=⟨n - chs.length - 2,by omega⟩
   have hh:=hits_len b op pl chs 0
   have hpl:decide ((pl:Int)<20)=true:=decide_eq_true (by omega)
   have:=joined9 b op pl chs hl (by omega) chs 0 m out rfl (by omega) (by omega)
   simp only [Int.natCast_zero] at this
   rw [ref35_joined_c4,hpl,cond_true,this,joined4 b op chs hl k (pl+1) m _ (by omega) (by rw [List.length_append];omega) (by omega),List.range'_succ,List.flatMap_cons,List.append_assoc]
theorem joined_w (x:Gr)(op:Int)(b:Bool)(hl:x.2.1.length≤1000):ref35_joined x op b=some (joinL b x op,()):=by
 rw [ref35_joined_c,joinL_eq,List.range_eq_range']
 have hf:=fuel_ge
 have:=joined4 b op x.2.1 hl 20 0 fuel [] rfl (by simp) (by omega)
 simpa using this
end Tg
