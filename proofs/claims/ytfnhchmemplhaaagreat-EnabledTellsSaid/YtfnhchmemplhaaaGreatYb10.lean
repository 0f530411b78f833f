import Derived.Test.YtfnhchmemplhaaaGreatYb9
import Derived.Test.YtfnhchmemplhaaaGreatTA
/- Functions of the code, told plainly and checked by the kernel. -/
set_option linter.unusedVariables false
set_option linter.unusedSimpArgs false
set_option maxRecDepth 100000
namespace Tg
open Go.Abs hiding fuel
open Go.Proofs.Tryz (prog)
open Int (ofNat toNat)
open Go.IntKind (wrap)
noncomputable def tab109:Tb:=[(40,con40)]
def F109:TFun:=⟨[],[],[.a Yq3],[.c (.p di),.c (.p di)],qc [qn 2,qi,qi,qn 12],[],[],0⟩
noncomputable def con109:=mkC tab109 prog 109 F109
theorem ok109:con109.ok prog 109:=mkO ⟨ok40,trivial⟩ (by kernel_rfl)
noncomputable def channel_Left (a0:Yy3):Option Yy7:=con109.fn (a0,())
theorem channel_Left_c a0:Eq (channel_Left a0) <| (channel_Check a0).bind fun e0=>bif e0.1 !=0 then some (0,e0.1,()) else some (wrap .i64 (a0.1 - ofNat a0.2.1.length),0,()):=mkE (by kernel_rfl)
noncomputable def tab110:Tb:=[]
def F110:TFun:=⟨[1],[(1,qc [qi,[.c (.p (.sl Yq3))],qn 29]),(5,qc [qi,[.c (.p (.sl Yq3))],qn 10,qi,qi,qn 17])],[.c di,.c (.sl Yq3)],[.c (.p di)],qc [qn 4,qi,qn 26],[],[],0⟩
noncomputable def con110:=mkC tab110 prog 110 F110
theorem ok110:con110.ok prog 110:=mkO trivial (by kernel_rfl)
noncomputable def task_first (a0:Int)(a1:(List Yy3)):Option (Int×Unit):=con110.fn (a0,a1,())
noncomputable def task_first_i1 (n:Nat)(x0:Int)(x1:(List Yy3)):Option (Int×Unit):=itr tab110 prog 110 F110 n 1 (x0,x1,())
noncomputable def task_first_i5 (n:Nat)(x0:Int)(x1:(List Yy3))(x2 x3:Int):Option (Int×Unit):=itr tab110 prog 110 F110 n 5 (x0,x1,x2,x3,())
theorem task_first_c a0 a1:Eq (task_first a0 a1) <| bif a0≥ofNat a1.length then task_first_i1 fuel 0 a1 else task_first_i1 fuel a0 a1:=mkE (by kernel_rfl)
theorem task_first_c1 n x0 x1:Eq (task_first_i1 (n+1) x0 x1) <| task_first_i5 n x0 x1 (ofNat x1.length) 0:=mkI (by kernel_rfl)
theorem task_first_c5 n x0 x1 x2 x3:Eq (task_first_i5 (n+1) x0 x1 x2 x3) <| bif x3<x2 then bif ofNat x1.length=0 then none else ix x1 (Int.tmod (wrap .i64 (x0+x3)) (ofNat x1.length)) fun e0=>bif ofNat e0.2.1.length>0 then some ((Int.tmod (wrap .i64 (x0+x3)) (ofNat x1.length),())) else task_first_i5 n x0 x1 x2 (wrap .i64 (x3+1)) else some ((-1),()):=mkI (by kernel_rfl)
noncomputable def tab72:Tb:=[(108,con108),(109,con109),(110,con110)]
def F72:TFun:=⟨[6],[(6,qc [qn 1,[.c (.p (.sl Yq3))],[.c (.p (.sl Yq3))],[.boxN 73 9 [.p (.int .u8),.any,.any,.p (.sl Yq6),.any,.any,.p (.sl [.bool,.int .i64,.int .i64,.int .i64,.int .i64]),.any,.any]],qn 60]),(8,qc [qn 1,[.c (.p (.sl Yq3))],[.c (.p (.sl Yq3))],[.boxN 73 9 [.p (.int .u8),.any,.any,.p (.sl Yq6),.any,.any,.p (.sl [.bool,.int .i64,.int .i64,.int .i64,.int .i64]),.any,.any]],qn 17,[.c (.p (.sl Yq6))],qi,qi,qn 40])],[.a Yq2,.c (.sl Yq3),.c (.sl Yq3)],[.c (.p db),.c (.p di)],qc [qn 6,qb,qi,qn 56],[],[],0⟩
noncomputable def con72:=mkC tab72 prog 72 F72
theorem ok72:con72.ok prog 72:=mkO ⟨ok108,ok109,ok110,trivial⟩ (by kernel_rfl)
noncomputable def task_Enabled (a0:Yy2)(a1 a2:(List Yy3)):Option (Bool×Int×Unit):=con72.fn (a0,a1,a2,())
noncomputable def task_Enabled_i6 (n:Nat)(x0 x1:(List Yy3))(x2:Int)(x3:Yy5)(x4:(List (Bool×Int×Int×Int×Int×Unit))):Option (Bool×Int×Unit):=itr tab72 prog 72 F72 n 6 (x0,x1,x2,x3,x4,())
noncomputable def task_Enabled_i8 (n:Nat)(x0 x1:(List Yy3))(x2:Int)(x3:Yy5)(x4:(List (Bool×Int×Int×Int×Int×Unit)))(x5:Yy5)(x6 x7:Int):Option (Bool×Int×Unit):=itr tab72 prog 72 F72 n 8 (x0,x1,x2,x3,x4,x5,x6,x7,())
theorem task_Enabled_c a0 a1 a2:Eq (task_Enabled a0 a1 a2) <| (task_asked a0 a1 a2).bind fun e0=>bif e0.1 !=0 then some (false,e0.1,()) else task_Enabled_i8 fuel a1 a2 a0.1 a0.2.2.2.1 a0.2.2.2.2.2.2.1 a0.2.2.2.1 (ofNat a0.2.2.2.1.length) 0:=mkE (by kernel_rfl)
theorem task_Enabled_c6 n x0 x1 x2 x3 x4:Eq (task_Enabled_i6 (n+1) x0 x1 x2 x3 x4) <| bif ofNat x3.length>0 then (x3[0]?).bind fun e0=>ix x1 e0.1 fun e1=>(channel_Left e1).bind fun e2=>some (decide (e2.1>0),0,()) else bif x2==1 then some (decide (ofNat x4.length>0),0,()) else (task_first 0 x0).bind fun e0=>some (decide (e0.1≥0),0,()):=mkI (by kernel_rfl)
theorem task_Enabled_c8 n x0 x1 x2 x3 x4 x5 x6 x7:Eq (task_Enabled_i8 (n+1) x0 x1 x2 x3 x4 x5 x6 x7) <| bif x7<x6 then ix x5 x7 fun e0=>bif e0.1≥ofNat x1.length then some (false,2,()) else task_Enabled_i8 n x0 x1 x2 x3 x4 x5 x6 (wrap .i64 (x7+1)) else task_Enabled_i6 n x0 x1 x2 x3 x4:=mkI (by kernel_rfl)
noncomputable def tab53:Tb:=[(62,con62p),(73,con73p),(63,con63p),(72,con72)]
def F53:TFun:=⟨[],[],[.a Yq1,.c di],[.c (.p db)],qc [qn 4,qb,qn 24],[],[],0⟩
noncomputable def con53:=mkC tab53 prog 53 F53
theorem ok53:con53.ok prog 53:=mkO ⟨ok62p,ok73p,ok63p,ok72,trivial⟩ (by kernel_rfl)
noncomputable def step_enabled (a0:Yy1)(a1:Int):Option (Bool×Unit):=con53.fn (a0,a1,())
theorem step_enabled_c a0 a1:Eq (step_enabled a0 a1) <| ix a0.2.2.2.2.2.2.2.2.2.2.2.2.1 a1 fun e0=>(step_inputs (a0.2.2.2.2.2.2.2.2.2.2.1,a0.2.2.2.2.2.2.2.2.2.2.2.1,()) a1).bind fun e1=>(step_queues a0 e1.1).bind fun e2=>(step_outputs (a0.2.2.2.2.2.2.2.2.2.2.1,a0.2.2.2.2.2.2.2.2.2.2.2.1,()) a1).bind fun e3=>(step_queues a0 e3.1).bind fun e4=>(task_Enabled e0 e2.1 e4.1).bind fun e5=>some (e5.1,()):=mkE (by kernel_rfl)
noncomputable def tab33:Tb:=[(52,con52),(53,con53)]
def F33:TFun:=⟨[],[],[.a Yq1,.c di],[.c (.p db),.c (.p di)],qc [qn 4,qb,qi,qn 10],[],[],0⟩
noncomputable def con33:=mkC tab33 prog 33 F33
theorem ok33:con33.ok prog 33:=mkO ⟨ok52,ok53,trivial⟩ (by kernel_rfl)
noncomputable def step_Enabled (a0:Yy1)(a1:Int):Option (Bool×Int×Unit):=con33.fn (a0,a1,())
theorem step_Enabled_c a0 a1:Eq (step_Enabled a0 a1) <| (step_asked a0 a1).bind fun e0=>bif e0.1 !=0 then some (false,e0.1,()) else (step_enabled a0 a1).bind fun e1=>some (e1.1,0,()):=mkE (by kernel_rfl)
noncomputable def tab13:Tb:=[(24,con24),(33,con33)]
def F13:TFun:=⟨[],[(9,qc [qn 1,[.boxN 35 14 [.p (.int .u8),.p (.sl Yq4),.p (.sl Yq7),.p db,.p (.sl Yq4),.p (.int .u8),.p di,.p di,.p db,.p (.int .u8),.p (.sl Yq8),.p (.sl Yq5),.p (.sl Yq2),.p (.sl Yq3)]],qn 3,[.c (.rowN 3 1 Yq7)],qn 10,qi,qi,qn 18])],[.a Yq1],[.c (.s 3 1 Yq7),.c (.p di)],qc [qn 2,[.c (.rowN 3 1 Yq7)],qi,qn 32],[],[],0⟩
noncomputable def con13:=mkC tab13 prog 13 F13
theorem ok13:con13.ok prog 13:=mkO ⟨ok24,ok33,trivial⟩ (by kernel_rfl)
noncomputable def con13p:TCon:=⟨con13.args,[.c (.p (.sl Yq7)),.c (.p di)],con13.fn⟩
theorem ok13p:con13p.ok prog 13:=TCon.frz (c:=con13) ok13 rfl
noncomputable def enabled_All (a0:Yy1):Option (List (Int×Unit)×Int×Unit):=con13.fn (a0,())
noncomputable def enabled_All_i9 (n:Nat)(x0:Int)(x1:Yy4)(x2:Yy6)(x3:Bool)(x4:Yy4)(x5 x6 x7:Int)(x8:Bool)(x9:Int)(x10:(List Yy7))(x11:Yy4)(x12:(List Yy2))(x13:(List Yy3))(x14:Yy6)(x15 x16:Int):Option (List (Int×Unit)×Int×Unit):=itr tab13 prog 13 F13 n 9 (x0,x1,x2,x3,x4,x5,x6,x7,x8,x9,x10,x11,x12,x13,x14,x15,x16,())
theorem enabled_All_c a0:Eq (enabled_All a0) <| (step_Check a0).bind fun e0=>bif e0.1 !=0 then some ([],e0.1,()) else enabled_All_i9 fuel a0.1 a0.2.1 a0.2.2.1 a0.2.2.2.1 a0.2.2.2.2.1 a0.2.2.2.2.2.1 a0.2.2.2.2.2.2.1 a0.2.2.2.2.2.2.2.1 a0.2.2.2.2.2.2.2.2.1 a0.2.2.2.2.2.2.2.2.2.1 a0.2.2.2.2.2.2.2.2.2.2.1 a0.2.2.2.2.2.2.2.2.2.2.2.1 a0.2.2.2.2.2.2.2.2.2.2.2.2.1 a0.2.2.2.2.2.2.2.2.2.2.2.2.2.1 ([]) (ofNat a0.2.2.2.2.2.2.2.2.2.2.2.2.1.length) 0:=mkE (by kernel_rfl)
theorem enabled_All_c9 n x0 x1 x2 x3 x4 x5 x6 x7 x8 x9 x10 x11 x12 x13 x14 x15 x16:Eq (enabled_All_i9 (n+1) x0 x1 x2 x3 x4 x5 x6 x7 x8 x9 x10 x11 x12 x13 x14 x15 x16) <| bif x16<x15 then (step_Enabled (x0,x1,x2,x3,x4,x5,x6,x7,x8,x9,x10,x11,x12,x13,()) x16).bind fun e0=>bif e0.2.1 !=0 then some ([],e0.2.1,()) else bif e0.1 then bif bigOk (x14.length+List.length [(x16,())]) 8 then enabled_All_i9 n x0 x1 x2 x3 x4 x5 x6 x7 x8 x9 x10 x11 x12 x13 (x14++[(x16,())]) x15 (wrap .i64 (x16+1)) else none else enabled_All_i9 n x0 x1 x2 x3 x4 x5 x6 x7 x8 x9 x10 x11 x12 x13 x14 x15 (wrap .i64 (x16+1)) else some (x14,0,()):=mkI (by kernel_rfl)
noncomputable def tab17:Tb:=[(13,con13p)]
def F17:TFun:=⟨[],[(16,qc [qn 1,qi,qn 6,qi,qn 25,[.c (.p (.sl Yq7))],qi,qi,qn 9])],[.a Yq1,.c di],[.c (.p di),.c (.p di)],qc [qn 4,qi,qi,qn 40],[],[],0⟩
noncomputable def con17:=mkC tab17 prog 17 F17
theorem ok17:con17.ok prog 17:=mkO ⟨ok13p,trivial⟩ (by kernel_rfl)
noncomputable def enabled_First (a0:Yy1)(a1:Int):Option Yy7:=con17.fn (a0,a1,())
noncomputable def enabled_First_i16 (n:Nat)(x0 x1:Int)(x2:Yy6)(x3 x4:Int):Option Yy7:=itr tab17 prog 17 F17 n 16 (x0,x1,x2,x3,x4,())
theorem enabled_First_c a0 a1:Eq (enabled_First a0 a1) <| (enabled_All a0).bind fun e0=>bif e0.2.1 !=0 then some (0,e0.2.1,()) else bif a1<0 then some (0,51,()) else bif a1>ofNat a0.2.2.2.2.2.2.2.2.2.2.2.2.1.length then some (0,51,()) else bif ofNat e0.1.length==0 then some (0,6,()) else (e0.1[0]?).bind fun e1=>enabled_First_i16 fuel a1 e1.1 e0.1 (ofNat e0.1.length) 0:=mkE (by kernel_rfl)
theorem enabled_First_c16 n x0 x1 x2 x3 x4:Eq (enabled_First_i16 (n+1) x0 x1 x2 x3 x4) <| bif x4<x3 then ix x2 x4 fun e0=>bif e0.1≥x0 then some (e0.1,0,()) else enabled_First_i16 n x0 x1 x2 x3 (wrap .i64 (x4+1)) else some (x1,0,()):=mkI (by kernel_rfl)
end Tg
