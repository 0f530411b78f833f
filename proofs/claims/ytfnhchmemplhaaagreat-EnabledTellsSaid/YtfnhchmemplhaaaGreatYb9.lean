import Derived.Test.YtfnhchmemplhaaaGreatSI
import Derived.Test.YtfnhchmemplhaaaGreatVb3
import Derived.Test.YtfnhchmemplhaaaGreatXb6
/- Functions of the code, told plainly and checked by the kernel. -/
set_option linter.unusedVariables false
set_option linter.unusedSimpArgs false
set_option maxRecDepth 100000
namespace Tg
open Go.Abs hiding fuel
open Go.Proofs.Tryz (prog)
open Int (ofNat toNat)
open Go.IntKind (wrap)
noncomputable def tab73:Tb:=[]
def F73:TFun:=⟨[],[(4,qc [qn 2,[.boxN 35 14 [.any,.any,.any,.any,.any,.any,.any,.any,.any,.any,.any,.any,.any,.p (.sl Yq3)]],qn 2,[.c (.rowN 77 2 Yq3)],qn 2,[.c (.p (.sl Yq7))],qi,qi,qn 13])],[.a Yq1,.c (.sl Yq7)],[.c (.s 77 2 Yq3)],qc [qn 4,[.c (.rowN 77 2 Yq3)],qn 19],[],[],0⟩
noncomputable def con73:=mkC tab73 prog 73 F73
theorem ok73:con73.ok prog 73:=mkO trivial (by kernel_rfl)
noncomputable def con73p:TCon:=⟨con73.args,[.c (.p (.sl Yq3))],con73.fn⟩
theorem ok73p:con73p.ok prog 73:=TCon.frz (c:=con73) ok73 rfl
noncomputable def step_queues (a0:Yy1)(a1:Yy6):Option (List Yy3×Unit):=con73.fn (a0,a1,())
noncomputable def step_queues_i4 (n:Nat)(x0 x1:(List Yy3))(x2:Yy6)(x3 x4:Int):Option (List Yy3×Unit):=itr tab73 prog 73 F73 n 4 (x0,x1,x2,x3,x4,())
theorem step_queues_c a0 a1:Eq (step_queues a0 a1) <| step_queues_i4 fuel a0.2.2.2.2.2.2.2.2.2.2.2.2.2.1 ([]) a1 (ofNat a1.length) 0:=mkE (by kernel_rfl)
theorem step_queues_c4 n x0 x1 x2 x3 x4:Eq (step_queues_i4 (n+1) x0 x1 x2 x3 x4) <| bif x4<x3 then ix x2 x4 fun e0=>ix x0 e0.1 fun e1=>bif bigOk (x1.length+List.length [e1]) 32 then step_queues_i4 n x0 (x1++[e1]) x2 x3 (wrap .i64 (x4+1)) else none else some (x1,()):=mkI (by kernel_rfl)
noncomputable def tab41:Tb:=[(61,con61),(62,con62p),(63,con63p)]
def F41:TFun:=⟨[6],[(6,qc [qn 2,[.boxN 35 14 [.any,.any,.any,.p db,.any,.any,.any,.any,.any,.p (.int .u8),.any,.any,.any,.any]],qn 2,[.boxN 73 9 [.p (.int .u8),.any,.any,.any,.p (.sl Yq7),.any,.any,.any,.any]],qi,qi,qn 78]),(8,qc [qn 2,[.boxN 35 14 [.any,.any,.any,.p db,.any,.any,.any,.any,.any,.p (.int .u8),.any,.any,.any,.any]],qn 2,[.boxN 73 9 [.p (.int .u8),.any,.any,.any,.p (.sl Yq7),.any,.any,.any,.any]],qi,qi,qn 33,[.c (.p (.sl Yq6))],qi,qi,qn 42])],[.a Yq1,.c di],[.c (.p db)],qc [qn 4,qb,qn 81],[],[],0⟩
noncomputable def con41:=mkC tab41 prog 41 F41
theorem ok41:con41.ok prog 41:=mkO ⟨ok61,ok62p,ok63p,trivial⟩ (by kernel_rfl)
noncomputable def step_fits (a0:Yy1)(a1:Int):Option (Bool×Unit):=con41.fn (a0,a1,())
noncomputable def step_fits_i6 (n:Nat)(x0:Bool)(x1 x2:Int)(x3:Yy6)(x4 x5:Int):Option (Bool×Unit):=itr tab41 prog 41 F41 n 6 (x0,x1,x2,x3,x4,x5,())
noncomputable def step_fits_i8 (n:Nat)(x0:Bool)(x1 x2:Int)(x3:Yy6)(x4 x5:Int)(x6:Yy5)(x7 x8:Int):Option (Bool×Unit):=itr tab41 prog 41 F41 n 8 (x0,x1,x2,x3,x4,x5,x6,x7,x8,())
theorem step_fits_c a0 a1:Eq (step_fits a0 a1) <| ix a0.2.2.2.2.2.2.2.2.2.2.2.2.1 a1 fun e0=>ix a0.2.2.2.2.2.2.2.2.2.2.1 a1 fun e1=>bif !(e0.1==e1.1&&(e0.2.1==e1.2.1&&true)) then some (false,()) else (task_Check e0).bind fun e2=>bif e2.1 !=0 then some (false,()) else (step_inputs (a0.2.2.2.2.2.2.2.2.2.2.1,a0.2.2.2.2.2.2.2.2.2.2.2.1,()) a1).bind fun e3=>(step_outputs (a0.2.2.2.2.2.2.2.2.2.2.1,a0.2.2.2.2.2.2.2.2.2.2.2.1,()) a1).bind fun e4=>step_fits_i8 fuel a0.2.2.2.1 a0.2.2.2.2.2.2.2.2.2.1 e0.1 e0.2.2.2.2.1 (ofNat e3.1.length) (ofNat e4.1.length) e0.2.2.2.1 (ofNat e0.2.2.2.1.length) 0:=mkE (by kernel_rfl)
theorem step_fits_c6 n x0 x1 x2 x3 x4 x5:Eq (step_fits_i6 (n+1) x0 x1 x2 x3 x4 x5) <| bif x2==2 then bif x1==2 then some (x5==2,()) else some (x5==1,()) else bif x2==4 then bif ofNat x3.length==x4 then some (!x0,()) else some (false,()) else bif x2==5 then bif x4==2 then some (x0,()) else some (false,()) else some (true,()):=mkI (by kernel_rfl)
theorem step_fits_c8 n x0 x1 x2 x3 x4 x5 x6 x7 x8:Eq (step_fits_i8 (n+1) x0 x1 x2 x3 x4 x5 x6 x7 x8) <| bif x8<x7 then ix x6 x8 fun e0=>bif e0.1≥x5 then some (false,()) else step_fits_i8 n x0 x1 x2 x3 x4 x5 x6 x7 (wrap .i64 (x8+1)) else step_fits_i6 n x0 x1 x2 x3 x4 x5:=mkI (by kernel_rfl)
noncomputable def tab24:Tb:=[(38,con38),(39,con39),(40,con40),(41,con41)]
def F24:TFun:=⟨[7],[(7,qc [qn 1,[.boxN 35 14 [.p (.int .u8),.p (.sl Yq4),.p (.sl Yq7),.p db,.p (.sl Yq4),.p (.int .u8),.p di,.p di,.p db,.p (.int .u8),.p (.sl Yq8),.p (.sl Yq5),.p (.sl Yq2),.p (.sl Yq3)]],qn 75]),(9,qc [qn 1,[.boxN 35 14 [.p (.int .u8),.p (.sl Yq4),.p (.sl Yq7),.p db,.p (.sl Yq4),.p (.int .u8),.p di,.p di,.p db,.p (.int .u8),.p (.sl Yq8),.p (.sl Yq5),.p (.sl Yq2),.p (.sl Yq3)]],qn 41,[.c (.p (.sl Yq3))],qi,qi,qn 31]),(18,qc [qn 1,[.boxN 35 14 [.p (.int .u8),.p (.sl Yq4),.p (.sl Yq7),.p db,.p (.sl Yq4),.p (.int .u8),.p di,.p di,.p db,.p (.int .u8),.p (.sl Yq8),.p (.sl Yq5),.p (.sl Yq2),.p (.sl Yq3)]],qn 66,qi,qi,qn 7])],[.a Yq1],[.c (.p di)],qc [qn 2,qi,qn 74],[],[],0⟩
noncomputable def con24:=mkC tab24 prog 24 F24
theorem ok24:con24.ok prog 24:=mkO ⟨ok38,ok39,ok40,ok41,trivial⟩ (by kernel_rfl)
noncomputable def step_Check (a0:Yy1):Option (Int×Unit):=con24.fn (a0,())
noncomputable def step_Check_i7 (n:Nat)(x0:Int)(x1:Yy4)(x2:Yy6)(x3:Bool)(x4:Yy4)(x5 x6 x7:Int)(x8:Bool)(x9:Int)(x10:(List Yy7))(x11:Yy4)(x12:(List Yy2))(x13:(List Yy3)):Option (Int×Unit):=itr tab24 prog 24 F24 n 7 (x0,x1,x2,x3,x4,x5,x6,x7,x8,x9,x10,x11,x12,x13,())
noncomputable def step_Check_i9 (n:Nat)(x0:Int)(x1:Yy4)(x2:Yy6)(x3:Bool)(x4:Yy4)(x5 x6 x7:Int)(x8:Bool)(x9:Int)(x10:(List Yy7))(x11:Yy4)(x12:(List Yy2))(x13 x14:(List Yy3))(x15 x16:Int):Option (Int×Unit):=itr tab24 prog 24 F24 n 9 (x0,x1,x2,x3,x4,x5,x6,x7,x8,x9,x10,x11,x12,x13,x14,x15,x16,())
noncomputable def step_Check_i18 (n:Nat)(x0:Int)(x1:Yy4)(x2:Yy6)(x3:Bool)(x4:Yy4)(x5 x6 x7:Int)(x8:Bool)(x9:Int)(x10:(List Yy7))(x11:Yy4)(x12:(List Yy2))(x13:(List Yy3))(x14 x15:Int):Option (Int×Unit):=itr tab24 prog 24 F24 n 18 (x0,x1,x2,x3,x4,x5,x6,x7,x8,x9,x10,x11,x12,x13,x14,x15,())
theorem step_Check_c a0:Eq (step_Check a0) <| (checks_Check (a0.1,a0.2.1,a0.2.2.1,a0.2.2.2.1,a0.2.2.2.2.1,a0.2.2.2.2.2.1,a0.2.2.2.2.2.2.1,a0.2.2.2.2.2.2.2.1,a0.2.2.2.2.2.2.2.2.1,a0.2.2.2.2.2.2.2.2.2.1,())).bind fun e0=>bif e0.2.1 !=0 then some (8,()) else (graph_Check (a0.2.2.2.2.2.2.2.2.2.2.1,a0.2.2.2.2.2.2.2.2.2.2.2.1,())).bind fun e1=>bif e1.1 !=0 then some (8,()) else bif ofNat a0.2.2.2.2.2.2.2.2.2.2.2.2.1.length !=ofNat a0.2.2.2.2.2.2.2.2.2.2.1.length then some (8,()) else bif ofNat a0.2.2.2.2.2.2.2.2.2.2.2.2.2.1.length !=ofNat a0.2.2.2.2.2.2.2.2.2.2.2.1.length then some (8,()) else step_Check_i9 fuel a0.1 a0.2.1 a0.2.2.1 a0.2.2.2.1 a0.2.2.2.2.1 a0.2.2.2.2.2.1 a0.2.2.2.2.2.2.1 a0.2.2.2.2.2.2.2.1 a0.2.2.2.2.2.2.2.2.1 a0.2.2.2.2.2.2.2.2.2.1 a0.2.2.2.2.2.2.2.2.2.2.1 a0.2.2.2.2.2.2.2.2.2.2.2.1 a0.2.2.2.2.2.2.2.2.2.2.2.2.1 a0.2.2.2.2.2.2.2.2.2.2.2.2.2.1 a0.2.2.2.2.2.2.2.2.2.2.2.2.2.1 (ofNat a0.2.2.2.2.2.2.2.2.2.2.2.2.2.1.length) 0:=mkE (by kernel_rfl)
theorem step_Check_c7 n x0 x1 x2 x3 x4 x5 x6 x7 x8 x9 x10 x11 x12 x13:Eq (step_Check_i7 (n+1) x0 x1 x2 x3 x4 x5 x6 x7 x8 x9 x10 x11 x12 x13) <| step_Check_i18 n x0 x1 x2 x3 x4 x5 x6 x7 x8 x9 x10 x11 x12 x13 (ofNat x12.length) 0:=mkI (by kernel_rfl)
theorem step_Check_c9 n x0 x1 x2 x3 x4 x5 x6 x7 x8 x9 x10 x11 x12 x13 x14 x15 x16:Eq (step_Check_i9 (n+1) x0 x1 x2 x3 x4 x5 x6 x7 x8 x9 x10 x11 x12 x13 x14 x15 x16) <| bif x16<x15 then ix x14 x16 fun e0=>ix x11 x16 fun e1=>bif e0.1 !=e1.2.2.2.2.1 then some (8,()) else (channel_Check e0).bind fun e2=>bif e2.1 !=0 then some (8,()) else step_Check_i9 n x0 x1 x2 x3 x4 x5 x6 x7 x8 x9 x10 x11 x12 x13 x14 x15 (wrap .i64 (x16+1)) else step_Check_i7 n x0 x1 x2 x3 x4 x5 x6 x7 x8 x9 x10 x11 x12 x13:=mkI (by kernel_rfl)
theorem step_Check_c18 n x0 x1 x2 x3 x4 x5 x6 x7 x8 x9 x10 x11 x12 x13 x14 x15:Eq (step_Check_i18 (n+1) x0 x1 x2 x3 x4 x5 x6 x7 x8 x9 x10 x11 x12 x13 x14 x15) <| bif x15<x14 then (step_fits (x0,x1,x2,x3,x4,x5,x6,x7,x8,x9,x10,x11,x12,x13,()) x15).bind fun e0=>bif !e0.1 then some (8,()) else step_Check_i18 n x0 x1 x2 x3 x4 x5 x6 x7 x8 x9 x10 x11 x12 x13 x14 (wrap .i64 (x15+1)) else some (0,()):=mkI (by kernel_rfl)
noncomputable def tab52:Tb:=[(24,con24)]
def F52:TFun:=⟨[],[],[.a Yq1,.c di],[.c (.p di)],qc [qn 4,qi,qn 15],[],[],0⟩
noncomputable def con52:=mkC tab52 prog 52 F52
theorem ok52:con52.ok prog 52:=mkO ⟨ok24,trivial⟩ (by kernel_rfl)
noncomputable def step_asked (a0:Yy1)(a1:Int):Option (Int×Unit):=con52.fn (a0,a1,())
theorem step_asked_c a0 a1:Eq (step_asked a0 a1) <| (step_Check a0).bind fun e0=>bif e0.1 !=0 then some (e0.1,()) else bif a1<0 then some (51,()) else bif a1≥ofNat a0.2.2.2.2.2.2.2.2.2.2.2.2.1.length then some (51,()) else some (0,()):=mkE (by kernel_rfl)
noncomputable def tab15:Tb:=[(24,con24)]
def F15:TFun:=⟨[7],[(7,qc [qn 1,[.boxN 35 14 [.any,.any,.any,.any,.any,.any,.any,.any,.any,.any,.any,.any,.any,.p (.sl Yq3)]],[.boxN 54 3 [.any,.any,.any]],qn 2,[.boxN 54 3 [.p di,.p di,.p di]],qn 48]),(9,qc [qn 1,[.boxN 35 14 [.any,.any,.any,.any,.any,.any,.any,.any,.any,.any,.any,.any,.any,.p (.sl Yq3)]],[.boxN 54 3 [.any,.any,.any]],qn 2,[.boxN 54 3 [.p di,.p di,.p di]],qn 11,[.c (.p (.sl Yq2))],qi,qi,qn 34]),(17,qc [qn 2,[.boxN 54 3 [.any,.any,.any]],qn 2,[.boxN 54 3 [.p di,.p di,.p di]],qn 33,[.c (.p (.sl Yq3))],qi,qi,qn 12])],[.a Yq1],[.a [.p di,.p di,.p di],.c (.p di)],qc [qn 2,[.boxN 54 3 [.p di,.p di,.p di]],qi,qn 50],[],[],0⟩
noncomputable def con15:=mkC tab15 prog 15 F15
theorem ok15:con15.ok prog 15:=mkO ⟨ok24,trivial⟩ (by kernel_rfl)
noncomputable def enabled_Left (a0:Yy1):Option Yy8:=con15.fn (a0,())
noncomputable def enabled_Left_i7 (n:Nat)(x0:(List Yy3))(x1 x2 x3:Int):Option Yy8:=itr tab15 prog 15 F15 n 7 (x0,x1,x2,x3,())
noncomputable def enabled_Left_i9 (n:Nat)(x0:(List Yy3))(x1 x2 x3:Int)(x4:(List Yy2))(x5 x6:Int):Option Yy8:=itr tab15 prog 15 F15 n 9 (x0,x1,x2,x3,x4,x5,x6,())
noncomputable def enabled_Left_i17 (n:Nat)(x0 x1 x2:Int)(x3:(List Yy3))(x4 x5:Int):Option Yy8:=itr tab15 prog 15 F15 n 17 (x0,x1,x2,x3,x4,x5,())
theorem enabled_Left_c a0:Eq (enabled_Left a0) <| (step_Check a0).bind fun e0=>bif e0.1 !=0 then some (((0,0,0,()),e0.1,())) else enabled_Left_i9 fuel a0.2.2.2.2.2.2.2.2.2.2.2.2.2.1 0 0 0 a0.2.2.2.2.2.2.2.2.2.2.2.2.1 (ofNat a0.2.2.2.2.2.2.2.2.2.2.2.2.1.length) 0:=mkE (by kernel_rfl)
theorem enabled_Left_c7 n x0 x1 x2 x3:Eq (enabled_Left_i7 (n+1) x0 x1 x2 x3) <| enabled_Left_i17 n x1 x2 x3 x0 (ofNat x0.length) 0:=mkI (by kernel_rfl)
theorem enabled_Left_c9 n x0 x1 x2 x3 x4 x5 x6:Eq (enabled_Left_i9 (n+1) x0 x1 x2 x3 x4 x5 x6) <| bif x6<x5 then ix x4 x6 fun e0=>enabled_Left_i9 n x0 (wrap .i64 (x1+ofNat e0.2.2.2.2.2.2.1.length)) (wrap .i64 (x2+ofNat e0.2.2.2.1.length)) x3 x4 x5 (wrap .i64 (x6+1)) else enabled_Left_i7 n x0 x1 x2 x3:=mkI (by kernel_rfl)
theorem enabled_Left_c17 n x0 x1 x2 x3 x4 x5:Eq (enabled_Left_i17 (n+1) x0 x1 x2 x3 x4 x5) <| bif x5<x4 then ix x3 x5 fun e0=>enabled_Left_i17 n x0 x1 (wrap .i64 (x2+ofNat e0.2.1.length)) x3 x4 (wrap .i64 (x5+1)) else some (((x0,x1,x2,()),0,())):=mkI (by kernel_rfl)
end Tg
