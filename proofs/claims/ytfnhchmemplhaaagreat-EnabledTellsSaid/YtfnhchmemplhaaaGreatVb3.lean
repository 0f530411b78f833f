import Derived.Test.YtfnhchmemplhaaaGreatProg
import Derived.Test.YtfnhchmemplhaaaGreatVT
/- Functions of the code, told plainly and checked by the kernel. -/
set_option linter.unusedVariables false
set_option linter.unusedSimpArgs false
set_option maxRecDepth 100000
namespace Tg
open Go.Abs hiding fuel
open Go.Proofs.Tryz (prog)
open Int (ofNat toNat)
open Go.IntKind (wrap)
noncomputable def tab82:Tb:=[]
def F82:TFun:=⟨[],[],[.c di],[.c (.p db)],qc [qn 2,qb,qn 6],[],[],0⟩
noncomputable def con82:=mkC tab82 prog 82 F82
theorem ok82:con82.ok prog 82:=mkO trivial (by kernel_rfl)
noncomputable def message_isTime (a0:Int):Option (Bool×Unit):=con82.fn (a0,())
theorem message_isTime_c a0:Eq (message_isTime a0) <| bif a0≥(-1099511627776) then some (decide (a0≤1099511627776),()) else some (false,()):=mkE (by kernel_rfl)
noncomputable def tab83:Tb:=[(82,con82)]
def F83:TFun:=⟨[],[],[.c di],[.c (.p db)],qc [qn 2,qb,qn 6],[],[],0⟩
noncomputable def con83:=mkC tab83 prog 83 F83
theorem ok83:con83.ok prog 83:=mkO ⟨ok82,trivial⟩ (by kernel_rfl)
noncomputable def message_isMark (a0:Int):Option (Bool×Unit):=con83.fn (a0,())
theorem message_isMark_c a0:Eq (message_isMark a0) <| (message_isTime a0).bind fun e0=>bif e0.1 then some (true,()) else some (a0==9223372036854775807,()):=mkE (by kernel_rfl)
noncomputable def tab60:Tb:=[(82,con82),(83,con83)]
def F60:TFun:=⟨[5,3],[(3,qc [qn 1,[.boxN 97 10 [.p (.int .u8),.p di,.p di,.p di,.p di,.p di,.p di,.p di,.p di,.p di]],qn 1,qb,[.boxN 97 10 [.p (.int .u8),.p di,.p di,.p di,.p di,.p di,.p di,.p di,.p di,.p di]],qn 54]),(5,qc [qn 1,[.boxN 97 10 [.p (.int .u8),.p di,.p di,.p di,.p di,.p di,.p di,.p di,.p di,.p di]],qn 1,qb,[.boxN 97 10 [.p (.int .u8),.p di,.p di,.p di,.p di,.p di,.p di,.p di,.p di,.p di]],qn 5,[.c (.p (.int .u8))],qb,qn 47])],[.a Vq2],[.c (.p di)],qc [qn 2,qi,qn 56],[],[],0⟩
noncomputable def con60:=mkC tab60 prog 60 F60
theorem ok60:con60.ok prog 60:=mkO ⟨ok82,ok83,trivial⟩ (by kernel_rfl)
noncomputable def message_Check (a0:Vy8):Option (Int×Unit):=con60.fn (a0,())
noncomputable def message_Check_i3 (n:Nat)(x0 x1 x2 x3 x4 x5 x6 x7 x8 x9:Int)(x10:Bool)(x11 x12 x13 x14 x15 x16 x17 x18 x19 x20:Int):Option (Int×Unit):=itr tab60 prog 60 F60 n 3 (x0,x1,x2,x3,x4,x5,x6,x7,x8,x9,x10,x11,x12,x13,x14,x15,x16,x17,x18,x19,x20,())
noncomputable def message_Check_i5 (n:Nat)(x0 x1 x2 x3 x4 x5 x6 x7 x8 x9:Int)(x10:Bool)(x11 x12 x13 x14 x15 x16 x17 x18 x19 x20 x21:Int)(x22:Bool):Option (Int×Unit):=itr tab60 prog 60 F60 n 5 (x0,x1,x2,x3,x4,x5,x6,x7,x8,x9,x10,x11,x12,x13,x14,x15,x16,x17,x18,x19,x20,x21,x22,())
theorem message_Check_c a0:Eq (message_Check a0) <| bif a0.1==1 then message_Check_i5 fuel a0.1 a0.2.1 a0.2.2.1 a0.2.2.2.1 a0.2.2.2.2.1 a0.2.2.2.2.2.1 a0.2.2.2.2.2.2.1 a0.2.2.2.2.2.2.2.1 a0.2.2.2.2.2.2.2.2.1 a0.2.2.2.2.2.2.2.2.2.1 false a0.1 0 0 0 0 0 0 0 0 0 a0.1 true else message_Check_i5 fuel a0.1 a0.2.1 a0.2.2.1 a0.2.2.2.1 a0.2.2.2.2.1 a0.2.2.2.2.2.1 a0.2.2.2.2.2.2.1 a0.2.2.2.2.2.2.2.1 a0.2.2.2.2.2.2.2.2.1 a0.2.2.2.2.2.2.2.2.2.1 false a0.1 0 0 0 0 0 0 0 0 0 a0.1 (a0.1==4):=mkE (by kernel_rfl)
theorem message_Check_c3 n x0 x1 x2 x3 x4 x5 x6 x7 x8 x9 x10 x11 x12 x13 x14 x15 x16 x17 x18 x19 x20:Eq (message_Check_i3 (n+1) x0 x1 x2 x3 x4 x5 x6 x7 x8 x9 x10 x11 x12 x13 x14 x15 x16 x17 x18 x19 x20) <| bif !x10 then some (8,()) else bif !(x0==x11&&(x1==x12&&(x2==x13&&(x3==x14&&(x4==x15&&(x5==x16&&(x6==x17&&(x7==x18&&(x8==x19&&(x9==x20&&true)))))))))) then some (8,()) else some (0,()):=mkI (by kernel_rfl)
theorem message_Check_c5 n x0 x1 x2 x3 x4 x5 x6 x7 x8 x9 x10 x11 x12 x13 x14 x15 x16 x17 x18 x19 x20 x21 x22:Eq (message_Check_i5 (n+1) x0 x1 x2 x3 x4 x5 x6 x7 x8 x9 x10 x11 x12 x13 x14 x15 x16 x17 x18 x19 x20 x21 x22) <| bif x22 then (message_isTime x2).bind fun e0=>message_Check_i3 n x0 x1 x2 x3 x4 x5 x6 x7 x8 x9 e0.1 x11 x1 x2 x3 x15 x16 x17 x18 x19 x20 else bif x21==2 then (message_isMark x4).bind fun e0=>message_Check_i3 n x0 x1 x2 x3 x4 x5 x6 x7 x8 x9 e0.1 x11 x12 x13 x14 x4 x16 x17 x18 x19 x20 else bif x21==3 then let k1:=message_Check_i3 n x0 x1 x2 x3 x4 x5 x6 x7 x8 x9 false x11 x12 x13 x14 x15 x5 x6 x7 x8 x9;bif (-2199023255552)≤x6 then bif x6<x7 then message_Check_i3 n x0 x1 x2 x3 x4 x5 x6 x7 x8 x9 (decide (x7≤2199023255552)) x11 x12 x13 x14 x15 x5 x6 x7 x8 x9 else k1 else k1 else message_Check_i3 n x0 x1 x2 x3 x4 x5 x6 x7 x8 x9 x10 x11 x12 x13 x14 x15 x16 x17 x18 x19 x20:=mkI (by kernel_rfl)
noncomputable def tab40:Tb:=[(60,con60)]
def F40:TFun:=⟨[],[(6,qc [qn 23,[.c (.p (.sl Vq2))],qi,qi,qn 9])],[.a Vq10],[.c (.p di)],qc [qn 2,qi,qn 32],[],[],0⟩
noncomputable def con40:=mkC tab40 prog 40 F40
theorem ok40:con40.ok prog 40:=mkO ⟨ok60,trivial⟩ (by kernel_rfl)
noncomputable def channel_Check (a0:Vy4):Option (Int×Unit):=con40.fn (a0,())
noncomputable def channel_Check_i6 (n:Nat)(x0:(List Vy8))(x1 x2:Int):Option (Int×Unit):=itr tab40 prog 40 F40 n 6 (x0,x1,x2,())
theorem channel_Check_c a0:Eq (channel_Check a0) <| bif a0.1<1 then some (8,()) else bif a0.1>8 then some (8,()) else bif ofNat a0.2.1.length>a0.1 then some (8,()) else channel_Check_i6 fuel a0.2.1 (ofNat a0.2.1.length) 0:=mkE (by kernel_rfl)
theorem channel_Check_c6 n x0 x1 x2:Eq (channel_Check_i6 (n+1) x0 x1 x2) <| bif x2<x1 then ix x0 x2 fun e0=>(message_Check e0).bind fun e1=>bif e1.1 !=0 then some (e1.1,()) else channel_Check_i6 n x0 x1 (wrap .i64 (x2+1)) else some (0,()):=mkI (by kernel_rfl)
noncomputable def tab120:Tb:=[(83,con83),(82,con82)]
def F120:TFun:=⟨[],[],[.a Vq7],[.a [.p (.int .u8),.p di,.p di,.p di,.p di,.p di,.p di,.p di,.p di,.p di],.c (.p di)],qc [qn 2,[.boxN 97 10 [.p (.int .u8),.p di,.p di,.p di,.p di,.p di,.p di,.p di,.p di,.p di]],qi,qn 30],[],[],0⟩
noncomputable def con120:=mkC tab120 prog 120 F120
theorem ok120:con120.ok prog 120:=mkO ⟨ok83,ok82,trivial⟩ (by kernel_rfl)
noncomputable def message_Of (a0:(Bool×Int×Int×Int×Int×Unit)):Option (Vy8×Int×Unit):=con120.fn (a0,())
theorem message_Of_c a0:Eq (message_Of a0) <| let k1:Option (Vy8×Int×Unit):=some (((0,0,0,0,0,0,0,0,0,0,()),8,()));bif a0.1 then (message_isMark a0.2.1).bind fun e0=>bif !e0.1 then k1 else bif !(a0.2.2.1==0&&(a0.2.2.2.1==0&&(a0.2.2.2.2.1==0&&true))) then k1 else some (((2,0,0,0,a0.2.1,0,0,0,0,0,()),0,())) else bif a0.2.1 !=0 then k1 else (message_isTime a0.2.2.2.1).bind fun e0=>bif !e0.1 then k1 else some (((1,a0.2.2.1,a0.2.2.2.1,a0.2.2.2.2.1,0,0,0,0,0,0,()),0,())):=mkE (by kernel_rfl)
noncomputable def tab89:Tb:=[(120,con120)]
def F89:TFun:=⟨[],[],[.a Vq7],[.c (.p di)],qc [qn 2,qi,qn 8],[],[],0⟩
noncomputable def con89:=mkC tab89 prog 89 F89
theorem ok89:con89.ok prog 89:=mkO ⟨ok120,trivial⟩ (by kernel_rfl)
noncomputable def message_Event (a0:(Bool×Int×Int×Int×Int×Unit)):Option (Int×Unit):=con89.fn (a0,())
theorem message_Event_c a0:Eq (message_Event a0) <| (message_Of a0).bind fun e0=>some (e0.2.1,()):=mkE (by kernel_rfl)
noncomputable def tab84:Tb:=[]
def F84:TFun:=⟨[],[],[.c (.int .u8)],[.c (.p di),.c (.p di),.c (.p db),.c (.p db),.c (.p db),.c (.p db)],qc [qn 2,qi,qi,qb,qb,qb,qb,qn 15],[],[],0⟩
noncomputable def con84:=mkC tab84 prog 84 F84
theorem ok84:con84.ok prog 84:=mkO trivial (by kernel_rfl)
noncomputable def task_limits (a0:Int):Option (Int×Int×Bool×Bool×Bool×Bool×Unit):=con84.fn (a0,())
theorem task_limits_c a0:Eq (task_limits a0) <| bif a0==1 then some (0,0,false,true,false,false,()) else bif a0==2 then some (1,1,false,false,false,false,()) else bif a0==3 then some (0,0,false,false,false,false,()) else bif a0==4 then some (1,4,true,false,false,false,()) else bif a0==5 then some (2,2,true,false,false,false,()) else bif a0==6 then some (0,0,false,false,true,false,()) else bif a0==7 then some (0,0,false,false,false,true,()) else some (1,0,false,false,false,false,()):=mkE (by kernel_rfl)
noncomputable def tab85:Tb:=[]
def F85:TFun:=⟨[],[],[.c db,.c di],[.c (.p di)],qc [qn 4,qi,qn 2],[],[],0⟩
noncomputable def con85:=mkC tab85 prog 85 F85
theorem ok85:con85.ok prog 85:=mkO trivial (by kernel_rfl)
noncomputable def task_room (a0:Bool)(a1:Int):Option (Int×Unit):=con85.fn (a0,a1,())
theorem task_room_c a0 a1:Eq (task_room a0 a1) <| bif a0 then some (a1,()) else some (0,()):=mkE (by kernel_rfl)
noncomputable def tab86:Tb:=[(60,con60)]
def F86:TFun:=⟨[],[(3,qc [qn 5,[.c (.p (.sl Vq6))],qi,qi,qn 18])],[.c (.sl Vq6)],[.c (.p db)],qc [qn 2,qb,qn 23],[],[],0⟩
noncomputable def con86:=mkC tab86 prog 86 F86
theorem ok86:con86.ok prog 86:=mkO ⟨ok60,trivial⟩ (by kernel_rfl)
noncomputable def task_sends (a0:Vy3):Option (Bool×Unit):=con86.fn (a0,())
noncomputable def task_sends_i3 (n:Nat)(x0:Vy3)(x1 x2:Int):Option (Bool×Unit):=itr tab86 prog 86 F86 n 3 (x0,x1,x2,())
theorem task_sends_c a0:Eq (task_sends a0) <| task_sends_i3 fuel a0 (ofNat a0.length) 0:=mkE (by kernel_rfl)
theorem task_sends_c3 n x0 x1 x2:Eq (task_sends_i3 (n+1) x0 x1 x2) <| bif x2<x1 then ix x0 x2 fun e0=>bif e0.1<0 then some (false,()) else bif e0.1≥3 then some (false,()) else (message_Check e0.2).bind fun e1=>bif e1.1 !=0 then some (false,()) else task_sends_i3 n x0 x1 (wrap .i64 (x2+1)) else some (true,()):=mkI (by kernel_rfl)
noncomputable def tab88:Tb:=[(60,con60)]
def F88:TFun:=⟨[],[],[.c di],[.c (.p db)],qc [qn 2,qb,qn 8],[],[],0⟩
noncomputable def con88:=mkC tab88 prog 88 F88
theorem ok88:con88.ok prog 88:=mkO ⟨ok60,trivial⟩ (by kernel_rfl)
noncomputable def task_isMark (a0:Int):Option (Bool×Unit):=con88.fn (a0,())
theorem task_isMark_c a0:Eq (task_isMark a0) <| bif a0==(-9223372036854775808) then some (true,()) else (message_Check (2,0,0,0,a0,0,0,0,0,0,())).bind fun e0=>some (e0.1==0,()):=mkE (by kernel_rfl)
noncomputable def tab138:Tb:=[]
def F138:TFun:=⟨[],[],[.a [.int .i64,.int .i64,.int .i64,.int .i64]],[.c (.p di)],qc [qn 2,qi,qn 40],[],[],0⟩
noncomputable def con138:=mkC tab138 prog 138 F138
theorem ok138:con138.ok prog 138:=mkO trivial (by kernel_rfl)
noncomputable def accums_Check (a0:(Int×Int×Int×Int×Unit)):Option (Int×Unit):=con138.fn (a0,())
theorem accums_Check_c a0:Eq (accums_Check a0) <| let k1:Option (Int×Unit):=some (8,());bif a0.1==0 then bif !(a0.1==0&&(a0.2.1==0&&(a0.2.2.1==0&&(a0.2.2.2.1==0&&true)))) then k1 else some (0,()) else bif a0.1==1 then bif a0.2.1==a0.2.2.1 then bif !a0.2.1==a0.2.2.2.1 then k1 else some (0,()) else k1 else bif a0.1>1 then bif a0.1≤1073741824 then bif !decide (a0.2.2.1≤a0.2.2.2.1) then k1 else some (0,()) else k1 else k1:=mkE (by kernel_rfl)
noncomputable def tab118:Tb:=[(138,con138)]
def F118:TFun:=⟨[],[],[.a Vq3],[.c (.p db)],qc [qn 2,qb,qn 43],[],[],0⟩
noncomputable def con118:=mkC tab118 prog 118 F118
theorem ok118:con118.ok prog 118:=mkO ⟨ok138,trivial⟩ (by kernel_rfl)
noncomputable def store_right (a0:Vy12):Option (Bool×Unit):=con118.fn (a0,())
theorem store_right_c a0:Eq (store_right a0) <| let k1:=some (false,());bif a0.2.1<(-1100585369600) then k1 else bif a0.2.2.1≤a0.2.1 then k1 else bif a0.2.2.1>1100585369600 then k1 else (accums_Check (a0.2.2.2.1,a0.2.2.2.2.1,a0.2.2.2.2.2.1,a0.2.2.2.2.2.2.1,())).bind fun e0=>bif e0.1==0 then (accums_Check a0.2.2.2.2.2.2.2).bind fun e1=>bif e1.1==0 then some ((decide (wrap .i64 (a0.2.2.2.1+a0.2.2.2.2.2.2.2.1)>0),())) else k1 else k1:=mkE (by kernel_rfl)
noncomputable def tab166:Tb:=[]
def F166:TFun:=⟨[],[],[.c di],[.c (.p db)],qc [qn 2,qb,qn 3],[],[],0⟩
noncomputable def con166:=mkC tab166 prog 166 F166
theorem ok166:con166.ok prog 166:=mkO trivial (by kernel_rfl)
noncomputable def cmp_isNaN_int64_ (a0:Int):Option (Bool×Unit):=con166.fn (a0,())
theorem cmp_isNaN_int64__c a0:Eq (cmp_isNaN_int64_ a0) <| some (a0 !=a0,()):=mkE (by kernel_rfl)
noncomputable def tab140:Tb:=[(166,con166)]
def F140:TFun:=⟨[],[],[.c di,.c di],[.c (.p di)],qc [qn 4,qi,qn 15],[],[],0⟩
noncomputable def con140:=mkC tab140 prog 140 F140
theorem ok140:con140.ok prog 140:=mkO ⟨ok166,trivial⟩ (by kernel_rfl)
noncomputable def cmp_Compare_int64_ (a0 a1:Int):Option (Int×Unit):=con140.fn (a0,a1,())
theorem cmp_Compare_int64__c a0 a1:Eq (cmp_Compare_int64_ a0 a1) <| (cmp_isNaN_int64_ a0).bind fun e0=>(cmp_isNaN_int64_ a1).bind fun e1=>bif e0.1 then bif e1.1 then some (0,()) else some ((-1),()) else bif e1.1 then some (1,()) else bif a0<a1 then some ((-1),()) else bif a0>a1 then some (1,()) else some (0,()):=mkE (by kernel_rfl)
noncomputable def tab139:Tb:=[]
def F139:TFun:=⟨[],[(4,qc [qn 3,qi,qn 2,[.c (.p (.sl Vq12))],qi,qi,qn 9])],[.c (.sl Vq12)],[.c (.p di)],qc [qn 2,qi,qn 15],[],[],0⟩
noncomputable def con139:=mkC tab139 prog 139 F139
theorem ok139:con139.ok prog 139:=mkO trivial (by kernel_rfl)
noncomputable def cmp_Or_int_ (a0:Vy9):Option (Int×Unit):=con139.fn (a0,())
noncomputable def cmp_Or_int__i4 (n:Nat)(x0:Int)(x1:Vy9)(x2 x3:Int):Option (Int×Unit):=itr tab139 prog 139 F139 n 4 (x0,x1,x2,x3,())
theorem cmp_Or_int__c a0:Eq (cmp_Or_int_ a0) <| cmp_Or_int__i4 fuel 0 a0 (ofNat a0.length) 0:=mkE (by kernel_rfl)
theorem cmp_Or_int__c4 n x0 x1 x2 x3:Eq (cmp_Or_int__i4 (n+1) x0 x1 x2 x3) <| bif x3<x2 then ix x1 x3 fun e0=>bif e0.1 !=x0 then some (e0.1,()) else cmp_Or_int__i4 n x0 x1 x2 (wrap .i64 (x3+1)) else some (x0,()):=mkI (by kernel_rfl)
noncomputable def tab119:Tb:=[(140,con140),(139,con139)]
def F119:TFun:=⟨[],[],[.a Vq3,.a Vq3],[.c (.p di)],qc [qn 4,qi,qn 21],[],[],0⟩
noncomputable def con119:=mkC tab119 prog 119 F119
theorem ok119:con119.ok prog 119:=mkO ⟨ok140,ok139,trivial⟩ (by kernel_rfl)
noncomputable def store_order (a0 a1:Vy12):Option (Int×Unit):=con119.fn (a0,a1,())
theorem store_order_c a0 a1:Eq (store_order a0 a1) <| (cmp_Compare_int64_ a0.2.2.1 a1.2.2.1).bind fun e0=>(cmp_Compare_int64_ a0.2.1 a1.2.1).bind fun e1=>(cmp_Compare_int64_ a0.1 a1.1).bind fun e2=>(cmp_Or_int_ [(e0.1,()),(e1.1,()),(e2.1,())]).bind fun e3=>some (e3.1,()):=mkE (by kernel_rfl)
noncomputable def tab87:Tb:=[(118,con118),(119,con119)]
def F87:TFun:=⟨[],[(6,qc [[.c (.p (.sl Vq3))],qn 7,[.c (.p (.sl Vq3))],qi,qi,qn 22])],[.c (.sl Vq3)],[.c (.p di)],qc [qn 2,qi,qn 30],[],[],0⟩
noncomputable def con87:=mkC tab87 prog 87 F87
theorem ok87:con87.ok prog 87:=mkO ⟨ok118,ok119,trivial⟩ (by kernel_rfl)
noncomputable def store_Check (a0:Vy3):Option (Int×Unit):=con87.fn (a0,())
noncomputable def store_Check_i6 (n:Nat)(x0 x1:Vy3)(x2 x3:Int):Option (Int×Unit):=itr tab87 prog 87 F87 n 6 (x0,x1,x2,x3,())
theorem store_Check_c a0:Eq (store_Check a0) <| bif ofNat a0.length>4000 then some (4,()) else store_Check_i6 fuel a0 a0 (ofNat a0.length) 0:=mkE (by kernel_rfl)
theorem store_Check_c6 n x0 x1 x2 x3:Eq (store_Check_i6 (n+1) x0 x1 x2 x3) <| bif x3<x2 then ix x1 x3 fun e0=>(store_right e0).bind fun e1=>bif !e1.1 then some (8,()) else let k1:=store_Check_i6 n x0 x1 x2 (wrap .i64 (x3+1));bif x3>0 then ix x0 (wrap .i64 (x3 - 1)) fun e2=>(store_order e2 e0).bind fun e3=>bif e3.1≥0 then some (8,()) else k1 else k1 else some (0,()):=mkI (by kernel_rfl)
noncomputable def tab61:Tb:=[(84,con84),(85,con85),(86,con86),(87,con87),(88,con88),(89,con89),(60,con60)]
def F61:TFun:=⟨[1,3,4,5,6,13,21,29,37,45,50],[(1,qc [qn 1,[.boxN 73 9 [.p (.int .u8),.p di,.p di,.p (.sl Vq6),.p (.sl Vq12),.p (.sl Vq3),.p (.sl Vq7),.p (.sl Vq4),.p (.sl Vq8)]],qn 1,qi,qi,qb,qb,qb,qb,qn 193]),(3,qc [qn 1,[.boxN 73 9 [.p (.int .u8),.any,.any,.p (.sl Vq6),.p (.sl Vq12),.p (.sl Vq3),.p (.sl Vq7),.p (.sl Vq4),.p (.sl Vq8)]],qn 1,qi,qi,qb,qb,qb,qb,qb,qn 192]),(4,qc [qn 1,[.boxN 73 9 [.p (.int .u8),.any,.any,.p (.sl Vq6),.p (.sl Vq12),.p (.sl Vq3),.p (.sl Vq7),.p (.sl Vq4),.p (.sl Vq8)]],qn 7,qb,qb,qn 191]),(5,qc [qn 1,[.boxN 73 9 [.p (.int .u8),.any,.any,.any,.p (.sl Vq12),.p (.sl Vq3),.p (.sl Vq7),.p (.sl Vq4),.p (.sl Vq8)]],qn 200]),(6,qc [qn 1,[.boxN 73 9 [.p (.int .u8),.any,.any,.any,.p (.sl Vq12),.p (.sl Vq3),.p (.sl Vq7),.p (.sl Vq4),.p (.sl Vq8)]],qn 118,qb,qn 81]),(13,qc [qn 1,[.boxN 73 9 [.p (.int .u8),.any,.any,.any,.any,.p (.sl Vq3),.p (.sl Vq7),.p (.sl Vq4),.p (.sl Vq8)]],qn 9,qb,qn 110,[.c (.p (.sl Vq12))],qi,qi,qn 77]),(21,qc [qn 1,[.boxN 73 9 [.p (.int .u8),.any,.any,.any,.any,.p (.sl Vq3),.any,.p (.sl Vq4),.p (.sl Vq8)]],qn 9,qb,qn 123,[.c (.p (.sl Vq7))],qi,qi,qn 64]),(29,qc [qn 1,[.boxN 73 9 [.p (.int .u8),.any,.any,.any,.any,.p (.sl Vq3),.any,.any,.p (.sl Vq8)]],qn 9,qb,qn 137,[.c (.p (.sl Vq4))],qi,qi,qn 50]),(37,qc [qn 1,[.boxN 73 9 [.p (.int .u8),.any,.any,.any,.any,.p (.sl Vq3),.any,.any,.any]],qn 9,qb,qn 152,[.c (.p (.sl Vq8))],qi,qi,qn 35]),(45,qc [qn 1,[.boxN 73 9 [.p (.int .u8),.any,.any,.any,.any,.any,.any,.any,.any]],qn 9,qb,qn 167,[.c (.p (.sl Vq3))],qi,qi,qn 20]),(50,qn 202)],[.a Vq1],[.c (.p di)],qc [qn 2,qi,qn 199],[],[],0⟩
noncomputable def con61:=mkC tab61 prog 61 F61
theorem ok61:con61.ok prog 61:=mkO ⟨ok84,ok85,ok86,ok87,ok88,ok89,ok60,trivial⟩ (by kernel_rfl)
noncomputable def task_Check (a0:Vy1):Option (Int×Unit):=con61.fn (a0,())
noncomputable def task_Check_i1 (n:Nat)(x0 x1 x2:Int)(x3:Vy3)(x4:Vy9)(x5:Vy3)(x6:Vy5)(x7:(List Vy2))(x8:Vy6)(x9 x10:Int)(x11 x12 x13 x14:Bool):Option (Int×Unit):=itr tab61 prog 61 F61 n 1 (x0,x1,x2,x3,x4,x5,x6,x7,x8,x9,x10,x11,x12,x13,x14,())
noncomputable def task_Check_i3 (n:Nat)(x0:Int)(x1:Vy3)(x2:Vy9)(x3:Vy3)(x4:Vy5)(x5:(List Vy2))(x6:Vy6)(x7 x8:Int)(x9 x10 x11 x12 x13:Bool):Option (Int×Unit):=itr tab61 prog 61 F61 n 3 (x0,x1,x2,x3,x4,x5,x6,x7,x8,x9,x10,x11,x12,x13,())
noncomputable def task_Check_i4 (n:Nat)(x0:Int)(x1:Vy3)(x2:Vy9)(x3:Vy3)(x4:Vy5)(x5:(List Vy2))(x6:Vy6)(x7 x8:Bool):Option (Int×Unit):=itr tab61 prog 61 F61 n 4 (x0,x1,x2,x3,x4,x5,x6,x7,x8,())
noncomputable def task_Check_i5 (n:Nat)(x0:Int)(x1:Vy9)(x2:Vy3)(x3:Vy5)(x4:(List Vy2))(x5:Vy6):Option (Int×Unit):=itr tab61 prog 61 F61 n 5 (x0,x1,x2,x3,x4,x5,())
noncomputable def task_Check_i6 (n:Nat)(x0:Int)(x1:Vy9)(x2:Vy3)(x3:Vy5)(x4:(List Vy2))(x5:Vy6)(x6:Bool):Option (Int×Unit):=itr tab61 prog 61 F61 n 6 (x0,x1,x2,x3,x4,x5,x6,())
noncomputable def task_Check_i13 (n:Nat)(x0:Int)(x1:Vy3)(x2:Vy5)(x3:(List Vy2))(x4:Vy6)(x5:Bool)(x6:Vy9)(x7 x8:Int):Option (Int×Unit):=itr tab61 prog 61 F61 n 13 (x0,x1,x2,x3,x4,x5,x6,x7,x8,())
noncomputable def task_Check_i21 (n:Nat)(x0:Int)(x1:Vy3)(x2:(List Vy2))(x3:Vy6)(x4:Bool)(x5:Vy5)(x6 x7:Int):Option (Int×Unit):=itr tab61 prog 61 F61 n 21 (x0,x1,x2,x3,x4,x5,x6,x7,())
noncomputable def task_Check_i29 (n:Nat)(x0:Int)(x1:Vy3)(x2:Vy6)(x3:Bool)(x4:(List Vy2))(x5 x6:Int):Option (Int×Unit):=itr tab61 prog 61 F61 n 29 (x0,x1,x2,x3,x4,x5,x6,())
noncomputable def task_Check_i37 (n:Nat)(x0:Int)(x1:Vy3)(x2:Bool)(x3:Vy6)(x4 x5:Int):Option (Int×Unit):=itr tab61 prog 61 F61 n 37 (x0,x1,x2,x3,x4,x5,())
noncomputable def task_Check_i45 (n:Nat)(x0:Int)(x1:Bool)(x2:Vy3)(x3 x4:Int):Option (Int×Unit):=itr tab61 prog 61 F61 n 45 (x0,x1,x2,x3,x4,())
noncomputable def task_Check_i50 (n:Nat):Option (Int×Unit):=itr tab61 prog 61 F61 n 50 ()
theorem task_Check_c a0:Eq (task_Check a0) <| (task_limits a0.1).bind fun e0=>task_Check_i1 fuel a0.1 a0.2.1 a0.2.2.1 a0.2.2.2.1 a0.2.2.2.2.1 a0.2.2.2.2.2.1 a0.2.2.2.2.2.2.1 a0.2.2.2.2.2.2.2.1 a0.2.2.2.2.2.2.2.2.1 e0.1 e0.2.1 e0.2.2.1 e0.2.2.2.1 e0.2.2.2.2.1 e0.2.2.2.2.2.1:=mkE (by kernel_rfl)
theorem task_Check_c1 n x0 x1 x2 x3 x4 x5 x6 x7 x8 x9 x10 x11 x12 x13 x14:Eq (task_Check_i1 (n+1) x0 x1 x2 x3 x4 x5 x6 x7 x8 x9 x10 x11 x12 x13 x14) <| let k1:=task_Check_i3 n x0 x3 x4 x5 x6 x7 x8 x9 x10 x11 x12 x13 x14 false;bif x2≥0 then bif x2<20 then bif x1≥0 then task_Check_i3 n x0 x3 x4 x5 x6 x7 x8 x9 x10 x11 x12 x13 x14 (decide (x1<4)) else k1 else k1 else k1:=mkI (by kernel_rfl)
theorem task_Check_c3 n x0 x1 x2 x3 x4 x5 x6 x7 x8 x9 x10 x11 x12 x13:Eq (task_Check_i3 (n+1) x0 x1 x2 x3 x4 x5 x6 x7 x8 x9 x10 x11 x12 x13) <| let k1:=task_Check_i4 n x0 x1 x2 x3 x4 x5 x6 x13 false;bif ofNat x1.length≤4000 then bif ofNat x2.length≥x7 then bif ofNat x2.length≤x8 then (task_room x9 4000).bind fun e0=>bif ofNat x3.length≤e0.1 then (task_room x10 60).bind fun e1=>bif ofNat x4.length≤e1.1 then (task_room x11 4000).bind fun e2=>bif ofNat x5.length≤e2.1 then (task_room x12 4000).bind fun e3=>task_Check_i4 n x0 x1 x2 x3 x4 x5 x6 x13 (decide (ofNat x6.length≤e3.1)) else k1 else k1 else k1 else k1 else k1 else k1:=mkI (by kernel_rfl)
theorem task_Check_c4 n x0 x1 x2 x3 x4 x5 x6 x7 x8:Eq (task_Check_i4 (n+1) x0 x1 x2 x3 x4 x5 x6 x7 x8) <| let k1:=task_Check_i6 n x0 x2 x3 x4 x5 x6 true;bif !x7 then k1 else bif !x8 then k1 else (task_sends x1).bind fun e0=>bif !e0.1 then k1 else (store_Check x3).bind fun e1=>task_Check_i6 n x0 x2 x3 x4 x5 x6 (e1.1 !=0):=mkI (by kernel_rfl)
theorem task_Check_c5 n x0 x1 x2 x3 x4 x5:Eq (task_Check_i5 (n+1) x0 x1 x2 x3 x4 x5) <| task_Check_i13 n x0 x2 x3 x4 x5 true x1 (ofNat x1.length) 0:=mkI (by kernel_rfl)
theorem task_Check_c6 n x0 x1 x2 x3 x4 x5 x6:Eq (task_Check_i6 (n+1) x0 x1 x2 x3 x4 x5 x6) <| bif x6 then some (8,()) else task_Check_i5 n x0 x1 x2 x3 x4 x5:=mkI (by kernel_rfl)
theorem task_Check_c13 n x0 x1 x2 x3 x4 x5 x6 x7 x8:Eq (task_Check_i13 (n+1) x0 x1 x2 x3 x4 x5 x6 x7 x8) <| bif x8<x7 then ix x6 x8 fun e0=>bif x5 then (task_isMark e0.1).bind fun e1=>task_Check_i13 n x0 x1 x2 x3 x4 e1.1 x6 x7 (wrap .i64 (x8+1)) else task_Check_i13 n x0 x1 x2 x3 x4 false x6 x7 (wrap .i64 (x8+1)) else task_Check_i21 n x0 x1 x3 x4 x5 x2 (ofNat x2.length) 0:=mkI (by kernel_rfl)
theorem task_Check_c21 n x0 x1 x2 x3 x4 x5 x6 x7:Eq (task_Check_i21 (n+1) x0 x1 x2 x3 x4 x5 x6 x7) <| bif x7<x6 then ix x5 x7 fun e0=>bif x4 then (message_Event e0).bind fun e1=>task_Check_i21 n x0 x1 x2 x3 (e1.1==0) x5 x6 (wrap .i64 (x7+1)) else task_Check_i21 n x0 x1 x2 x3 false x5 x6 (wrap .i64 (x7+1)) else task_Check_i29 n x0 x1 x3 x4 x2 (ofNat x2.length) 0:=mkI (by kernel_rfl)
theorem task_Check_c29 n x0 x1 x2 x3 x4 x5 x6:Eq (task_Check_i29 (n+1) x0 x1 x2 x3 x4 x5 x6) <| bif x6<x5 then ix x4 x6 fun e0=>bif x3 then (message_Check (3,0,0,0,0,e0)).bind fun e1=>task_Check_i29 n x0 x1 x2 (e1.1==0) x4 x5 (wrap .i64 (x6+1)) else task_Check_i29 n x0 x1 x2 false x4 x5 (wrap .i64 (x6+1)) else task_Check_i37 n x0 x1 x3 x2 (ofNat x2.length) 0:=mkI (by kernel_rfl)
theorem task_Check_c37 n x0 x1 x2 x3 x4 x5:Eq (task_Check_i37 (n+1) x0 x1 x2 x3 x4 x5) <| bif x5<x4 then ix x3 x5 fun e0=>bif x2 then (message_Check (4,e0.1,e0.2.1,e0.2.2.1,0,0,0,0,0,0,())).bind fun e1=>task_Check_i37 n x0 x1 (e1.1==0) x3 x4 (wrap .i64 (x5+1)) else task_Check_i37 n x0 x1 false x3 x4 (wrap .i64 (x5+1)) else task_Check_i45 n x0 x2 x1 (ofNat x1.length) 0:=mkI (by kernel_rfl)
theorem task_Check_c45 n x0 x1 x2 x3 x4:Eq (task_Check_i45 (n+1) x0 x1 x2 x3 x4) <| bif x4<x3 then ix x2 x4 fun e0=>bif x1 then bif x0 !=4 then task_Check_i45 n x0 true x2 x3 (wrap .i64 (x4+1)) else task_Check_i45 n x0 (e0.2.2.2.2.2.2.2.1==0) x2 x3 (wrap .i64 (x4+1)) else task_Check_i45 n x0 false x2 x3 (wrap .i64 (x4+1)) else bif !x1 then some (8,()) else task_Check_i50 n:=mkI (by kernel_rfl)
theorem task_Check_c50 n  : Eq (task_Check_i50 (n+1) ) <| some (0,()):=mkI (by kernel_rfl)
end Tg
