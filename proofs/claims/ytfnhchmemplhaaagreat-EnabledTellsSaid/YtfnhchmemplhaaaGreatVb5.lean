import Derived.Test.YtfnhchmemplhaaaGreatProg
import Derived.Test.YtfnhchmemplhaaaGreatVT
/- Functions of the code, told plainly and checked by the kernel. -/
set_option linter.unusedVariables false
set_option linter.unusedSimpArgs false
set_option maxRecDepth 100000
namespace Tg
open Go.Abs hiding fuel
open Go.Proofs.Tryz (prog)
open Int (ofNat toNat)
open Go.IntKind (wrap)
noncomputable def tab128:Tb:=[]
def F128:TFun:=⟨[],[],[.c di,.c di,.c di],[.c (.p db)],qc [qn 6,qb,qn 8],[],[],0⟩
noncomputable def con128:=mkC tab128 prog 128 F128
theorem ok128:con128.ok prog 128:=mkO trivial (by kernel_rfl)
noncomputable def ref24_between (a0 a1 a2:Int):Option (Bool×Unit):=con128.fn (a0,a1,a2,())
theorem ref24_between_c a0 a1 a2:Eq (ref24_between a0 a1 a2) <| bif a0≥a1 then some (decide (a0≤a2),()) else some (false,()):=mkE (by kernel_rfl)
noncomputable def tab99:Tb:=[(128,con128)]
def F99:TFun:=⟨[],[],[.c (.int .u8),.c di,.c di],[.c (.p db)],qc [qn 6,qb,qn 59],[],[],0⟩
noncomputable def con99:=mkC tab99 prog 99 F99
theorem ok99:con99.ok prog 99:=mkO ⟨ok128,trivial⟩ (by kernel_rfl)
noncomputable def ref24_Many (a0 a1 a2:Int):Option (Bool×Unit):=con99.fn (a0,a1,a2,())
theorem ref24_Many_c a0 a1 a2:Eq (ref24_Many a0 a1 a2) <| let k1:=some (false,());bif a0==1 then bif a1==0 then some (a2==1,()) else k1 else bif a0==2 then bif a1==1 then match ref24_between a2 1 2 with | none=>none | some e0=>some (e0.1,()) else k1 else bif a0==3 then bif a1==1 then match ref24_between a2 1 3 with | none=>none | some e0=>some (e0.1,()) else k1 else bif a0==4 then match ref24_between a1 1 4 with | none=>none | some e0=>bif e0.1 then some (a2==1,()) else k1 else bif a0==5 then bif a1==2 then some (a2==1,()) else k1 else bif a0==6 then match ref24_between a1 1 3 with | none=>none | some e0=>bif e0.1 then some (a2==0,()) else k1 else bif a0==7 then match ref24_between a1 1 4 with | none=>none | some e0=>bif e0.1 then some (a2==0,()) else k1 else k1:=mkE (by kernel_rfl)
noncomputable def tab96:Tb:=[]
def F96:TFun:=⟨[],[(4,qc [qn 1,qi,[.boxN 31 2 [.any,.p (.sl Vq4)]],qn 2,[.boxN 84 5 [.p di,.p di,.p di,.p di,.any]],qi,qn 49])],[.a [.sl Vq13,.sl Vq4],.c di],[.c (.p db)],qc [qn 4,qb,qn 51],[],[],0⟩
noncomputable def con96:=mkC tab96 prog 96 F96
theorem ok96:con96.ok prog 96:=mkO trivial (by kernel_rfl)
noncomputable def ref24_apart (a0:Vy14)(a1:Int):Option (Bool×Unit):=con96.fn (a0,a1,())
noncomputable def ref24_apart_i4 (n:Nat)(x0:Int)(x1:(List Vy2))(x2 x3 x4 x5 x6:Int):Option (Bool×Unit):=itr tab96 prog 96 F96 n 4 (x0,x1,x2,x3,x4,x5,x6,())
theorem ref24_apart_c a0 a1:Eq (ref24_apart a0 a1) <| bif 0≤a1 then match a0.2.1[a1.toNat]? with | none=>none | some e0=>ref24_apart_i4 fuel a1 a0.2.1 e0.1 e0.2.1 e0.2.2.1 e0.2.2.2.1 0 else none:=mkE (by kernel_rfl)
theorem ref24_apart_c4 n x0 x1 x2 x3 x4 x5 x6:Eq (ref24_apart_i4 (n+1) x0 x1 x2 x3 x4 x5 x6) <| bif x6<x0 then bif 0≤x6 then match x1[x6.toNat]? with | none=>none | some e0=>bif e0.1>x2 then some (false,()) else let k1:=let k3:=ref24_apart_i4 n x0 x1 x2 x3 x4 x5 (wrap .i64 (x6+1));bif e0.2.2.1==x4 then bif e0.2.2.2.1==x5 then some (false,()) else k3 else k3;bif e0.1==x2 then bif e0.2.1≥x3 then some (false,()) else k1 else k1 else none else some (true,()):=mkI (by kernel_rfl)
noncomputable def tab97:Tb:=[]
def F97:TFun:=⟨[],[(4,qc [qn 1,qi,[.boxN 31 2 [.any,.p (.sl Vq4)]],qn 2,qi,qi,qn 18])],[.a [.sl Vq13,.sl Vq4],.c di],[.c (.p di)],qc [qn 4,qi,qn 20],[],[],0⟩
noncomputable def con97:=mkC tab97 prog 97 F97
theorem ok97:con97.ok prog 97:=mkO trivial (by kernel_rfl)
noncomputable def ref24_Outputs (a0:Vy14)(a1:Int):Option (Int×Unit):=con97.fn (a0,a1,())
noncomputable def ref24_Outputs_i4 (n:Nat)(x0:Int)(x1:(List Vy2))(x2 x3:Int):Option (Int×Unit):=itr tab97 prog 97 F97 n 4 (x0,x1,x2,x3,())
theorem ref24_Outputs_c a0 a1:Eq (ref24_Outputs a0 a1) <| ref24_Outputs_i4 fuel a1 a0.2.1 0 0:=mkE (by kernel_rfl)
theorem ref24_Outputs_c4 n x0 x1 x2 x3:Eq (ref24_Outputs_i4 (n+1) x0 x1 x2 x3) <| bif x3<ofNat x1.length then bif 0≤x3 then match x1[x3.toNat]? with | none=>none | some e0=>bif e0.1==x0 then ref24_Outputs_i4 n x0 x1 (wrap .i64 (x2+1)) (wrap .i64 (x3+1)) else ref24_Outputs_i4 n x0 x1 x2 (wrap .i64 (x3+1)) else none else some (x2,()):=mkI (by kernel_rfl)
noncomputable def tab98:Tb:=[]
def F98:TFun:=⟨[],[(4,qc [qn 1,qi,[.boxN 31 2 [.any,.p (.sl Vq4)]],qn 2,qi,qi,qn 18])],[.a [.sl Vq13,.sl Vq4],.c di],[.c (.p di)],qc [qn 4,qi,qn 20],[],[],0⟩
noncomputable def con98:=mkC tab98 prog 98 F98
theorem ok98:con98.ok prog 98:=mkO trivial (by kernel_rfl)
noncomputable def ref24_Inputs (a0:Vy14)(a1:Int):Option (Int×Unit):=con98.fn (a0,a1,())
noncomputable def ref24_Inputs_i4 (n:Nat)(x0:Int)(x1:(List Vy2))(x2 x3:Int):Option (Int×Unit):=itr tab98 prog 98 F98 n 4 (x0,x1,x2,x3,())
theorem ref24_Inputs_c a0 a1:Eq (ref24_Inputs a0 a1) <| ref24_Inputs_i4 fuel a1 a0.2.1 0 0:=mkE (by kernel_rfl)
theorem ref24_Inputs_c4 n x0 x1 x2 x3:Eq (ref24_Inputs_i4 (n+1) x0 x1 x2 x3) <| bif x3<ofNat x1.length then bif 0≤x3 then match x1[x3.toNat]? with | none=>none | some e0=>bif e0.2.2.1==x0 then ref24_Inputs_i4 n x0 x1 (wrap .i64 (x2+1)) (wrap .i64 (x3+1)) else ref24_Inputs_i4 n x0 x1 x2 (wrap .i64 (x3+1)) else none else some (x2,()):=mkI (by kernel_rfl)
noncomputable def tab100:Tb:=[]
def F100:TFun:=⟨[],[(4,qc [qn 1,qi,[.boxN 31 2 [.p (.sl Vq13),.p (.sl Vq4)]],qn 2,[.c (.rowN 4 1 [.bool])],qi,qn 41]),(9,qc [qn 1,qi,[.boxN 31 2 [.p (.sl Vq13),.p (.sl Vq4)]],qn 2,[.c (.rowN 4 1 [.bool])],qi,qi,qn 40])],[.a [.sl Vq13,.sl Vq4],.c di],[.c (.s 4 1 [.bool])],qc [qn 4,[.c (.rowN 4 1 [.bool])],qn 43],[],[],0⟩
noncomputable def con100:=mkC tab100 prog 100 F100
theorem ok100:con100.ok prog 100:=mkO trivial (by kernel_rfl)
noncomputable def con100p:TCon:=⟨con100.args,[.c (.p (.sl [.bool]))],con100.fn⟩
theorem ok100p:con100p.ok prog 100:=TCon.frz (c:=con100) ok100 rfl
noncomputable def ref24_Reaches (a0:Vy14)(a1:Int):Option (List (Bool×Unit)×Unit):=con100.fn (a0,a1,())
noncomputable def ref24_Reaches_i4 (n:Nat)(x0:Int)(x1:(List Vy11))(x2:(List Vy2))(x3:(List (Bool×Unit)))(x4:Int):Option (List (Bool×Unit)×Unit):=itr tab100 prog 100 F100 n 4 (x0,x1,x2,x3,x4,())
noncomputable def ref24_Reaches_i9 (n:Nat)(x0:Int)(x1:(List Vy11))(x2:(List Vy2))(x3:(List (Bool×Unit)))(x4 x5:Int):Option (List (Bool×Unit)×Unit):=itr tab100 prog 100 F100 n 9 (x0,x1,x2,x3,x4,x5,())
theorem ref24_Reaches_c a0 a1:Eq (ref24_Reaches a0 a1) <| bif decide (toNat (ofNat a0.1.length)≤toNat (ofNat a0.1.length))&&(decide (1*toNat (ofNat a0.1.length)≤281474976710656)&&decide (toNat (ofNat a0.1.length)≤9223372036854775807)) then ref24_Reaches_i4 fuel a1 a0.1 a0.2.1 (List.replicate (toNat (ofNat a0.1.length)) (false,())) 0 else none:=mkE (by kernel_rfl)
theorem ref24_Reaches_c4 n x0 x1 x2 x3 x4:Eq (ref24_Reaches_i4 (n+1) x0 x1 x2 x3 x4) <| bif x4≤ofNat x1.length then ref24_Reaches_i9 n x0 x1 x2 x3 x4 0 else some (x3,()):=mkI (by kernel_rfl)
theorem ref24_Reaches_c9 n x0 x1 x2 x3 x4 x5:Eq (ref24_Reaches_i9 (n+1) x0 x1 x2 x3 x4 x5) <| bif x5<ofNat x2.length then bif 0≤x5 then match x2[x5.toNat]? with | none=>none | some e0=>bif e0.1==x0 then bif 0≤e0.2.2.1 then bif e0.2.2.1.toNat<x3.length then match x3[e0.2.2.1.toNat]? with | none=>none | some e1=>ref24_Reaches_i9 n x0 x1 x2 (List.set x3 e0.2.2.1.toNat (true,e1.2)) x4 (wrap .i64 (x5+1)) else none else none else bif 0≤e0.1 then bif e0.1.toNat<x3.length then match x3[e0.1.toNat]? with | none=>none | some e1=>bif e1.1 then bif 0≤e0.2.2.1 then bif e0.2.2.1.toNat<x3.length then match x3[e0.2.2.1.toNat]? with | none=>none | some e2=>ref24_Reaches_i9 n x0 x1 x2 (List.set x3 e0.2.2.1.toNat (true,e2.2)) x4 (wrap .i64 (x5+1)) else none else none else ref24_Reaches_i9 n x0 x1 x2 x3 x4 (wrap .i64 (x5+1)) else none else none else none else ref24_Reaches_i4 n x0 x1 x2 x3 (wrap .i64 (x4+1)):=mkI (by kernel_rfl)
noncomputable def tab65:Tb:=[(96,con96),(97,con97),(98,con98),(99,con99),(100,con100p)]
def F65:TFun:=⟨[1,10],[(1,qc [qn 1,[.boxN 31 2 [.p (.sl Vq13),.p (.sl Vq4)]],qn 137]),(3,qc [qn 1,[.boxN 31 2 [.p (.sl Vq13),.p (.sl Vq4)]],qn 1,qi,qn 135]),(10,qc [qn 1,[.boxN 31 2 [.p (.sl Vq13),.p (.sl Vq4)]],qn 137]),(12,qc [qn 1,[.boxN 31 2 [.p (.sl Vq13),.p (.sl Vq4)]],qn 3,qi,qn 133]),(21,qc [qn 1,[.boxN 31 2 [.p (.sl Vq13),.p (.sl Vq4)]],qn 5,qi,qn 131])],[.a [.sl Vq13,.sl Vq4]],[.c (.p db)],qc [qn 2,qb,qn 136],[],[],0⟩
noncomputable def con65:=mkC tab65 prog 65 F65
theorem ok65:con65.ok prog 65:=mkO ⟨ok96,ok97,ok98,ok99,ok100p,trivial⟩ (by kernel_rfl)
noncomputable def ref24_Valid (a0:Vy14):Option (Bool×Unit):=con65.fn (a0,())
noncomputable def ref24_Valid_i1 (n:Nat)(x0:(List Vy11))(x1:(List Vy2)):Option (Bool×Unit):=itr tab65 prog 65 F65 n 1 (x0,x1,())
noncomputable def ref24_Valid_i3 (n:Nat)(x0:(List Vy11))(x1:(List Vy2))(x2:Int):Option (Bool×Unit):=itr tab65 prog 65 F65 n 3 (x0,x1,x2,())
noncomputable def ref24_Valid_i10 (n:Nat)(x0:(List Vy11))(x1:(List Vy2)):Option (Bool×Unit):=itr tab65 prog 65 F65 n 10 (x0,x1,())
noncomputable def ref24_Valid_i12 (n:Nat)(x0:(List Vy11))(x1:(List Vy2))(x2:Int):Option (Bool×Unit):=itr tab65 prog 65 F65 n 12 (x0,x1,x2,())
noncomputable def ref24_Valid_i21 (n:Nat)(x0:(List Vy11))(x1:(List Vy2))(x2:Int):Option (Bool×Unit):=itr tab65 prog 65 F65 n 21 (x0,x1,x2,())
theorem ref24_Valid_c a0:Eq (ref24_Valid a0) <| ref24_Valid_i3 fuel a0.1 a0.2.1 0:=mkE (by kernel_rfl)
theorem ref24_Valid_c1 n x0 x1:Eq (ref24_Valid_i1 (n+1) x0 x1) <| ref24_Valid_i12 n x0 x1 0:=mkI (by kernel_rfl)
theorem ref24_Valid_c3 n x0 x1 x2:Eq (ref24_Valid_i3 (n+1) x0 x1 x2) <| bif x2<ofNat x1.length then bif 0≤x2 then match x1[x2.toNat]? with | none=>none | some e0=>let k1:=some (false,());bif e0.1<0 then k1 else bif e0.2.2.1<0 then k1 else bif e0.1≥ofNat x0.length then k1 else bif e0.2.2.1≥ofNat x0.length then k1 else bif e0.2.2.2.2.1<1 then k1 else bif e0.2.2.2.2.1>8 then k1 else ref24_Valid_i3 n x0 x1 (wrap .i64 (x2+1)) else none else ref24_Valid_i1 n x0 x1:=mkI (by kernel_rfl)
theorem ref24_Valid_c10 n x0 x1:Eq (ref24_Valid_i10 (n+1) x0 x1) <| ref24_Valid_i21 n x0 x1 0:=mkI (by kernel_rfl)
theorem ref24_Valid_c12 n x0 x1 x2:Eq (ref24_Valid_i12 (n+1) x0 x1 x2) <| bif x2<ofNat x1.length then bif 0≤x2 then match x1[x2.toNat]? with | none=>none | some e0=>match ref24_apart (x0,x1,()) x2 with | none=>none | some e1=>let k1:=some (false,());bif !e1.1 then k1 else bif e0.2.1<0 then k1 else match ref24_Outputs (x0,x1,()) e0.1 with | none=>none | some e2=>bif e0.2.1≥e2.1 then k1 else bif e0.2.2.2.1<0 then k1 else match ref24_Inputs (x0,x1,()) e0.2.2.1 with | none=>none | some e3=>bif e0.2.2.2.1≥e3.1 then k1 else ref24_Valid_i12 n x0 x1 (wrap .i64 (x2+1)) else none else ref24_Valid_i10 n x0 x1:=mkI (by kernel_rfl)
theorem ref24_Valid_c21 n x0 x1 x2:Eq (ref24_Valid_i21 (n+1) x0 x1 x2) <| bif x2<ofNat x0.length then bif 0≤x2 then match x0[x2.toNat]? with | none=>none | some e0=>let k1:=some (false,());bif e0.2.1<0 then k1 else bif e0.2.1>3 then k1 else match ref24_Inputs (x0,x1,()) x2 with | none=>none | some e1=>match ref24_Outputs (x0,x1,()) x2 with | none=>none | some e2=>match ref24_Many e0.1 e1.1 e2.1 with | none=>none | some e3=>bif !e3.1 then k1 else match ref24_Reaches (x0,x1,()) x2 with | none=>none | some e4=>bif 0≤x2 then match e4.1[x2.toNat]? with | none=>none | some e5=>bif e5.1 then k1 else ref24_Valid_i21 n x0 x1 (wrap .i64 (x2+1)) else none else none else some (true,()):=mkI (by kernel_rfl)
noncomputable def tab44:Tb:=[(65,con65)]
def F44:TFun:=⟨[],[],[.a [.sl Vq13,.sl Vq4]],[.c (.p di)],qc [qn 2,qi,qn 13],[],[],0⟩
noncomputable def con44:=mkC tab44 prog 44 F44
theorem ok44:con44.ok prog 44:=mkO ⟨ok65,trivial⟩ (by kernel_rfl)
noncomputable def ref24_Check (a0:Vy14):Option (Int×Unit):=con44.fn (a0,())
theorem ref24_Check_c a0:Eq (ref24_Check a0) <| bif ofNat a0.1.length>20 then some (4,()) else bif ofNat a0.2.1.length>100 then some (4,()) else match ref24_Valid a0 with | none=>none | some e0=>bif !e0.1 then some (8,()) else some (0,()):=mkE (by kernel_rfl)
noncomputable def tab101:Tb:=[]
def F101:TFun:=⟨[],[],[.a Vq8],[.c (.p db)],qc [qn 2,qb,qn 8],[],[],0⟩
noncomputable def con101:=mkC tab101 prog 101 F101
theorem ok101:con101.ok prog 101:=mkO trivial (by kernel_rfl)
noncomputable def ref25_Right (a0:(Int×Int×Int×Unit)):Option (Bool×Unit):=con101.fn (a0,())
theorem ref25_Right_c a0:Eq (ref25_Right a0) <| bif a0.2.1≥(-1099511627776) then some (decide (a0.2.1≤1099511627776),()) else some (false,()):=mkE (by kernel_rfl)
noncomputable def tab102:Tb:=[]
def F102:TFun:=⟨[],[],[.c di],[.c (.p db)],qc [qn 2,qb,qn 10],[],[],0⟩
noncomputable def con102:=mkC tab102 prog 102 F102
theorem ok102:con102.ok prog 102:=mkO trivial (by kernel_rfl)
noncomputable def ref25_Mark (a0:Int):Option (Bool×Unit):=con102.fn (a0,())
theorem ref25_Mark_c a0:Eq (ref25_Mark a0) <| let k1:=some (a0==9223372036854775807,());bif a0≥(-1099511627776) then bif a0≤1099511627776 then some (true,()) else k1 else k1:=mkE (by kernel_rfl)
noncomputable def tab103:Tb:=[]
def F103:TFun:=⟨[],[],[.a Vq4],[.c (.p db)],qc [qn 2,qb,qn 19],[],[],0⟩
noncomputable def con103:=mkC tab103 prog 103 F103
theorem ok103:con103.ok prog 103:=mkO trivial (by kernel_rfl)
noncomputable def ref25_Row (a0:Vy2):Option (Bool×Unit):=con103.fn (a0,())
theorem ref25_Row_c a0:Eq (ref25_Row a0) <| bif a0.2.1<a0.2.2.1 then bif a0.2.1≥(-2199023255552) then some (decide (a0.2.2.1≤2199023255552),()) else some (false,()) else some (false,()):=mkE (by kernel_rfl)
noncomputable def tab66:Tb:=[(101,con101),(102,con102),(103,con103)]
def F66:TFun:=⟨[3],[(3,qc [qn 1,[.boxN 97 10 [.p (.int .u8),.p di,.p di,.p di,.p di,.p di,.p di,.p di,.p di,.p di]],qn 2,[.c (.p (.int .u8))],qb,qn 42])],[.a Vq2],[.c (.p db)],qc [qn 2,qb,qn 45],[],[],0⟩
noncomputable def con66:=mkC tab66 prog 66 F66
theorem ok66:con66.ok prog 66:=mkO ⟨ok101,ok102,ok103,trivial⟩ (by kernel_rfl)
noncomputable def ref25_Valid (a0:Vy8):Option (Bool×Unit):=con66.fn (a0,())
noncomputable def ref25_Valid_i3 (n:Nat)(x0 x1 x2 x3 x4 x5 x6 x7 x8 x9 x10:Int)(x11:Bool):Option (Bool×Unit):=itr tab66 prog 66 F66 n 3 (x0,x1,x2,x3,x4,x5,x6,x7,x8,x9,x10,x11,())
theorem ref25_Valid_c a0:Eq (ref25_Valid a0) <| bif a0.1==1 then ref25_Valid_i3 fuel a0.1 a0.2.1 a0.2.2.1 a0.2.2.2.1 a0.2.2.2.2.1 a0.2.2.2.2.2.1 a0.2.2.2.2.2.2.1 a0.2.2.2.2.2.2.2.1 a0.2.2.2.2.2.2.2.2.1 a0.2.2.2.2.2.2.2.2.2.1 a0.1 true else ref25_Valid_i3 fuel a0.1 a0.2.1 a0.2.2.1 a0.2.2.2.1 a0.2.2.2.2.1 a0.2.2.2.2.2.1 a0.2.2.2.2.2.2.1 a0.2.2.2.2.2.2.2.1 a0.2.2.2.2.2.2.2.2.1 a0.2.2.2.2.2.2.2.2.2.1 a0.1 (a0.1==4):=mkE (by kernel_rfl)
theorem ref25_Valid_c3 n x0 x1 x2 x3 x4 x5 x6 x7 x8 x9 x10 x11:Eq (ref25_Valid_i3 (n+1) x0 x1 x2 x3 x4 x5 x6 x7 x8 x9 x10 x11) <| let k1:=some (false,());bif x11 then (ref25_Right (x1,x2,x3,())).bind fun e0=>bif e0.1 then some ((x0==x0&&(x1==x1&&(x2==x2&&(x3==x3&&(x4==0&&(x5==0&&(x6==0&&(x7==0&&(x8==0&&(x9==0&&true))))))))),())) else k1 else bif x10==2 then (ref25_Mark x4).bind fun e0=>bif e0.1 then some ((x0==x0&&(x1==0&&(x2==0&&(x3==0&&(x4==x4&&(x5==0&&(x6==0&&(x7==0&&(x8==0&&(x9==0&&true))))))))),())) else k1 else bif x10==3 then (ref25_Row (x5,x6,x7,x8,x9,())).bind fun e0=>bif e0.1 then some ((x0==x0&&(x1==0&&(x2==0&&(x3==0&&(x4==0&&(x5==x5&&(x6==x6&&(x7==x7&&(x8==x8&&(x9==x9&&true))))))))),())) else k1 else k1:=mkI (by kernel_rfl)
noncomputable def tab45:Tb:=[(66,con66)]
def F45:TFun:=⟨[],[(6,qc [qn 1,[.boxN 77 2 [.any,.p (.sl Vq2)]],qn 1,qi,qn 30])],[.a Vq10],[.c (.p di)],qc [qn 2,qi,qn 31],[],[],0⟩
noncomputable def con45:=mkC tab45 prog 45 F45
theorem ok45:con45.ok prog 45:=mkO ⟨ok66,trivial⟩ (by kernel_rfl)
noncomputable def ref26_Check (a0:Vy4):Option (Int×Unit):=con45.fn (a0,())
noncomputable def ref26_Check_i6 (n:Nat)(x0:(List Vy8))(x1:Int):Option (Int×Unit):=itr tab45 prog 45 F45 n 6 (x0,x1,())
theorem ref26_Check_c a0:Eq (ref26_Check a0) <| bif a0.1<1 then some (8,()) else bif a0.1>8 then some (8,()) else bif ofNat a0.2.1.length>a0.1 then some (8,()) else ref26_Check_i6 fuel a0.2.1 0:=mkE (by kernel_rfl)
theorem ref26_Check_c6 n x0 x1:Eq (ref26_Check_i6 (n+1) x0 x1) <| bif x1<ofNat x0.length then ix x0 x1 fun e0=>(ref25_Valid e0).bind fun e1=>bif !e1.1 then some (8,()) else ref26_Check_i6 n x0 (wrap .i64 (x1+1)) else some (0,()):=mkI (by kernel_rfl)
noncomputable def tab131:Tb:=[]
def F131:TFun:=⟨[2],[(2,qc [qn 1,[.boxN 123 4 [.p di,.p di,.p di,.p di]],qn 1,qb,qn 49])],[.a [.int .i64,.int .i64,.int .i64,.int .i64]],[.c (.p di)],qc [qn 2,qi,qn 50],[],[],0⟩
noncomputable def con131:=mkC tab131 prog 131 F131
theorem ok131:con131.ok prog 131:=mkO trivial (by kernel_rfl)
noncomputable def ref16_Check (a0:(Int×Int×Int×Int×Unit)):Option (Int×Unit):=con131.fn (a0,())
noncomputable def ref16_Check_i2 (n:Nat)(x0 x1 x2 x3:Int)(x4:Bool):Option (Int×Unit):=itr tab131 prog 131 F131 n 2 (x0,x1,x2,x3,x4,())
theorem ref16_Check_c a0:Eq (ref16_Check a0) <| bif a0.1<0 then ref16_Check_i2 fuel a0.1 a0.2.1 a0.2.2.1 a0.2.2.2.1 true else ref16_Check_i2 fuel a0.1 a0.2.1 a0.2.2.1 a0.2.2.2.1 (decide (a0.1>1073741824)):=mkE (by kernel_rfl)
theorem ref16_Check_c2 n x0 x1 x2 x3 x4:Eq (ref16_Check_i2 (n+1) x0 x1 x2 x3 x4) <| bif x4 then some (8,()) else let k1:Option (Int×Unit):=let k3:Option (Int×Unit):=bif x2>x3 then some (8,()) else some (0,());bif x0==1 then bif x1 !=x2 then some (8,()) else bif x2 !=x3 then some (8,()) else k3 else k3;bif x0==0 then bif x1 !=0 then some (8,()) else bif x2 !=0 then some (8,()) else bif x3 !=0 then some (8,()) else k1 else k1:=mkI (by kernel_rfl)
noncomputable def tab132:Tb:=[]
def F132:TFun:=⟨[],[],[.a Vq3,.a Vq3],[.c (.p db)],qc [qn 4,qb,qn 33],[],[],0⟩
noncomputable def con132:=mkC tab132 prog 132 F132
theorem ok132:con132.ok prog 132:=mkO trivial (by kernel_rfl)
noncomputable def ref17_Less (a0 a1:Vy12):Option (Bool×Unit):=con132.fn (a0,a1,())
theorem ref17_Less_c a0 a1:Eq (ref17_Less a0 a1) <| bif a0.2.2.1 !=a1.2.2.1 then some (decide (a0.2.2.1<a1.2.2.1),()) else bif a0.2.1 !=a1.2.1 then some (decide (a0.2.1<a1.2.1),()) else some (decide (a0.1<a1.1),()):=mkE (by kernel_rfl)
noncomputable def tab107:Tb:=[(131,con131),(132,con132)]
def F107:TFun:=⟨[],[(6,qc [[.c (.p (.sl Vq3))],qn 2,qi,qn 81])],[.c (.sl Vq3)],[.c (.p di)],qc [qn 2,qi,qn 82],[],[],0⟩
noncomputable def con107:=mkC tab107 prog 107 F107
theorem ok107:con107.ok prog 107:=mkO ⟨ok131,ok132,trivial⟩ (by kernel_rfl)
noncomputable def ref17_Check (a0:Vy3):Option (Int×Unit):=con107.fn (a0,())
noncomputable def ref17_Check_i6 (n:Nat)(x0:Vy3)(x1:Int):Option (Int×Unit):=itr tab107 prog 107 F107 n 6 (x0,x1,())
theorem ref17_Check_c a0:Eq (ref17_Check a0) <| bif ofNat a0.length>4000 then some (4,()) else ref17_Check_i6 fuel a0 0:=mkE (by kernel_rfl)
theorem ref17_Check_c6 n x0 x1:Eq (ref17_Check_i6 (n+1) x0 x1) <| bif x1<ofNat x0.length then ix x0 x1 fun e0=>bif e0.2.1≥(-1100585369600) then bif e0.2.1<e0.2.2.1 then (ref16_Check (e0.2.2.2.1,e0.2.2.2.2.1,e0.2.2.2.2.2.1,e0.2.2.2.2.2.2.1,())).bind fun e1=>bif e1.1==0 then (ref16_Check e0.2.2.2.2.2.2.2).bind fun e2=>bif !decide (e0.2.2.1≤1100585369600) then some (8,()) else bif !e2.1==0 then some (8,()) else let k1:Option (Int×Unit):=let k3:=ref17_Check_i6 n x0 (wrap .i64 (x1+1));bif x1>0 then ix x0 (wrap .i64 (x1 - 1)) fun e3=>(ref17_Less e3 e0).bind fun e4=>bif !e4.1 then some (8,()) else k3 else k3;bif e0.2.2.2.1==0 then bif e0.2.2.2.2.2.2.2.1==0 then some (8,()) else k1 else k1 else bif !decide (e0.2.2.1≤1100585369600) then some (8,()) else some (8,()) else (ref16_Check (e0.2.2.2.1,e0.2.2.2.2.1,e0.2.2.2.2.2.1,e0.2.2.2.2.2.2.1,())).bind fun e1=>bif e1.1==0 then (ref16_Check e0.2.2.2.2.2.2.2).bind fun e2=>some (8,()) else some (8,()) else (ref16_Check (e0.2.2.2.1,e0.2.2.2.2.1,e0.2.2.2.2.2.1,e0.2.2.2.2.2.2.1,())).bind fun e1=>bif e1.1==0 then (ref16_Check e0.2.2.2.2.2.2.2).bind fun e2=>some (8,()) else some (8,()) else some (0,()):=mkI (by kernel_rfl)
noncomputable def tab129:Tb:=[(102,con102)]
def F129:TFun:=⟨[],[],[.c di],[.c (.p db)],qc [qn 2,qb,qn 6],[],[],0⟩
noncomputable def con129:=mkC tab129 prog 129 F129
theorem ok129:con129.ok prog 129:=mkO ⟨ok102,trivial⟩ (by kernel_rfl)
noncomputable def ref27_Least (a0:Int):Option (Bool×Unit):=con129.fn (a0,())
theorem ref27_Least_c a0:Eq (ref27_Least a0) <| bif a0==(-9223372036854775808) then some (true,()) else (ref25_Mark a0).bind fun e0=>some (e0.1,()):=mkE (by kernel_rfl)
noncomputable def tab130:Tb:=[(102,con102),(101,con101)]
def F130:TFun:=⟨[],[],[.a Vq7],[.c (.p di)],qc [qn 2,qi,qn 28],[],[],0⟩
noncomputable def con130:=mkC tab130 prog 130 F130
theorem ok130:con130.ok prog 130:=mkO ⟨ok102,ok101,trivial⟩ (by kernel_rfl)
noncomputable def ref25_Event (a0:(Bool×Int×Int×Int×Int×Unit)):Option (Int×Unit):=con130.fn (a0,())
theorem ref25_Event_c a0:Eq (ref25_Event a0) <| bif a0.1 then (ref25_Mark a0.2.1).bind fun e0=>let k1:Option (Int×Unit):=bif !a0.1 then bif a0.2.1==0 then (ref25_Right a0.2.2).bind fun e1=>bif e1.1 then some (0,()) else some (8,()) else some (8,()) else some (8,());bif e0.1 then bif a0.2.2.1==0&&(a0.2.2.2.1==0&&(a0.2.2.2.2.1==0&&true)) then some (0,()) else k1 else k1 else bif !a0.1 then bif a0.2.1==0 then (ref25_Right a0.2.2).bind fun e0=>bif e0.1 then some (0,()) else some (8,()) else some (8,()) else some (8,()):=mkE (by kernel_rfl)
noncomputable def tab106:Tb:=[(129,con129),(130,con130),(103,con103),(101,con101)]
def F106:TFun:=⟨[1,10,19],[(1,qc [qn 1,[.boxN 73 9 [.any,.any,.any,.any,.any,.any,.p (.sl Vq7),.p (.sl Vq4),.p (.sl Vq8)]],qn 61]),(3,qc [qn 1,[.boxN 73 9 [.any,.any,.any,.any,.p (.sl Vq12),.any,.p (.sl Vq7),.p (.sl Vq4),.p (.sl Vq8)]],qn 1,qi,qn 59]),(10,qc [qn 1,[.boxN 73 9 [.any,.any,.any,.any,.any,.any,.any,.p (.sl Vq4),.p (.sl Vq8)]],qn 61]),(12,qc [qn 1,[.boxN 73 9 [.any,.any,.any,.any,.any,.any,.p (.sl Vq7),.p (.sl Vq4),.p (.sl Vq8)]],qn 2,qi,qn 58]),(19,qc [qn 1,[.boxN 73 9 [.any,.any,.any,.any,.any,.any,.any,.any,.p (.sl Vq8)]],qn 61]),(21,qc [qn 1,[.boxN 73 9 [.any,.any,.any,.any,.any,.any,.any,.p (.sl Vq4),.p (.sl Vq8)]],qn 3,qi,qn 57]),(30,qc [qn 1,[.boxN 73 9 [.any,.any,.any,.any,.any,.any,.any,.any,.p (.sl Vq8)]],qn 4,qi,qn 56])],[.a Vq1],[.c (.p db)],qc [qn 2,qb,qn 60],[],[],0⟩
noncomputable def con106:=mkC tab106 prog 106 F106
theorem ok106:con106.ok prog 106:=mkO ⟨ok129,ok130,ok103,ok101,trivial⟩ (by kernel_rfl)
noncomputable def ref27_lists (a0:Vy1):Option (Bool×Unit):=con106.fn (a0,())
noncomputable def ref27_lists_i1 (n:Nat)(x0:Vy5)(x1:(List Vy2))(x2:Vy6):Option (Bool×Unit):=itr tab106 prog 106 F106 n 1 (x0,x1,x2,())
noncomputable def ref27_lists_i3 (n:Nat)(x0:Vy9)(x1:Vy5)(x2:(List Vy2))(x3:Vy6)(x4:Int):Option (Bool×Unit):=itr tab106 prog 106 F106 n 3 (x0,x1,x2,x3,x4,())
noncomputable def ref27_lists_i10 (n:Nat)(x0:(List Vy2))(x1:Vy6):Option (Bool×Unit):=itr tab106 prog 106 F106 n 10 (x0,x1,())
noncomputable def ref27_lists_i12 (n:Nat)(x0:Vy5)(x1:(List Vy2))(x2:Vy6)(x3:Int):Option (Bool×Unit):=itr tab106 prog 106 F106 n 12 (x0,x1,x2,x3,())
noncomputable def ref27_lists_i19 (n:Nat)(x0:Vy6):Option (Bool×Unit):=itr tab106 prog 106 F106 n 19 (x0,())
noncomputable def ref27_lists_i21 (n:Nat)(x0:(List Vy2))(x1:Vy6)(x2:Int):Option (Bool×Unit):=itr tab106 prog 106 F106 n 21 (x0,x1,x2,())
noncomputable def ref27_lists_i30 (n:Nat)(x0:Vy6)(x1:Int):Option (Bool×Unit):=itr tab106 prog 106 F106 n 30 (x0,x1,())
theorem ref27_lists_c a0:Eq (ref27_lists a0) <| ref27_lists_i3 fuel a0.2.2.2.2.1 a0.2.2.2.2.2.2.1 a0.2.2.2.2.2.2.2.1 a0.2.2.2.2.2.2.2.2.1 0:=mkE (by kernel_rfl)
theorem ref27_lists_c1 n x0 x1 x2:Eq (ref27_lists_i1 (n+1) x0 x1 x2) <| ref27_lists_i12 n x0 x1 x2 0:=mkI (by kernel_rfl)
theorem ref27_lists_c3 n x0 x1 x2 x3 x4:Eq (ref27_lists_i3 (n+1) x0 x1 x2 x3 x4) <| bif x4<ofNat x0.length then ix x0 x4 fun e0=>(ref27_Least e0.1).bind fun e1=>bif !e1.1 then some (false,()) else ref27_lists_i3 n x0 x1 x2 x3 (wrap .i64 (x4+1)) else ref27_lists_i1 n x1 x2 x3:=mkI (by kernel_rfl)
theorem ref27_lists_c10 n x0 x1:Eq (ref27_lists_i10 (n+1) x0 x1) <| ref27_lists_i21 n x0 x1 0:=mkI (by kernel_rfl)
theorem ref27_lists_c12 n x0 x1 x2 x3:Eq (ref27_lists_i12 (n+1) x0 x1 x2 x3) <| bif x3<ofNat x0.length then ix x0 x3 fun e0=>(ref25_Event e0).bind fun e1=>bif e1.1 !=0 then some (false,()) else ref27_lists_i12 n x0 x1 x2 (wrap .i64 (x3+1)) else ref27_lists_i10 n x1 x2:=mkI (by kernel_rfl)
theorem ref27_lists_c19 n x0:Eq (ref27_lists_i19 (n+1) x0) <| ref27_lists_i30 n x0 0:=mkI (by kernel_rfl)
theorem ref27_lists_c21 n x0 x1 x2:Eq (ref27_lists_i21 (n+1) x0 x1 x2) <| bif x2<ofNat x0.length then ix x0 x2 fun e0=>(ref25_Row e0).bind fun e1=>bif !e1.1 then some (false,()) else ref27_lists_i21 n x0 x1 (wrap .i64 (x2+1)) else ref27_lists_i19 n x1:=mkI (by kernel_rfl)
theorem ref27_lists_c30 n x0 x1:Eq (ref27_lists_i30 (n+1) x0 x1) <| bif x1<ofNat x0.length then ix x0 x1 fun e0=>(ref25_Right e0).bind fun e1=>bif !e1.1 then some (false,()) else ref27_lists_i30 n x0 (wrap .i64 (x1+1)) else some (true,()):=mkI (by kernel_rfl)
noncomputable def tab105:Tb:=[(66,con66)]
def F105:TFun:=⟨[],[(3,qc [[.c (.p (.sl Vq6))],qn 2,qi,qn 29])],[.c (.sl Vq6)],[.c (.p db)],qc [qn 2,qb,qn 30],[],[],0⟩
noncomputable def con105:=mkC tab105 prog 105 F105
theorem ok105:con105.ok prog 105:=mkO ⟨ok66,trivial⟩ (by kernel_rfl)
noncomputable def ref27_sends (a0:Vy3):Option (Bool×Unit):=con105.fn (a0,())
noncomputable def ref27_sends_i3 (n:Nat)(x0:Vy3)(x1:Int):Option (Bool×Unit):=itr tab105 prog 105 F105 n 3 (x0,x1,())
theorem ref27_sends_c a0:Eq (ref27_sends a0) <| ref27_sends_i3 fuel a0 0:=mkE (by kernel_rfl)
theorem ref27_sends_c3 n x0 x1:Eq (ref27_sends_i3 (n+1) x0 x1) <| bif x1<ofNat x0.length then ix x0 x1 fun e0=>bif e0.1<0 then some (false,()) else ix x0 x1 fun e1=>bif e1.1≥3 then some (false,()) else ix x0 x1 fun e2=>(ref25_Valid e2.2).bind fun e3=>bif !e3.1 then some (false,()) else ref27_sends_i3 n x0 (wrap .i64 (x1+1)) else some (true,()):=mkI (by kernel_rfl)
noncomputable def tab104:Tb:=[]
def F104:TFun:=⟨[2],[(2,qc [qn 1,[.boxN 73 9 [.any,.any,.any,.any,.p (.sl Vq12),.p (.sl Vq3),.p (.sl Vq7),.p (.sl Vq4),.p (.sl Vq8)]],qn 1,qi,qi,qi,qi,qi,qn 61])],[.a Vq1],[.c (.p db)],qc [qn 2,qb,qn 66],[],[],0⟩
noncomputable def con104:=mkC tab104 prog 104 F104
theorem ok104:con104.ok prog 104:=mkO trivial (by kernel_rfl)
noncomputable def ref27_kept (a0:Vy1):Option (Bool×Unit):=con104.fn (a0,())
noncomputable def ref27_kept_i2 (n:Nat)(x0:Vy9)(x1:Vy3)(x2:Vy5)(x3:(List Vy2))(x4:Vy6)(x5 x6 x7 x8 x9:Int):Option (Bool×Unit):=itr tab104 prog 104 F104 n 2 (x0,x1,x2,x3,x4,x5,x6,x7,x8,x9,())
theorem ref27_kept_c a0:Eq (ref27_kept a0) <| bif a0.1==1 then ref27_kept_i2 fuel a0.2.2.2.2.1 a0.2.2.2.2.2.1 a0.2.2.2.2.2.2.1 a0.2.2.2.2.2.2.2.1 a0.2.2.2.2.2.2.2.2.1 0 0 60 0 0 else bif a0.1==2 then ref27_kept_i2 fuel a0.2.2.2.2.1 a0.2.2.2.2.2.1 a0.2.2.2.2.2.2.1 a0.2.2.2.2.2.2.2.1 a0.2.2.2.2.2.2.2.2.1 1 0 0 0 0 else bif a0.1==3 then ref27_kept_i2 fuel a0.2.2.2.2.1 a0.2.2.2.2.2.1 a0.2.2.2.2.2.2.1 a0.2.2.2.2.2.2.2.1 a0.2.2.2.2.2.2.2.2.1 0 0 0 0 0 else bif a0.1==4 then ref27_kept_i2 fuel a0.2.2.2.2.1 a0.2.2.2.2.2.1 a0.2.2.2.2.2.2.1 a0.2.2.2.2.2.2.2.1 a0.2.2.2.2.2.2.2.2.1 (tmm false 4 (tmm true 1 (ofNat a0.2.2.2.2.1.length))) (ofNat a0.2.2.2.2.2.1.length) 0 0 0 else bif a0.1==5 then ref27_kept_i2 fuel a0.2.2.2.2.1 a0.2.2.2.2.2.1 a0.2.2.2.2.2.2.1 a0.2.2.2.2.2.2.2.1 a0.2.2.2.2.2.2.2.2.1 2 (ofNat a0.2.2.2.2.2.1.length) 0 0 0 else bif a0.1==6 then ref27_kept_i2 fuel a0.2.2.2.2.1 a0.2.2.2.2.2.1 a0.2.2.2.2.2.2.1 a0.2.2.2.2.2.2.2.1 a0.2.2.2.2.2.2.2.2.1 0 0 0 4000 0 else bif a0.1==7 then ref27_kept_i2 fuel a0.2.2.2.2.1 a0.2.2.2.2.2.1 a0.2.2.2.2.2.2.1 a0.2.2.2.2.2.2.2.1 a0.2.2.2.2.2.2.2.2.1 0 0 0 0 4000 else some (false,()):=mkE (by kernel_rfl)
theorem ref27_kept_c2 n x0 x1 x2 x3 x4 x5 x6 x7 x8 x9:Eq (ref27_kept_i2 (n+1) x0 x1 x2 x3 x4 x5 x6 x7 x8 x9) <| let k1:=some (false,());bif ofNat x0.length==x5 then bif ofNat x1.length≤x6 then bif ofNat x2.length≤x7 then bif ofNat x3.length≤x8 then some (decide (ofNat x4.length≤x9),()) else k1 else k1 else k1 else k1:=mkI (by kernel_rfl)
noncomputable def tab67:Tb:=[(104,con104),(105,con105),(106,con106),(107,con107)]
def F67:TFun:=⟨[],[(13,qc [qn 1,[.boxN 73 9 [.p (.int .u8),.any,.any,.any,.any,.p (.sl Vq3),.any,.any,.any]],qn 1,qi,qn 68])],[.a Vq1],[.c (.p di)],qc [qn 2,qi,qn 69],[],[],0⟩
noncomputable def con67:=mkC tab67 prog 67 F67
theorem ok67:con67.ok prog 67:=mkO ⟨ok104,ok105,ok106,ok107,trivial⟩ (by kernel_rfl)
noncomputable def ref27_Check (a0:Vy1):Option (Int×Unit):=con67.fn (a0,())
noncomputable def ref27_Check_i13 (n:Nat)(x0:Int)(x1:Vy3)(x2:Int):Option (Int×Unit):=itr tab67 prog 67 F67 n 13 (x0,x1,x2,())
theorem ref27_Check_c a0:Eq (ref27_Check a0) <| let k1:Option (Int×Unit):=some (8,());bif a0.2.2.1<0 then k1 else bif a0.2.2.1≥20 then k1 else bif ofNat a0.2.2.2.1.length>4000 then k1 else bif a0.2.1<0 then k1 else bif a0.2.1≥4 then k1 else (ref27_kept a0).bind fun e0=>bif !e0.1 then k1 else (ref27_sends a0.2.2.2.1).bind fun e1=>bif !e1.1 then k1 else (ref27_lists a0).bind fun e2=>bif !e2.1 then k1 else (ref17_Check a0.2.2.2.2.2.1).bind fun e3=>bif e3.1 !=0 then k1 else ref27_Check_i13 fuel a0.1 a0.2.2.2.2.2.1 0:=mkE (by kernel_rfl)
theorem ref27_Check_c13 n x0 x1 x2:Eq (ref27_Check_i13 (n+1) x0 x1 x2) <| bif x2<ofNat x1.length then let k1:=ref27_Check_i13 n x0 x1 (wrap .i64 (x2+1));bif x0==4 then ix x1 x2 fun e0=>bif e0.2.2.2.2.2.2.2.1 !=0 then some (8,()) else k1 else k1 else some (0,()):=mkI (by kernel_rfl)
end Tg
