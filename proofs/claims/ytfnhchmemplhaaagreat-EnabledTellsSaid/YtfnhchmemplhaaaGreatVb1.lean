import Derived.Test.YtfnhchmemplhaaaGreatProg
import Derived.Test.YtfnhchmemplhaaaGreatVT
/- Functions of the code, told plainly and checked by the kernel. -/
set_option linter.unusedVariables false
set_option linter.unusedSimpArgs false
set_option maxRecDepth 100000
namespace Tg
open Go.Abs hiding fuel
open Go.Proofs.Tryz (prog)
open Int (ofNat toNat)
open Go.IntKind (wrap)
noncomputable def tab20:Tb:=[]
def F20:TFun:=⟨[2],[(2,qc [qn 1,[.boxN 73 9 [.any,.any,.any,.any,.p (.sl Vq12),.p (.sl Vq3),.p (.sl Vq7),.any,.any]],qn 54]),(4,qc [qn 1,[.boxN 73 9 [.any,.any,.any,.any,.p (.sl Vq12),.p (.sl Vq3),.p (.sl Vq7),.any,.any]],qn 1,[.c (.rowN 3 1 Vq12)],qi,qn 51])],[.a Vq1],[.c (.p db)],qc [qn 2,qb,qn 53],[],[],0⟩
noncomputable def con20:=mkC tab20 prog 20 F20
theorem ok20:con20.ok prog 20:=mkO trivial (by kernel_rfl)
noncomputable def ref27_Great (a0:Vy1):Option (Bool×Unit):=con20.fn (a0,())
noncomputable def ref27_Great_i2 (n:Nat)(x0:Vy9)(x1:Vy3)(x2:Vy5):Option (Bool×Unit):=itr tab20 prog 20 F20 n 2 (x0,x1,x2,())
noncomputable def ref27_Great_i4 (n:Nat)(x0:Vy9)(x1:Vy3)(x2:Vy5)(x3:Vy9)(x4:Int):Option (Bool×Unit):=itr tab20 prog 20 F20 n 4 (x0,x1,x2,x3,x4,())
theorem ref27_Great_c a0:Eq (ref27_Great a0) <| ref27_Great_i4 fuel a0.2.2.2.2.1 a0.2.2.2.2.2.1 a0.2.2.2.2.2.2.1 ([(ofNat a0.2.2.2.1.length,()),(ofNat a0.2.2.2.2.2.2.2.1.length,()),(ofNat a0.2.2.2.2.2.2.2.2.1.length,())]) 0:=mkE (by kernel_rfl)
theorem ref27_Great_c2 n x0 x1 x2:Eq (ref27_Great_i2 (n+1) x0 x1 x2) <| bif ofNat x1.length>100 then some (true,()) else bif ofNat x2.length>100 then some (true,()) else some (decide (ofNat x0.length>20),()):=mkI (by kernel_rfl)
theorem ref27_Great_c4 n x0 x1 x2 x3 x4:Eq (ref27_Great_i4 (n+1) x0 x1 x2 x3 x4) <| bif x4<ofNat x3.length then ixb x3 x4 fun e0=>let k1:=ref27_Great_i4 n x0 x1 x2 x3 (wrap .i64 (x4+1));bif e0.1>100 then ixb x3 x4 fun e1=>bif e1.1<3990 then some (true,()) else ixb x3 x4 fun e2=>bif e2.1>4010 then some (true,()) else k1 else ixb x3 x4 fun e1=>bif e1.1>4010 then some (true,()) else k1 else ref27_Great_i2 n x0 x1 x2:=mkI (by kernel_rfl)
noncomputable def tab21:Tb:=[]
def F21:TFun:=⟨[],[],[.a Vq10],[.c (.p db)],qc [qn 2,qb,qn 4],[],[],0⟩
noncomputable def con21:=mkC tab21 prog 21 F21
theorem ok21:con21.ok prog 21:=mkO trivial (by kernel_rfl)
noncomputable def ref26_Great (a0:Vy4):Option (Bool×Unit):=con21.fn (a0,())
theorem ref26_Great_c a0:Eq (ref26_Great a0) <| some (decide (ofNat a0.2.1.length>20),()):=mkE (by kernel_rfl)
noncomputable def tab5:Tb:=[(20,con20),(21,con21)]
def F5:TFun:=⟨[4],[(4,qc [qn 1,[.boxN 35 14 [.any,.any,.any,.any,.any,.any,.any,.any,.any,.any,.any,.any,.any,.p (.sl Vq10)]],qn 74]),(6,qc [qn 1,[.boxN 35 14 [.any,.any,.any,.any,.any,.any,.any,.any,.any,.any,.any,.any,.p (.sl Vq1),.p (.sl Vq10)]],qn 1,qi,qn 72]),(15,qc [qn 1,[.boxN 35 14 [.any,.any,.any,.any,.any,.any,.any,.any,.any,.any,.any,.any,.any,.p (.sl Vq10)]],qn 2,qi,qn 71])],[.a Vq9],[.c (.p db)],qc [qn 2,qb,qn 73],[],[],0⟩
noncomputable def con5:=mkC tab5 prog 5 F5
theorem ok5:con5.ok prog 5:=mkO ⟨ok20,ok21,trivial⟩ (by kernel_rfl)
noncomputable def ref35_Great (a0:Vy7):Option (Bool×Unit):=con5.fn (a0,())
noncomputable def ref35_Great_i4 (n:Nat)(x0:(List Vy4)):Option (Bool×Unit):=itr tab5 prog 5 F5 n 4 (x0,())
noncomputable def ref35_Great_i6 (n:Nat)(x0:(List Vy1))(x1:(List Vy4))(x2:Int):Option (Bool×Unit):=itr tab5 prog 5 F5 n 6 (x0,x1,x2,())
noncomputable def ref35_Great_i15 (n:Nat)(x0:(List Vy4))(x1:Int):Option (Bool×Unit):=itr tab5 prog 5 F5 n 15 (x0,x1,())
theorem ref35_Great_c a0:Eq (ref35_Great a0) <| let k1:=some (true,());bif ofNat a0.2.2.2.2.2.2.2.2.2.2.1.length>30 then k1 else bif ofNat a0.2.2.2.2.2.2.2.2.2.2.2.1.length>60 then k1 else bif ofNat a0.2.2.2.2.2.2.2.2.2.2.2.2.1.length>30 then k1 else bif ofNat a0.2.2.2.2.2.2.2.2.2.2.2.2.2.1.length>60 then k1 else bif ofNat a0.2.1.length>100 then k1 else bif ofNat a0.2.2.2.2.1.length>100 then k1 else bif ofNat a0.2.2.1.length>20 then k1 else ref35_Great_i6 fuel a0.2.2.2.2.2.2.2.2.2.2.2.2.1 a0.2.2.2.2.2.2.2.2.2.2.2.2.2.1 0:=mkE (by kernel_rfl)
theorem ref35_Great_c4 n x0:Eq (ref35_Great_i4 (n+1) x0) <| ref35_Great_i15 n x0 0:=mkI (by kernel_rfl)
theorem ref35_Great_c6 n x0 x1 x2:Eq (ref35_Great_i6 (n+1) x0 x1 x2) <| bif x2<ofNat x0.length then ix x0 x2 fun e0=>(ref27_Great e0).bind fun e1=>bif e1.1 then some (true,()) else ref35_Great_i6 n x0 x1 (wrap .i64 (x2+1)) else ref35_Great_i4 n x1:=mkI (by kernel_rfl)
theorem ref35_Great_c15 n x0 x1:Eq (ref35_Great_i15 (n+1) x0 x1) <| bif x1<ofNat x0.length then ix x0 x1 fun e0=>(ref26_Great e0).bind fun e1=>bif e1.1 then some (true,()) else ref35_Great_i15 n x0 (wrap .i64 (x1+1)) else some (false,()):=mkI (by kernel_rfl)
noncomputable def tab51:Tb:=[]
def F51:TFun:=⟨[],[(6,qc [[.c (.p (.sl Vq6))],[.c (.p (.sl Vq6))],qn 3,qi,qn 20])],[.c (.sl Vq6),.c (.sl Vq6)],[.c (.p db)],qc [qn 4,qb,qn 21],[],[],0⟩
noncomputable def con51:=mkC tab51 prog 51 F51
theorem ok51:con51.ok prog 51:=mkO trivial (by kernel_rfl)
noncomputable def ref27_SameSends (a0 a1:Vy3):Option (Bool×Unit):=con51.fn (a0,a1,())
noncomputable def ref27_SameSends_i6 (n:Nat)(x0 x1:Vy3)(x2:Int):Option (Bool×Unit):=itr tab51 prog 51 F51 n 6 (x0,x1,x2,())
theorem ref27_SameSends_c a0 a1:Eq (ref27_SameSends a0 a1) <| bif ofNat a0.length !=ofNat a1.length then some (false,()) else ref27_SameSends_i6 fuel a0 a1 0:=mkE (by kernel_rfl)
theorem ref27_SameSends_c6 n x0 x1 x2:Eq (ref27_SameSends_i6 (n+1) x0 x1 x2) <| bif x2<ofNat x0.length then ix x0 x2 fun e0=>ix x1 x2 fun e1=>bif !(e0.1==e1.1&&(e0.2.1==e1.2.1&&(e0.2.2.1==e1.2.2.1&&(e0.2.2.2.1==e1.2.2.2.1&&(e0.2.2.2.2.1==e1.2.2.2.2.1&&(e0.2.2.2.2.2.1==e1.2.2.2.2.2.1&&(e0.2.2.2.2.2.2.1==e1.2.2.2.2.2.2.1&&(e0.2.2.2.2.2.2.2.1==e1.2.2.2.2.2.2.2.1&&(e0.2.2.2.2.2.2.2.2.1==e1.2.2.2.2.2.2.2.2.1&&(e0.2.2.2.2.2.2.2.2.2.1==e1.2.2.2.2.2.2.2.2.2.1&&(e0.2.2.2.2.2.2.2.2.2.2.1==e1.2.2.2.2.2.2.2.2.2.2.1&&true))))))))))) then some (false,()) else ref27_SameSends_i6 n x0 x1 (wrap .i64 (x2+1)) else some (true,()):=mkI (by kernel_rfl)
noncomputable def tab32:Tb:=[(51,con51)]
def F32:TFun:=⟨[5,13,21,29],[(5,qc [qn 2,[.boxN 73 9 [.any,.any,.any,.any,.any,.p (.sl Vq3),.p (.sl Vq7),.p (.sl Vq4),.p (.sl Vq8)]],[.boxN 73 9 [.any,.any,.any,.any,.any,.p (.sl Vq3),.p (.sl Vq7),.p (.sl Vq4),.p (.sl Vq8)]],qn 161]),(7,qc [qn 2,[.boxN 73 9 [.any,.any,.any,.any,.p (.sl Vq12),.p (.sl Vq3),.p (.sl Vq7),.p (.sl Vq4),.p (.sl Vq8)]],[.boxN 73 9 [.any,.any,.any,.any,.p (.sl Vq12),.p (.sl Vq3),.p (.sl Vq7),.p (.sl Vq4),.p (.sl Vq8)]],qn 1,qi,qn 159]),(13,qc [qn 2,[.boxN 73 9 [.any,.any,.any,.any,.any,.any,.p (.sl Vq7),.p (.sl Vq4),.p (.sl Vq8)]],[.boxN 73 9 [.any,.any,.any,.any,.any,.any,.p (.sl Vq7),.p (.sl Vq4),.p (.sl Vq8)]],qn 161]),(15,qc [qn 2,[.boxN 73 9 [.any,.any,.any,.any,.any,.p (.sl Vq3),.p (.sl Vq7),.p (.sl Vq4),.p (.sl Vq8)]],[.boxN 73 9 [.any,.any,.any,.any,.any,.p (.sl Vq3),.p (.sl Vq7),.p (.sl Vq4),.p (.sl Vq8)]],qn 2,qi,qn 158]),(21,qc [qn 2,[.boxN 73 9 [.any,.any,.any,.any,.any,.any,.any,.p (.sl Vq4),.p (.sl Vq8)]],[.boxN 73 9 [.any,.any,.any,.any,.any,.any,.any,.p (.sl Vq4),.p (.sl Vq8)]],qn 161]),(23,qc [qn 2,[.boxN 73 9 [.any,.any,.any,.any,.any,.any,.p (.sl Vq7),.p (.sl Vq4),.p (.sl Vq8)]],[.boxN 73 9 [.any,.any,.any,.any,.any,.any,.p (.sl Vq7),.p (.sl Vq4),.p (.sl Vq8)]],qn 3,qi,qn 157]),(29,qc [qn 2,[.boxN 73 9 [.any,.any,.any,.any,.any,.any,.any,.any,.p (.sl Vq8)]],[.boxN 73 9 [.any,.any,.any,.any,.any,.any,.any,.any,.p (.sl Vq8)]],qn 161]),(31,qc [qn 2,[.boxN 73 9 [.any,.any,.any,.any,.any,.any,.any,.p (.sl Vq4),.p (.sl Vq8)]],[.boxN 73 9 [.any,.any,.any,.any,.any,.any,.any,.p (.sl Vq4),.p (.sl Vq8)]],qn 4,qi,qn 156]),(39,qc [qn 2,[.boxN 73 9 [.any,.any,.any,.any,.any,.any,.any,.any,.p (.sl Vq8)]],[.boxN 73 9 [.any,.any,.any,.any,.any,.any,.any,.any,.p (.sl Vq8)]],qn 5,qi,qn 155])],[.a Vq1,.a Vq1],[.c (.p db)],qc [qn 4,qb,qn 160],[],[],0⟩
noncomputable def con32:=mkC tab32 prog 32 F32
theorem ok32:con32.ok prog 32:=mkO ⟨ok51,trivial⟩ (by kernel_rfl)
noncomputable def ref27_Same (a0 a1:Vy1):Option (Bool×Unit):=con32.fn (a0,a1,())
noncomputable def ref27_Same_i5 (n:Nat)(x0:Vy3)(x1:Vy5)(x2:(List Vy2))(x3:Vy6)(x4:Vy3)(x5:Vy5)(x6:(List Vy2))(x7:Vy6):Option (Bool×Unit):=itr tab32 prog 32 F32 n 5 (x0,x1,x2,x3,x4,x5,x6,x7,())
noncomputable def ref27_Same_i7 (n:Nat)(x0:Vy9)(x1:Vy3)(x2:Vy5)(x3:(List Vy2))(x4:Vy6)(x5:Vy9)(x6:Vy3)(x7:Vy5)(x8:(List Vy2))(x9:Vy6)(x10:Int):Option (Bool×Unit):=itr tab32 prog 32 F32 n 7 (x0,x1,x2,x3,x4,x5,x6,x7,x8,x9,x10,())
noncomputable def ref27_Same_i13 (n:Nat)(x0:Vy5)(x1:(List Vy2))(x2:Vy6)(x3:Vy5)(x4:(List Vy2))(x5:Vy6):Option (Bool×Unit):=itr tab32 prog 32 F32 n 13 (x0,x1,x2,x3,x4,x5,())
noncomputable def ref27_Same_i15 (n:Nat)(x0:Vy3)(x1:Vy5)(x2:(List Vy2))(x3:Vy6)(x4:Vy3)(x5:Vy5)(x6:(List Vy2))(x7:Vy6)(x8:Int):Option (Bool×Unit):=itr tab32 prog 32 F32 n 15 (x0,x1,x2,x3,x4,x5,x6,x7,x8,())
noncomputable def ref27_Same_i21 (n:Nat)(x0:(List Vy2))(x1:Vy6)(x2:(List Vy2))(x3:Vy6):Option (Bool×Unit):=itr tab32 prog 32 F32 n 21 (x0,x1,x2,x3,())
noncomputable def ref27_Same_i23 (n:Nat)(x0:Vy5)(x1:(List Vy2))(x2:Vy6)(x3:Vy5)(x4:(List Vy2))(x5:Vy6)(x6:Int):Option (Bool×Unit):=itr tab32 prog 32 F32 n 23 (x0,x1,x2,x3,x4,x5,x6,())
noncomputable def ref27_Same_i29 (n:Nat)(x0 x1:Vy6):Option (Bool×Unit):=itr tab32 prog 32 F32 n 29 (x0,x1,())
noncomputable def ref27_Same_i31 (n:Nat)(x0:(List Vy2))(x1:Vy6)(x2:(List Vy2))(x3:Vy6)(x4:Int):Option (Bool×Unit):=itr tab32 prog 32 F32 n 31 (x0,x1,x2,x3,x4,())
noncomputable def ref27_Same_i39 (n:Nat)(x0 x1:Vy6)(x2:Int):Option (Bool×Unit):=itr tab32 prog 32 F32 n 39 (x0,x1,x2,())
theorem ref27_Same_c a0 a1:Eq (ref27_Same a0 a1) <| let k1:=some (false,());bif !(a0.1==a1.1&&(a0.2.1==a1.2.1&&true)) then k1 else bif a0.2.2.1 !=a1.2.2.1 then k1 else (ref27_SameSends a0.2.2.2.1 a1.2.2.2.1).bind fun e0=>bif !e0.1 then k1 else bif ofNat a0.2.2.2.2.1.length !=ofNat a1.2.2.2.2.1.length then k1 else bif ofNat a0.2.2.2.2.2.1.length !=ofNat a1.2.2.2.2.2.1.length then k1 else bif ofNat a0.2.2.2.2.2.2.1.length !=ofNat a1.2.2.2.2.2.2.1.length then k1 else bif ofNat a0.2.2.2.2.2.2.2.1.length !=ofNat a1.2.2.2.2.2.2.2.1.length then k1 else bif ofNat a0.2.2.2.2.2.2.2.2.1.length !=ofNat a1.2.2.2.2.2.2.2.2.1.length then k1 else ref27_Same_i7 fuel a0.2.2.2.2.1 a0.2.2.2.2.2.1 a0.2.2.2.2.2.2.1 a0.2.2.2.2.2.2.2.1 a0.2.2.2.2.2.2.2.2.1 a1.2.2.2.2.1 a1.2.2.2.2.2.1 a1.2.2.2.2.2.2.1 a1.2.2.2.2.2.2.2.1 a1.2.2.2.2.2.2.2.2.1 0:=mkE (by kernel_rfl)
theorem ref27_Same_c5 n x0 x1 x2 x3 x4 x5 x6 x7:Eq (ref27_Same_i5 (n+1) x0 x1 x2 x3 x4 x5 x6 x7) <| ref27_Same_i15 n x0 x1 x2 x3 x4 x5 x6 x7 0:=mkI (by kernel_rfl)
theorem ref27_Same_c7 n x0 x1 x2 x3 x4 x5 x6 x7 x8 x9 x10:Eq (ref27_Same_i7 (n+1) x0 x1 x2 x3 x4 x5 x6 x7 x8 x9 x10) <| bif x10<ofNat x0.length then ix x0 x10 fun e0=>ix x5 x10 fun e1=>bif e0.1 !=e1.1 then some (false,()) else ref27_Same_i7 n x0 x1 x2 x3 x4 x5 x6 x7 x8 x9 (wrap .i64 (x10+1)) else ref27_Same_i5 n x1 x2 x3 x4 x6 x7 x8 x9:=mkI (by kernel_rfl)
theorem ref27_Same_c13 n x0 x1 x2 x3 x4 x5:Eq (ref27_Same_i13 (n+1) x0 x1 x2 x3 x4 x5) <| ref27_Same_i23 n x0 x1 x2 x3 x4 x5 0:=mkI (by kernel_rfl)
theorem ref27_Same_c15 n x0 x1 x2 x3 x4 x5 x6 x7 x8:Eq (ref27_Same_i15 (n+1) x0 x1 x2 x3 x4 x5 x6 x7 x8) <| bif x8<ofNat x0.length then ix x0 x8 fun e0=>ix x4 x8 fun e1=>bif !(e0.1==e1.1&&(e0.2.1==e1.2.1&&(e0.2.2.1==e1.2.2.1&&(e0.2.2.2.1==e1.2.2.2.1&&(e0.2.2.2.2.1==e1.2.2.2.2.1&&(e0.2.2.2.2.2.1==e1.2.2.2.2.2.1&&(e0.2.2.2.2.2.2.1==e1.2.2.2.2.2.2.1&&(e0.2.2.2.2.2.2.2.1==e1.2.2.2.2.2.2.2.1&&(e0.2.2.2.2.2.2.2.2.1==e1.2.2.2.2.2.2.2.2.1&&(e0.2.2.2.2.2.2.2.2.2.1==e1.2.2.2.2.2.2.2.2.2.1&&(e0.2.2.2.2.2.2.2.2.2.2.1==e1.2.2.2.2.2.2.2.2.2.2.1&&true))))))))))) then some (false,()) else ref27_Same_i15 n x0 x1 x2 x3 x4 x5 x6 x7 (wrap .i64 (x8+1)) else ref27_Same_i13 n x1 x2 x3 x5 x6 x7:=mkI (by kernel_rfl)
theorem ref27_Same_c21 n x0 x1 x2 x3:Eq (ref27_Same_i21 (n+1) x0 x1 x2 x3) <| ref27_Same_i31 n x0 x1 x2 x3 0:=mkI (by kernel_rfl)
theorem ref27_Same_c23 n x0 x1 x2 x3 x4 x5 x6:Eq (ref27_Same_i23 (n+1) x0 x1 x2 x3 x4 x5 x6) <| bif x6<ofNat x0.length then ix x0 x6 fun e0=>ix x3 x6 fun e1=>bif !(e0.1==e1.1&&(e0.2.1==e1.2.1&&(e0.2.2.1==e1.2.2.1&&(e0.2.2.2.1==e1.2.2.2.1&&(e0.2.2.2.2.1==e1.2.2.2.2.1&&true))))) then some (false,()) else ref27_Same_i23 n x0 x1 x2 x3 x4 x5 (wrap .i64 (x6+1)) else ref27_Same_i21 n x1 x2 x4 x5:=mkI (by kernel_rfl)
theorem ref27_Same_c29 n x0 x1:Eq (ref27_Same_i29 (n+1) x0 x1) <| ref27_Same_i39 n x0 x1 0:=mkI (by kernel_rfl)
theorem ref27_Same_c31 n x0 x1 x2 x3 x4:Eq (ref27_Same_i31 (n+1) x0 x1 x2 x3 x4) <| bif x4<ofNat x0.length then ix x0 x4 fun e0=>ix x2 x4 fun e1=>bif !(e0.1==e1.1&&(e0.2.1==e1.2.1&&(e0.2.2.1==e1.2.2.1&&(e0.2.2.2.1==e1.2.2.2.1&&(e0.2.2.2.2.1==e1.2.2.2.2.1&&true))))) then some (false,()) else ref27_Same_i31 n x0 x1 x2 x3 (wrap .i64 (x4+1)) else ref27_Same_i29 n x1 x3:=mkI (by kernel_rfl)
theorem ref27_Same_c39 n x0 x1 x2:Eq (ref27_Same_i39 (n+1) x0 x1 x2) <| bif x2<ofNat x0.length then ix x0 x2 fun e0=>ix x1 x2 fun e1=>bif !(e0.1==e1.1&&(e0.2.1==e1.2.1&&(e0.2.2.1==e1.2.2.1&&true))) then some (false,()) else ref27_Same_i39 n x0 x1 (wrap .i64 (x2+1)) else some (true,()):=mkI (by kernel_rfl)
noncomputable def tab71:Tb:=[]
def F71:TFun:=⟨[],[(6,qc [[.c (.p (.sl Vq2))],[.c (.p (.sl Vq2))],qn 3,qi,qn 20])],[.c (.sl Vq2),.c (.sl Vq2)],[.c (.p db)],qc [qn 4,qb,qn 21],[],[],0⟩
noncomputable def con71:=mkC tab71 prog 71 F71
theorem ok71:con71.ok prog 71:=mkO trivial (by kernel_rfl)
noncomputable def ref26_SameList (a0 a1:(List Vy8)):Option (Bool×Unit):=con71.fn (a0,a1,())
noncomputable def ref26_SameList_i6 (n:Nat)(x0 x1:(List Vy8))(x2:Int):Option (Bool×Unit):=itr tab71 prog 71 F71 n 6 (x0,x1,x2,())
theorem ref26_SameList_c a0 a1:Eq (ref26_SameList a0 a1) <| bif ofNat a0.length !=ofNat a1.length then some (false,()) else ref26_SameList_i6 fuel a0 a1 0:=mkE (by kernel_rfl)
theorem ref26_SameList_c6 n x0 x1 x2:Eq (ref26_SameList_i6 (n+1) x0 x1 x2) <| bif x2<ofNat x0.length then ix x0 x2 fun e0=>ix x1 x2 fun e1=>bif !(e0.1==e1.1&&(e0.2.1==e1.2.1&&(e0.2.2.1==e1.2.2.1&&(e0.2.2.2.1==e1.2.2.2.1&&(e0.2.2.2.2.1==e1.2.2.2.2.1&&(e0.2.2.2.2.2.1==e1.2.2.2.2.2.1&&(e0.2.2.2.2.2.2.1==e1.2.2.2.2.2.2.1&&(e0.2.2.2.2.2.2.2.1==e1.2.2.2.2.2.2.2.1&&(e0.2.2.2.2.2.2.2.2.1==e1.2.2.2.2.2.2.2.2.1&&(e0.2.2.2.2.2.2.2.2.2.1==e1.2.2.2.2.2.2.2.2.2.1&&true)))))))))) then some (false,()) else ref26_SameList_i6 n x0 x1 (wrap .i64 (x2+1)) else some (true,()):=mkI (by kernel_rfl)
noncomputable def tab50:Tb:=[(71,con71)]
def F50:TFun:=⟨[],[],[.a Vq10,.a Vq10],[.c (.p db)],qc [qn 4,qb,qn 12],[],[],0⟩
noncomputable def con50:=mkC tab50 prog 50 F50
theorem ok50:con50.ok prog 50:=mkO ⟨ok71,trivial⟩ (by kernel_rfl)
noncomputable def ref26_Same (a0 a1:Vy4):Option (Bool×Unit):=con50.fn (a0,a1,())
theorem ref26_Same_c a0 a1:Eq (ref26_Same a0 a1) <| bif a0.1==a1.1 then (ref26_SameList a0.2.1 a1.2.1).bind fun e0=>some (e0.1,()) else some (false,()):=mkE (by kernel_rfl)
noncomputable def tab31:Tb:=[(50,con50)]
def F31:TFun:=⟨[],[(6,qc [[.c (.p (.sl Vq10))],[.c (.p (.sl Vq10))],qn 3,qi,qn 21])],[.c (.sl Vq10),.c (.sl Vq10)],[.c (.p db)],qc [qn 4,qb,qn 22],[],[],0⟩
noncomputable def con31:=mkC tab31 prog 31 F31
theorem ok31:con31.ok prog 31:=mkO ⟨ok50,trivial⟩ (by kernel_rfl)
noncomputable def ref26_SameAll (a0 a1:(List Vy4)):Option (Bool×Unit):=con31.fn (a0,a1,())
noncomputable def ref26_SameAll_i6 (n:Nat)(x0 x1:(List Vy4))(x2:Int):Option (Bool×Unit):=itr tab31 prog 31 F31 n 6 (x0,x1,x2,())
theorem ref26_SameAll_c a0 a1:Eq (ref26_SameAll a0 a1) <| bif ofNat a0.length !=ofNat a1.length then some (false,()) else ref26_SameAll_i6 fuel a0 a1 0:=mkE (by kernel_rfl)
theorem ref26_SameAll_c6 n x0 x1 x2:Eq (ref26_SameAll_i6 (n+1) x0 x1 x2) <| bif x2<ofNat x0.length then ix x0 x2 fun e0=>ix x1 x2 fun e1=>(ref26_Same e0 e1).bind fun e2=>bif !e2.1 then some (false,()) else ref26_SameAll_i6 n x0 x1 (wrap .i64 (x2+1)) else some (true,()):=mkI (by kernel_rfl)
noncomputable def tab12:Tb:=[(31,con31),(32,con32)]
def F12:TFun:=⟨[],[(7,qc [qn 2,[.boxN 35 14 [.any,.any,.any,.any,.any,.any,.any,.any,.any,.any,.any,.any,.p (.sl Vq1),.any]],[.boxN 35 14 [.any,.any,.any,.any,.any,.any,.any,.any,.any,.any,.any,.any,.p (.sl Vq1),.any]],qn 1,qi,qn 34])],[.a Vq9,.a Vq9],[.c (.p db)],qc [qn 4,qb,qn 35],[],[],0⟩
noncomputable def con12:=mkC tab12 prog 12 F12
theorem ok12:con12.ok prog 12:=mkO ⟨ok31,ok32,trivial⟩ (by kernel_rfl)
noncomputable def ref35_Same (a0 a1:Vy7):Option (Bool×Unit):=con12.fn (a0,a1,())
noncomputable def ref35_Same_i7 (n:Nat)(x0 x1:(List Vy1))(x2:Int):Option (Bool×Unit):=itr tab12 prog 12 F12 n 7 (x0,x1,x2,())
theorem ref35_Same_c a0 a1:Eq (ref35_Same a0 a1) <| bif ofNat a0.2.2.2.2.2.2.2.2.2.2.2.2.1.length !=ofNat a1.2.2.2.2.2.2.2.2.2.2.2.2.1.length then some (false,()) else (ref26_SameAll a0.2.2.2.2.2.2.2.2.2.2.2.2.2.1 a1.2.2.2.2.2.2.2.2.2.2.2.2.2.1).bind fun e0=>bif !e0.1 then some (false,()) else ref35_Same_i7 fuel a0.2.2.2.2.2.2.2.2.2.2.2.2.1 a1.2.2.2.2.2.2.2.2.2.2.2.2.1 0:=mkE (by kernel_rfl)
theorem ref35_Same_c7 n x0 x1 x2:Eq (ref35_Same_i7 (n+1) x0 x1 x2) <| bif x2<ofNat x0.length then ix x0 x2 fun e0=>ix x1 x2 fun e1=>(ref27_Same e0 e1).bind fun e2=>bif !e2.1 then some (false,()) else ref35_Same_i7 n x0 x1 (wrap .i64 (x2+1)) else some (true,()):=mkI (by kernel_rfl)
noncomputable def tab11:Tb:=[]
def F11:TFun:=⟨[],[(6,qc [[.c (.p (.sl Vq12))],[.c (.p (.sl Vq12))],qn 3,qi,qn 20])],[.c (.sl Vq12),.c (.sl Vq12)],[.c (.p db)],qc [qn 4,qb,qn 21],[],[],0⟩
noncomputable def con11:=mkC tab11 prog 11 F11
theorem ok11:con11.ok prog 11:=mkO trivial (by kernel_rfl)
noncomputable def ref24_SameInts (a0 a1:Vy9):Option (Bool×Unit):=con11.fn (a0,a1,())
noncomputable def ref24_SameInts_i6 (n:Nat)(x0 x1:Vy9)(x2:Int):Option (Bool×Unit):=itr tab11 prog 11 F11 n 6 (x0,x1,x2,())
theorem ref24_SameInts_c a0 a1:Eq (ref24_SameInts a0 a1) <| bif ofNat a0.length !=ofNat a1.length then some (false,()) else ref24_SameInts_i6 fuel a0 a1 0:=mkE (by kernel_rfl)
theorem ref24_SameInts_c6 n x0 x1 x2:Eq (ref24_SameInts_i6 (n+1) x0 x1 x2) <| bif x2<ofNat x0.length then ix x0 x2 fun e0=>ix x1 x2 fun e1=>bif e0.1 !=e1.1 then some (false,()) else ref24_SameInts_i6 n x0 x1 (wrap .i64 (x2+1)) else some (true,()):=mkI (by kernel_rfl)
noncomputable def tab19:Tb:=[(11,con11)]
def F19:TFun:=⟨[],[],[.c (.sl Vq12),.c (.sl Vq12)],[.c (.p db)],qc [qn 4,qb,qn 3],[],[],0⟩
noncomputable def con19:=mkC tab19 prog 19 F19
theorem ok19:con19.ok prog 19:=mkO ⟨ok11,trivial⟩ (by kernel_rfl)
noncomputable def law38_same (a0 a1:Vy9):Option (Bool×Unit):=con19.fn (a0,a1,())
theorem law38_same_c a0 a1:Eq (law38_same a0 a1) <| (ref24_SameInts a0 a1).bind fun e0=>some (e0.1,()):=mkE (by kernel_rfl)
noncomputable def tab35:Tb:=[]
def F35:TFun:=⟨[2],[(2,qc [qn 1,[.boxN 35 14 [.any,.any,.any,.any,.any,.any,.any,.any,.any,.any,.any,.any,.any,.p (.sl Vq10)]],[.boxN 54 3 [.any,.any,.any]],[.boxN 54 3 [.p di,.p di,.p di]],qn 50]),(4,qc [qn 1,[.boxN 35 14 [.any,.any,.any,.any,.any,.any,.any,.any,.any,.any,.any,.any,.p (.sl Vq1),.p (.sl Vq10)]],[.boxN 54 3 [.any,.any,.any]],[.boxN 54 3 [.p di,.p di,.p di]],qi,qn 49]),(11,qc [qn 1,[.boxN 35 14 [.any,.any,.any,.any,.any,.any,.any,.any,.any,.any,.any,.any,.any,.p (.sl Vq10)]],[.boxN 54 3 [.any,.any,.any]],[.boxN 54 3 [.p di,.p di,.p di]],qn 1,qi,qn 48])],[.a Vq9],[.a [.p di,.p di,.p di]],qc [qn 2,[.boxN 54 3 [.p di,.p di,.p di]],qn 51],[],[],0⟩
noncomputable def con35:=mkC tab35 prog 35 F35
theorem ok35:con35.ok prog 35:=mkO trivial (by kernel_rfl)
noncomputable def ref38_Rest (a0:Vy7):Option ((Int×Int×Int×Unit)×Unit):=con35.fn (a0,())
noncomputable def ref38_Rest_i2 (n:Nat)(x0:(List Vy4))(x1 x2 x3:Int):Option ((Int×Int×Int×Unit)×Unit):=itr tab35 prog 35 F35 n 2 (x0,x1,x2,x3,())
noncomputable def ref38_Rest_i4 (n:Nat)(x0:(List Vy1))(x1:(List Vy4))(x2 x3 x4 x5:Int):Option ((Int×Int×Int×Unit)×Unit):=itr tab35 prog 35 F35 n 4 (x0,x1,x2,x3,x4,x5,())
noncomputable def ref38_Rest_i11 (n:Nat)(x0:(List Vy4))(x1 x2 x3 x4:Int):Option ((Int×Int×Int×Unit)×Unit):=itr tab35 prog 35 F35 n 11 (x0,x1,x2,x3,x4,())
theorem ref38_Rest_c a0:Eq (ref38_Rest a0) <| ref38_Rest_i4 fuel a0.2.2.2.2.2.2.2.2.2.2.2.2.1 a0.2.2.2.2.2.2.2.2.2.2.2.2.2.1 0 0 0 0:=mkE (by kernel_rfl)
theorem ref38_Rest_c2 n x0 x1 x2 x3:Eq (ref38_Rest_i2 (n+1) x0 x1 x2 x3) <| ref38_Rest_i11 n x0 x1 x2 x3 0:=mkI (by kernel_rfl)
theorem ref38_Rest_c4 n x0 x1 x2 x3 x4 x5:Eq (ref38_Rest_i4 (n+1) x0 x1 x2 x3 x4 x5) <| bif x5<ofNat x0.length then ix x0 x5 fun e0=>ix x0 x5 fun e1=>ref38_Rest_i4 n x0 x1 (wrap .i64 (x2+ofNat e0.2.2.2.2.2.2.1.length)) (wrap .i64 (x3+ofNat e1.2.2.2.1.length)) x4 (wrap .i64 (x5+1)) else ref38_Rest_i2 n x1 x2 x3 x4:=mkI (by kernel_rfl)
theorem ref38_Rest_c11 n x0 x1 x2 x3 x4:Eq (ref38_Rest_i11 (n+1) x0 x1 x2 x3 x4) <| bif x4<ofNat x0.length then ix x0 x4 fun e0=>ref38_Rest_i11 n x0 x1 x2 (wrap .i64 (x3+ofNat e0.2.1.length)) (wrap .i64 (x4+1)) else some (((x1,x2,x3,()),())):=mkI (by kernel_rfl)
noncomputable def tab37:Tb:=[]
def F37:TFun:=⟨[],[],[.a Vq10],[.a [.p di,.s 97 10 Vq2]],qc [qn 2,[.boxN 77 2 [.p di,.rowN 97 10 Vq2]],qn 7],[],[],0⟩
noncomputable def con37:=mkC tab37 prog 37 F37
theorem ok37:con37.ok prog 37:=mkO trivial (by kernel_rfl)
noncomputable def con37p:TCon:=⟨con37.args,[.a [.p di,.p (.sl Vq2)]],con37.fn⟩
theorem ok37p:con37p.ok prog 37:=TCon.frz (c:=con37) ok37 rfl
noncomputable def ref26_Twin (a0:Vy4):Option (Vy4×Unit):=con37.fn (a0,())
theorem ref26_Twin_c a0:Eq (ref26_Twin a0) <| bif bigOk (0+a0.2.1.length) 80 then some (a0,()) else none:=mkE (by kernel_rfl)
noncomputable def tab23:Tb:=[(37,con37p)]
def F23:TFun:=⟨[],[(4,qc [[.c (.p (.sl Vq10))],qn 2,[.c (.rowN 77 2 Vq10)],qi,qn 15])],[.c (.sl Vq10)],[.c (.s 77 2 Vq10)],qc [qn 2,[.c (.rowN 77 2 Vq10)],qn 17],[],[],0⟩
noncomputable def con23:=mkC tab23 prog 23 F23
theorem ok23:con23.ok prog 23:=mkO ⟨ok37p,trivial⟩ (by kernel_rfl)
noncomputable def con23p:TCon:=⟨con23.args,[.c (.p (.sl Vq10))],con23.fn⟩
theorem ok23p:con23p.ok prog 23:=TCon.frz (c:=con23) ok23 rfl
noncomputable def ref27_TwinAll (a0:(List Vy4)):Option (List Vy4×Unit):=con23.fn (a0,())
noncomputable def ref27_TwinAll_i4 (n:Nat)(x0 x1:(List Vy4))(x2:Int):Option (List Vy4×Unit):=itr tab23 prog 23 F23 n 4 (x0,x1,x2,())
theorem ref27_TwinAll_c a0:Eq (ref27_TwinAll a0) <| ref27_TwinAll_i4 fuel a0 ([]) 0:=mkE (by kernel_rfl)
theorem ref27_TwinAll_c4 n x0 x1 x2:Eq (ref27_TwinAll_i4 (n+1) x0 x1 x2) <| bif x2<ofNat x0.length then ix x0 x2 fun e0=>(ref26_Twin e0).bind fun e1=>bif bigOk (x1.length+List.length [e1.1]) 32 then ref27_TwinAll_i4 n x0 (x1++[e1.1]) (wrap .i64 (x2+1)) else none else some (x1,()):=mkI (by kernel_rfl)
noncomputable def tab22:Tb:=[]
def F22:TFun:=⟨[],[],[.a Vq1],[.a [.p (.int .u8),.p di,.p di,.s 99 11 Vq6,.s 2 1 Vq12,.s 126 11 Vq3,.s 101 5 Vq7,.s 95 5 Vq4,.s 90 3 Vq8]],qc [qn 2,[.boxN 73 9 [.p (.int .u8),.p di,.p di,.rowN 99 11 Vq6,.rowN 2 1 Vq12,.rowN 126 11 Vq3,.rowN 101 5 Vq7,.rowN 95 5 Vq4,.rowN 90 3 Vq8]],qn 31],[],[],0⟩
noncomputable def con22:=mkC tab22 prog 22 F22
theorem ok22:con22.ok prog 22:=mkO trivial (by kernel_rfl)
noncomputable def con22p:TCon:=⟨con22.args,[.a [.p (.int .u8),.p di,.p di,.p (.sl Vq6),.p (.sl Vq12),.p (.sl Vq3),.p (.sl Vq7),.p (.sl Vq4),.p (.sl Vq8)]],con22.fn⟩
theorem ok22p:con22p.ok prog 22:=TCon.frz (c:=con22) ok22 rfl
noncomputable def ref27_Twin (a0:Vy1):Option (Vy1×Unit):=con22.fn (a0,())
theorem ref27_Twin_c a0:Eq (ref27_Twin a0) <| bif bigOk (0+a0.2.2.2.1.length) 88 then bif bigOk (0+a0.2.2.2.2.1.length) 8 then bif bigOk (0+a0.2.2.2.2.2.1.length) 88 then bif bigOk (0+a0.2.2.2.2.2.2.1.length) 40 then bif bigOk (0+a0.2.2.2.2.2.2.2.1.length) 40 then bif bigOk (0+a0.2.2.2.2.2.2.2.2.1.length) 24 then some (a0,()) else none else none else none else none else none else none:=mkE (by kernel_rfl)
noncomputable def tab6:Tb:=[(22,con22p),(23,con23p)]
def F6:TFun:=⟨[],[(4,qc [qn 1,[.boxN 35 14 [.p (.int .u8),.p (.sl Vq5),.p (.sl Vq12),.p db,.p (.sl Vq5),.p (.int .u8),.p di,.p di,.p db,.p (.int .u8),.p (.sl Vq13),.p (.sl Vq4),.p (.sl Vq1),.p (.sl Vq10)]],[.boxN 35 14 [.any,.nil,.nil,.any,.nil,.any,.any,.any,.any,.any,.nil,.nil,.nil,.nil]],[.c (.rowN 73 9 Vq1)],qi,qn 23])],[.a Vq9],[.a [.p (.int .u8),.p (.sl Vq5),.p (.sl Vq12),.p db,.p (.sl Vq5),.p (.int .u8),.p di,.p di,.p db,.p (.int .u8),.p (.sl Vq13),.p (.sl Vq4),.s 73 9 Vq1,.p (.sl Vq10)]],qc [qn 2,[.boxN 35 14 [.p (.int .u8),.p (.sl Vq5),.p (.sl Vq12),.p db,.p (.sl Vq5),.p (.int .u8),.p di,.p di,.p db,.p (.int .u8),.p (.sl Vq13),.p (.sl Vq4),.rowN 73 9 Vq1,.p (.sl Vq10)]],qn 25],[],[],0⟩
noncomputable def con6:=mkC tab6 prog 6 F6
theorem ok6:con6.ok prog 6:=mkO ⟨ok22p,ok23p,trivial⟩ (by kernel_rfl)
noncomputable def con6p:TCon:=⟨con6.args,[.a [.p (.int .u8),.p (.sl Vq5),.p (.sl Vq12),.p db,.p (.sl Vq5),.p (.int .u8),.p di,.p di,.p db,.p (.int .u8),.p (.sl Vq13),.p (.sl Vq4),.p (.sl Vq1),.p (.sl Vq10)]],con6.fn⟩
theorem ok6p:con6p.ok prog 6:=TCon.frz (c:=con6) ok6 rfl
noncomputable def ref35_Twin (a0:Vy7):Option (Vy7×Unit):=con6.fn (a0,())
noncomputable def ref35_Twin_i4 (n:Nat)(x0:Int)(x1:(List Vy2))(x2:Vy9)(x3:Bool)(x4:(List Vy2))(x5 x6 x7:Int)(x8:Bool)(x9:Int)(x10:(List Vy11))(x11:(List Vy2))(x12:(List Vy1))(x13:(List Vy4))(x14:(List Vy1))(x15:Int):Option (Vy7×Unit):=itr tab6 prog 6 F6 n 4 (x0,x1,x2,x3,x4,x5,x6,x7,x8,x9,x10,x11,x12,x13,x14,x15,())
theorem ref35_Twin_c a0:Eq (ref35_Twin a0) <| ref35_Twin_i4 fuel a0.1 a0.2.1 a0.2.2.1 a0.2.2.2.1 a0.2.2.2.2.1 a0.2.2.2.2.2.1 a0.2.2.2.2.2.2.1 a0.2.2.2.2.2.2.2.1 a0.2.2.2.2.2.2.2.2.1 a0.2.2.2.2.2.2.2.2.2.1 a0.2.2.2.2.2.2.2.2.2.2.1 a0.2.2.2.2.2.2.2.2.2.2.2.1 a0.2.2.2.2.2.2.2.2.2.2.2.2.1 a0.2.2.2.2.2.2.2.2.2.2.2.2.2.1 ([]) 0:=mkE (by kernel_rfl)
theorem ref35_Twin_c4 n x0 x1 x2 x3 x4 x5 x6 x7 x8 x9 x10 x11 x12 x13 x14 x15:Eq (ref35_Twin_i4 (n+1) x0 x1 x2 x3 x4 x5 x6 x7 x8 x9 x10 x11 x12 x13 x14 x15) <| bif x15<ofNat x12.length then ix x12 x15 fun e0=>(ref27_Twin e0).bind fun e1=>bif bigOk (x14.length+List.length [e1.1]) 168 then ref35_Twin_i4 n x0 x1 x2 x3 x4 x5 x6 x7 x8 x9 x10 x11 x12 x13 (x14++[e1.1]) (wrap .i64 (x15+1)) else none else (ref27_TwinAll x13).bind fun e0=>some (((x0,x1,x2,x3,x4,x5,x6,x7,x8,x9,x10,x11,x14,e0.1,()),())):=mkI (by kernel_rfl)
end Tg
