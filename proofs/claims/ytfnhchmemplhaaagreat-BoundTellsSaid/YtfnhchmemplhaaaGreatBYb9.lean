import Derived.Test.YtfnhchmemplhaaaGreatBSI
import Derived.Test.YtfnhchmemplhaaaGreatBVb3
import Derived.Test.YtfnhchmemplhaaaGreatBXb6
/- Functions of the code, told plainly and checked by the kernel. -/
set_option linter.unusedVariables false
set_option linter.unusedSimpArgs false
set_option maxRecDepth 100000
namespace Tg
open Go.Abs hiding fuel
open Go.Proofs.Tryz (prog)
open Int (ofNat toNat)
open Go.IntKind (wrap)
noncomputable def Yda:Tb:=[(61,Ya6),(62,Ycz),(63,Yc0)]
def F41:TFun:=⟨[6],[(6,qc [qn 2,[.boxN 35 14 [.any,.any,.any,.p db,.any,.any,.any,.any,.any,.p (.int .u8),.any,.any,.any,.any]],qn 2,[.boxN 73 9 [.p (.int .u8),.any,.any,.any,.p (.sl Yq7),.any,.any,.any,.any]],qi,qi,qn 78]),(8,qc [qn 2,[.boxN 35 14 [.any,.any,.any,.p db,.any,.any,.any,.any,.any,.p (.int .u8),.any,.any,.any,.any]],qn 2,[.boxN 73 9 [.p (.int .u8),.any,.any,.any,.p (.sl Yq7),.any,.any,.any,.any]],qi,qi,qn 33,[.c (.p (.sl Yq6))],qi,qi,qn 42])],[.a Yq1,.c di],[.c (.p db)],qc [qn 4,qb,qn 81],[],[],0⟩
noncomputable def Ydb:=mkC Yda prog 41 F41
theorem ok41:Ydb.ok prog 41:=mkO ⟨ok61,Ylv,Ylw,trivial⟩ (by kernel_rfl)
noncomputable def Zl9 (a0:Yy1)(a1:Int):Option (Bool×Unit):=Ydb.fn (a0,a1,())
noncomputable def Zo0 (n:Nat)(x0:Bool)(x1 x2:Int)(x3:Yy6)(x4 x5:Int):Option (Bool×Unit):=itr Yda prog 41 F41 n 6 (x0,x1,x2,x3,x4,x5,())
noncomputable def Ze3 (n:Nat)(x0:Bool)(x1 x2:Int)(x3:Yy6)(x4 x5:Int)(x6:Yy5)(x7 x8:Int):Option (Bool×Unit):=itr Yda prog 41 F41 n 8 (x0,x1,x2,x3,x4,x5,x6,x7,x8,())
theorem Z2u a0 a1:Eq (Zl9 a0 a1) <| ix a0.2.2.2.2.2.2.2.2.2.2.2.2.1 a1 fun e0=>ix a0.2.2.2.2.2.2.2.2.2.2.1 a1 fun e1=>bif !(e0.1==e1.1&&(e0.2.1==e1.2.1&&true)) then some (false,()) else (Zh5 e0).bind fun e2=>bif e2.1 !=0 then some (false,()) else (Zaf (a0.2.2.2.2.2.2.2.2.2.2.1,a0.2.2.2.2.2.2.2.2.2.2.2.1,()) a1).bind fun e3=>(Qm (a0.2.2.2.2.2.2.2.2.2.2.1,a0.2.2.2.2.2.2.2.2.2.2.2.1,()) a1).bind fun e4=>Ze3 fuel a0.2.2.2.1 a0.2.2.2.2.2.2.2.2.2.1 e0.1 e0.2.2.2.2.1 (ofNat e3.1.length) (ofNat e4.1.length) e0.2.2.2.1 (ofNat e0.2.2.2.1.length) 0:=mkE (by kernel_rfl)
theorem Z0d n x0 x1 x2 x3 x4 x5:Eq (Zo0 (n+1) x0 x1 x2 x3 x4 x5) <| bif x2==2 then bif x1==2 then some (x5==2,()) else some (x5==1,()) else bif x2==4 then bif ofNat x3.length==x4 then some (!x0,()) else some (false,()) else bif x2==5 then bif x4==2 then some (x0,()) else some (false,()) else some (true,()):=mkI (by kernel_rfl)
theorem Zo1 n x0 x1 x2 x3 x4 x5 x6 x7 x8:Eq (Ze3 (n+1) x0 x1 x2 x3 x4 x5 x6 x7 x8) <| bif x8<x7 then ix x6 x8 fun e0=>bif e0.1≥x5 then some (false,()) else Ze3 n x0 x1 x2 x3 x4 x5 x6 x7 (wrap .i64 (x8+1)) else Zo0 n x0 x1 x2 x3 x4 x5:=mkI (by kernel_rfl)
noncomputable def Z7n:Tb:=[(38,Yb9),(39,Yco),(40,Yay),(41,Ydb)]
def F24:TFun:=⟨[7],[(7,qc [qn 1,[.boxN 35 14 [.p (.int .u8),.p (.sl Yq4),.p (.sl Yq7),.p db,.p (.sl Yq4),.p (.int .u8),.p di,.p di,.p db,.p (.int .u8),.p (.sl Yq8),.p (.sl Yq5),.p (.sl Yq2),.p (.sl Yq3)]],qn 75]),(9,qc [qn 1,[.boxN 35 14 [.p (.int .u8),.p (.sl Yq4),.p (.sl Yq7),.p db,.p (.sl Yq4),.p (.int .u8),.p di,.p di,.p db,.p (.int .u8),.p (.sl Yq8),.p (.sl Yq5),.p (.sl Yq2),.p (.sl Yq3)]],qn 41,[.c (.p (.sl Yq3))],qi,qi,qn 31]),(18,qc [qn 1,[.boxN 35 14 [.p (.int .u8),.p (.sl Yq4),.p (.sl Yq7),.p db,.p (.sl Yq4),.p (.int .u8),.p di,.p di,.p db,.p (.int .u8),.p (.sl Yq8),.p (.sl Yq5),.p (.sl Yq2),.p (.sl Yq3)]],qn 66,qi,qi,qn 7])],[.a Yq1],[.c (.p di)],qc [qn 2,qi,qn 74],[],[],0⟩
noncomputable def Ydc:=mkC Z7n prog 24 F24
theorem ok24:Ydc.ok prog 24:=mkO ⟨ok38,ok39,ok40,ok41,trivial⟩ (by kernel_rfl)
noncomputable def Zf2 (a0:Yy1):Option (Int×Unit):=Ydc.fn (a0,())
noncomputable def Zm0 (n:Nat)(x0:Int)(x1:Yy4)(x2:Yy6)(x3:Bool)(x4:Yy4)(x5 x6 x7:Int)(x8:Bool)(x9:Int)(x10:(List Yy7))(x11:Yy4)(x12:(List Yy2))(x13:(List Yy3)):Option (Int×Unit):=itr Z7n prog 24 F24 n 7 (x0,x1,x2,x3,x4,x5,x6,x7,x8,x9,x10,x11,x12,x13,())
noncomputable def Zd8 (n:Nat)(x0:Int)(x1:Yy4)(x2:Yy6)(x3:Bool)(x4:Yy4)(x5 x6 x7:Int)(x8:Bool)(x9:Int)(x10:(List Yy7))(x11:Yy4)(x12:(List Yy2))(x13 x14:(List Yy3))(x15 x16:Int):Option (Int×Unit):=itr Z7n prog 24 F24 n 9 (x0,x1,x2,x3,x4,x5,x6,x7,x8,x9,x10,x11,x12,x13,x14,x15,x16,())
noncomputable def Zda (n:Nat)(x0:Int)(x1:Yy4)(x2:Yy6)(x3:Bool)(x4:Yy4)(x5 x6 x7:Int)(x8:Bool)(x9:Int)(x10:(List Yy7))(x11:Yy4)(x12:(List Yy2))(x13:(List Yy3))(x14 x15:Int):Option (Int×Unit):=itr Z7n prog 24 F24 n 18 (x0,x1,x2,x3,x4,x5,x6,x7,x8,x9,x10,x11,x12,x13,x14,x15,())
theorem Z0e a0:Eq (Zf2 a0) <| (Zc7 (a0.1,a0.2.1,a0.2.2.1,a0.2.2.2.1,a0.2.2.2.2.1,a0.2.2.2.2.2.1,a0.2.2.2.2.2.2.1,a0.2.2.2.2.2.2.2.1,a0.2.2.2.2.2.2.2.2.1,a0.2.2.2.2.2.2.2.2.2.1,())).bind fun e0=>bif e0.2.1 !=0 then some (8,()) else (Qk (a0.2.2.2.2.2.2.2.2.2.2.1,a0.2.2.2.2.2.2.2.2.2.2.2.1,())).bind fun e1=>bif e1.1 !=0 then some (8,()) else bif ofNat a0.2.2.2.2.2.2.2.2.2.2.2.2.1.length !=ofNat a0.2.2.2.2.2.2.2.2.2.2.1.length then some (8,()) else bif ofNat a0.2.2.2.2.2.2.2.2.2.2.2.2.2.1.length !=ofNat a0.2.2.2.2.2.2.2.2.2.2.2.1.length then some (8,()) else Zd8 fuel a0.1 a0.2.1 a0.2.2.1 a0.2.2.2.1 a0.2.2.2.2.1 a0.2.2.2.2.2.1 a0.2.2.2.2.2.2.1 a0.2.2.2.2.2.2.2.1 a0.2.2.2.2.2.2.2.2.1 a0.2.2.2.2.2.2.2.2.2.1 a0.2.2.2.2.2.2.2.2.2.2.1 a0.2.2.2.2.2.2.2.2.2.2.2.1 a0.2.2.2.2.2.2.2.2.2.2.2.2.1 a0.2.2.2.2.2.2.2.2.2.2.2.2.2.1 a0.2.2.2.2.2.2.2.2.2.2.2.2.2.1 (ofNat a0.2.2.2.2.2.2.2.2.2.2.2.2.2.1.length) 0:=mkE (by kernel_rfl)
theorem Zwv n x0 x1 x2 x3 x4 x5 x6 x7 x8 x9 x10 x11 x12 x13:Eq (Zm0 (n+1) x0 x1 x2 x3 x4 x5 x6 x7 x8 x9 x10 x11 x12 x13) <| Zda n x0 x1 x2 x3 x4 x5 x6 x7 x8 x9 x10 x11 x12 x13 (ofNat x12.length) 0:=mkI (by kernel_rfl)
theorem Zm1 n x0 x1 x2 x3 x4 x5 x6 x7 x8 x9 x10 x11 x12 x13 x14 x15 x16:Eq (Zd8 (n+1) x0 x1 x2 x3 x4 x5 x6 x7 x8 x9 x10 x11 x12 x13 x14 x15 x16) <| bif x16<x15 then ix x14 x16 fun e0=>ix x11 x16 fun e1=>bif e0.1 !=e1.2.2.2.2.1 then some (8,()) else (Zg0 e0).bind fun e2=>bif e2.1 !=0 then some (8,()) else Zd8 n x0 x1 x2 x3 x4 x5 x6 x7 x8 x9 x10 x11 x12 x13 x14 x15 (wrap .i64 (x16+1)) else Zm0 n x0 x1 x2 x3 x4 x5 x6 x7 x8 x9 x10 x11 x12 x13:=mkI (by kernel_rfl)
theorem Zll n x0 x1 x2 x3 x4 x5 x6 x7 x8 x9 x10 x11 x12 x13 x14 x15:Eq (Zda (n+1) x0 x1 x2 x3 x4 x5 x6 x7 x8 x9 x10 x11 x12 x13 x14 x15) <| bif x15<x14 then (Zl9 (x0,x1,x2,x3,x4,x5,x6,x7,x8,x9,x10,x11,x12,x13,()) x15).bind fun e0=>bif !e0.1 then some (8,()) else Zda n x0 x1 x2 x3 x4 x5 x6 x7 x8 x9 x10 x11 x12 x13 x14 (wrap .i64 (x15+1)) else some (0,()):=mkI (by kernel_rfl)
end Tg
