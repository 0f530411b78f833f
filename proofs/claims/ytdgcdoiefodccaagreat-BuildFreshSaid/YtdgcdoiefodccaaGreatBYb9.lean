import Derived.Test.YtdgcdoiefodccaaGreatBSI
import Derived.Test.YtdgcdoiefodccaaGreatBVb3
import Derived.Test.YtdgcdoiefodccaaGreatBXb6
/- Functions of the code, told plainly and checked by the kernel. -/
set_option linter.unusedVariables false
set_option linter.unusedSimpArgs false
set_option maxRecDepth 100000
namespace Tg
open Go.Abs hiding fuel
open Go.Proofs.Tryz (prog)
open Int (ofNat toNat)
open Go.IntKind (wrap)
noncomputable def Yi6:Tb:=[(70,Yg3),(71,Yit),(72,Yiu)]
def F30:TFun:=⟨[6],[(6,qc [qn 2,[.boxN 35 14 [.any,.any,.any,.p db,.any,.any,.any,.any,.any,.p (.int .u8),.any,.any,.any,.any]],qn 2,[.boxN 58 9 [.p (.int .u8),.any,.any,.any,.p (.sl Yq7),.any,.any,.any,.any]],qi,qi,qn 78]),(8,qc [qn 2,[.boxN 35 14 [.any,.any,.any,.p db,.any,.any,.any,.any,.any,.p (.int .u8),.any,.any,.any,.any]],qn 2,[.boxN 58 9 [.p (.int .u8),.any,.any,.any,.p (.sl Yq7),.any,.any,.any,.any]],qi,qi,qn 33,[.c (.p (.sl Yq6))],qi,qi,qn 42])],[.a Yq2,.c di],[.c (.p db)],qc [qn 4,qb,qn 81],[],[],0⟩
noncomputable def Yi7:=mkC Yi6 prog 30 F30
theorem ok30:Yi7.ok prog 30:=mkO ⟨ok70,Yth,Yti,trivial⟩ (by kernel_rfl)
noncomputable def Zr9 (a0:Yy2)(a1:Int):Option (Bool×Unit):=Yi7.fn (a0,a1,())
noncomputable def Zqx (n:Nat)(x0:Bool)(x1 x2:Int)(x3:Yy5)(x4 x5:Int):Option (Bool×Unit):=itr Yi6 prog 30 F30 n 6 (x0,x1,x2,x3,x4,x5,())
noncomputable def Zf0 (n:Nat)(x0:Bool)(x1 x2:Int)(x3:Yy5)(x4 x5:Int)(x6:(List (Int×Int×Int×Int×Int×Int×Int×Int×Int×Int×Int×Unit)))(x7 x8:Int):Option (Bool×Unit):=itr Yi6 prog 30 F30 n 8 (x0,x1,x2,x3,x4,x5,x6,x7,x8,())
theorem Z6s a0 a1:Eq (Zr9 a0 a1) <| ix a0.2.2.2.2.2.2.2.2.2.2.2.2.1 a1 fun e0=>ix a0.2.2.2.2.2.2.2.2.2.2.1 a1 fun e1=>bif !(e0.1==e1.1&&(e0.2.1==e1.2.1&&true)) then some (false,()) else (Zji e0).bind fun e2=>bif e2.1 !=0 then some (false,()) else (Zav (a0.2.2.2.2.2.2.2.2.2.2.1,a0.2.2.2.2.2.2.2.2.2.2.2.1,()) a1).bind fun e3=>(Q0 (a0.2.2.2.2.2.2.2.2.2.2.1,a0.2.2.2.2.2.2.2.2.2.2.2.1,()) a1).bind fun e4=>Zf0 fuel a0.2.2.2.1 a0.2.2.2.2.2.2.2.2.2.1 e0.1 e0.2.2.2.2.1 (ofNat e3.1.length) (ofNat e4.1.length) e0.2.2.2.1 (ofNat e0.2.2.2.1.length) 0:=mkE (by kernel_rfl)
theorem Z3l n x0 x1 x2 x3 x4 x5:Eq (Zqx (n+1) x0 x1 x2 x3 x4 x5) <| bif x2==2 then bif x1==2 then some (x5==2,()) else some (x5==1,()) else bif x2==4 then bif ofNat x3.length==x4 then some (!x0,()) else some (false,()) else bif x2==5 then bif x4==2 then some (x0,()) else some (false,()) else some (true,()):=mkI (by kernel_rfl)
theorem Zqy n x0 x1 x2 x3 x4 x5 x6 x7 x8:Eq (Zf0 (n+1) x0 x1 x2 x3 x4 x5 x6 x7 x8) <| bif x8<x7 then ix x6 x8 fun e0=>bif e0.1≥x5 then some (false,()) else Zf0 n x0 x1 x2 x3 x4 x5 x6 x7 (wrap .i64 (x8+1)) else Zqx n x0 x1 x2 x3 x4 x5:=mkI (by kernel_rfl)
noncomputable def Ycu:Tb:=[(27,Z02),(28,Yn0),(29,Ygz),(30,Yi7)]
def F12:TFun:=⟨[7],[(7,qc [qn 1,[.boxN 35 14 [.p (.int .u8),.p (.sl Yq4),.p (.sl Yq7),.p db,.p (.sl Yq4),.p (.int .u8),.p di,.p di,.p db,.p (.int .u8),.p (.sl Yq8),.p (.sl Yq5),.p (.sl Yq1),.p (.sl Yq3)]],qn 75]),(9,qc [qn 1,[.boxN 35 14 [.p (.int .u8),.p (.sl Yq4),.p (.sl Yq7),.p db,.p (.sl Yq4),.p (.int .u8),.p di,.p di,.p db,.p (.int .u8),.p (.sl Yq8),.p (.sl Yq5),.p (.sl Yq1),.p (.sl Yq3)]],qn 41,[.c (.p (.sl Yq3))],qi,qi,qn 31]),(18,qc [qn 1,[.boxN 35 14 [.p (.int .u8),.p (.sl Yq4),.p (.sl Yq7),.p db,.p (.sl Yq4),.p (.int .u8),.p di,.p di,.p db,.p (.int .u8),.p (.sl Yq8),.p (.sl Yq5),.p (.sl Yq1),.p (.sl Yq3)]],qn 66,qi,qi,qn 7])],[.a Yq2],[.c (.p di)],qc [qn 2,qi,qn 74],[],[],0⟩
noncomputable def Ycv:=mkC Ycu prog 12 F12
theorem ok12:Ycv.ok prog 12:=mkO ⟨ok27,ok28,ok29,ok30,trivial⟩ (by kernel_rfl)
noncomputable def Zhb (a0:Yy2):Option (Int×Unit):=Ycv.fn (a0,())
noncomputable def Zop (n:Nat)(x0:Int)(x1:Yy3)(x2:Yy5)(x3:Bool)(x4:Yy3)(x5 x6 x7:Int)(x8:Bool)(x9:Int)(x10:Yy6)(x11:Yy3)(x12:(List Yy1))(x13:Yy4):Option (Int×Unit):=itr Ycu prog 12 F12 n 7 (x0,x1,x2,x3,x4,x5,x6,x7,x8,x9,x10,x11,x12,x13,())
noncomputable def Zex (n:Nat)(x0:Int)(x1:Yy3)(x2:Yy5)(x3:Bool)(x4:Yy3)(x5 x6 x7:Int)(x8:Bool)(x9:Int)(x10:Yy6)(x11:Yy3)(x12:(List Yy1))(x13 x14:Yy4)(x15 x16:Int):Option (Int×Unit):=itr Ycu prog 12 F12 n 9 (x0,x1,x2,x3,x4,x5,x6,x7,x8,x9,x10,x11,x12,x13,x14,x15,x16,())
noncomputable def Zds (n:Nat)(x0:Int)(x1:Yy3)(x2:Yy5)(x3:Bool)(x4:Yy3)(x5 x6 x7:Int)(x8:Bool)(x9:Int)(x10:Yy6)(x11:Yy3)(x12:(List Yy1))(x13:Yy4)(x14 x15:Int):Option (Int×Unit):=itr Ycu prog 12 F12 n 18 (x0,x1,x2,x3,x4,x5,x6,x7,x8,x9,x10,x11,x12,x13,x14,x15,())
theorem Z3m a0:Eq (Zhb a0) <| (Qz (a0.1,a0.2.1,a0.2.2.1,a0.2.2.2.1,a0.2.2.2.2.1,a0.2.2.2.2.2.1,a0.2.2.2.2.2.2.1,a0.2.2.2.2.2.2.2.1,a0.2.2.2.2.2.2.2.2.1,a0.2.2.2.2.2.2.2.2.2.1,())).bind fun e0=>bif e0.2.1 !=0 then some (8,()) else (Zbp (a0.2.2.2.2.2.2.2.2.2.2.1,a0.2.2.2.2.2.2.2.2.2.2.2.1,())).bind fun e1=>bif e1.1 !=0 then some (8,()) else bif ofNat a0.2.2.2.2.2.2.2.2.2.2.2.2.1.length !=ofNat a0.2.2.2.2.2.2.2.2.2.2.1.length then some (8,()) else bif ofNat a0.2.2.2.2.2.2.2.2.2.2.2.2.2.1.length !=ofNat a0.2.2.2.2.2.2.2.2.2.2.2.1.length then some (8,()) else Zex fuel a0.1 a0.2.1 a0.2.2.1 a0.2.2.2.1 a0.2.2.2.2.1 a0.2.2.2.2.2.1 a0.2.2.2.2.2.2.1 a0.2.2.2.2.2.2.2.1 a0.2.2.2.2.2.2.2.2.1 a0.2.2.2.2.2.2.2.2.2.1 a0.2.2.2.2.2.2.2.2.2.2.1 a0.2.2.2.2.2.2.2.2.2.2.2.1 a0.2.2.2.2.2.2.2.2.2.2.2.2.1 a0.2.2.2.2.2.2.2.2.2.2.2.2.2.1 a0.2.2.2.2.2.2.2.2.2.2.2.2.2.1 (ofNat a0.2.2.2.2.2.2.2.2.2.2.2.2.2.1.length) 0:=mkE (by kernel_rfl)
theorem Zy9 n x0 x1 x2 x3 x4 x5 x6 x7 x8 x9 x10 x11 x12 x13:Eq (Zop (n+1) x0 x1 x2 x3 x4 x5 x6 x7 x8 x9 x10 x11 x12 x13) <| Zds n x0 x1 x2 x3 x4 x5 x6 x7 x8 x9 x10 x11 x12 x13 (ofNat x12.length) 0:=mkI (by kernel_rfl)
theorem Zoq n x0 x1 x2 x3 x4 x5 x6 x7 x8 x9 x10 x11 x12 x13 x14 x15 x16:Eq (Zex (n+1) x0 x1 x2 x3 x4 x5 x6 x7 x8 x9 x10 x11 x12 x13 x14 x15 x16) <| bif x16<x15 then ix x14 x16 fun e0=>ix x11 x16 fun e1=>bif e0.1 !=e1.2.2.2.2.1 then some (8,()) else (Zid e0).bind fun e2=>bif e2.1 !=0 then some (8,()) else Zex n x0 x1 x2 x3 x4 x5 x6 x7 x8 x9 x10 x11 x12 x13 x14 x15 (wrap .i64 (x16+1)) else Zop n x0 x1 x2 x3 x4 x5 x6 x7 x8 x9 x10 x11 x12 x13:=mkI (by kernel_rfl)
theorem Zm9 n x0 x1 x2 x3 x4 x5 x6 x7 x8 x9 x10 x11 x12 x13 x14 x15:Eq (Zds (n+1) x0 x1 x2 x3 x4 x5 x6 x7 x8 x9 x10 x11 x12 x13 x14 x15) <| bif x15<x14 then (Zr9 (x0,x1,x2,x3,x4,x5,x6,x7,x8,x9,x10,x11,x12,x13,()) x15).bind fun e0=>bif !e0.1 then some (8,()) else Zds n x0 x1 x2 x3 x4 x5 x6 x7 x8 x9 x10 x11 x12 x13 x14 (wrap .i64 (x15+1)) else some (0,()):=mkI (by kernel_rfl)
end Tg
