import Derived.Test.YtdppkfgoiagepaaGreatDoorBVT
/- Functions of the code, told plainly and checked by the kernel. -/
set_option linter.unusedVariables false
set_option linter.unusedSimpArgs false
set_option maxRecDepth 100000
namespace Tg
open Go.Abs hiding fuel
open Go.Proofs.Tryz (prog)
open Int (ofNat toNat)
open Go.IntKind (wrap)
noncomputable def Z9q:Tb:=[]
def F78:TFun:=⟨[],[(6,qc [[.c (.p (.sl Vq6))],[.c (.p (.sl Vq6))],qn 3,qi,qn 20])],[.c (.sl Vq6),.c (.sl Vq6)],[.c (.p db)],qc [qn 4,qb,qn 21],[],[],0⟩
noncomputable def Z5n:=mkC Z9q prog 78 F78
theorem ok78:Z5n.ok prog 78:=mkO trivial (by kernel_rfl)
noncomputable def Zcp (a0 a1:(List Vy1)):Option (Bool×Unit):=Z5n.fn (a0,a1,())
noncomputable def Zao (n:Nat)(x0 x1:(List Vy1))(x2:Int):Option (Bool×Unit):=itr Z9q prog 78 F78 n 6 (x0,x1,x2,())
theorem Zk4 a0 a1:Eq (Zcp a0 a1) <| bif ofNat a0.length !=ofNat a1.length then some (false,()) else Zao fuel a0 a1 0:=mkE (by kernel_rfl)
theorem Zjz n x0 x1 x2:Eq (Zao (n+1) x0 x1 x2) <| bif x2<ofNat x0.length then ix x0 x2 fun e0=>ix x1 x2 fun e1=>bif !(e0.1==e1.1&&(e0.2.1==e1.2.1&&(e0.2.2.1==e1.2.2.1&&(e0.2.2.2.1==e1.2.2.2.1&&(e0.2.2.2.2.1==e1.2.2.2.2.1&&(e0.2.2.2.2.2.1==e1.2.2.2.2.2.1&&(e0.2.2.2.2.2.2.1==e1.2.2.2.2.2.2.1&&(e0.2.2.2.2.2.2.2.1==e1.2.2.2.2.2.2.2.1&&(e0.2.2.2.2.2.2.2.2.1==e1.2.2.2.2.2.2.2.2.1&&(e0.2.2.2.2.2.2.2.2.2.1==e1.2.2.2.2.2.2.2.2.2.1&&(e0.2.2.2.2.2.2.2.2.2.2.1==e1.2.2.2.2.2.2.2.2.2.2.1&&true))))))))))) then some (false,()) else Zao n x0 x1 (wrap .i64 (x2+1)) else some (true,()):=mkI (by kernel_rfl)
noncomputable def Zje:Tb:=[(78,Z5n)]
def F57:TFun:=⟨[5,13,21,29],[(5,qc [qn 2,[.boxN 57 9 [.any,.any,.any,.any,.any,.p (.sl Vq1),.p (.sl Vq7),.p (.sl Vq4),.p (.sl Vq8)]],[.boxN 57 9 [.any,.any,.any,.any,.any,.p (.sl Vq1),.p (.sl Vq7),.p (.sl Vq4),.p (.sl Vq8)]],qn 161]),(7,qc [qn 2,[.boxN 57 9 [.any,.any,.any,.any,.p (.sl Vq11),.p (.sl Vq1),.p (.sl Vq7),.p (.sl Vq4),.p (.sl Vq8)]],[.boxN 57 9 [.any,.any,.any,.any,.p (.sl Vq11),.p (.sl Vq1),.p (.sl Vq7),.p (.sl Vq4),.p (.sl Vq8)]],qn 1,qi,qn 159]),(13,qc [qn 2,[.boxN 57 9 [.any,.any,.any,.any,.any,.any,.p (.sl Vq7),.p (.sl Vq4),.p (.sl Vq8)]],[.boxN 57 9 [.any,.any,.any,.any,.any,.any,.p (.sl Vq7),.p (.sl Vq4),.p (.sl Vq8)]],qn 161]),(15,qc [qn 2,[.boxN 57 9 [.any,.any,.any,.any,.any,.p (.sl Vq1),.p (.sl Vq7),.p (.sl Vq4),.p (.sl Vq8)]],[.boxN 57 9 [.any,.any,.any,.any,.any,.p (.sl Vq1),.p (.sl Vq7),.p (.sl Vq4),.p (.sl Vq8)]],qn 2,qi,qn 158]),(21,qc [qn 2,[.boxN 57 9 [.any,.any,.any,.any,.any,.any,.any,.p (.sl Vq4),.p (.sl Vq8)]],[.boxN 57 9 [.any,.any,.any,.any,.any,.any,.any,.p (.sl Vq4),.p (.sl Vq8)]],qn 161]),(23,qc [qn 2,[.boxN 57 9 [.any,.any,.any,.any,.any,.any,.p (.sl Vq7),.p (.sl Vq4),.p (.sl Vq8)]],[.boxN 57 9 [.any,.any,.any,.any,.any,.any,.p (.sl Vq7),.p (.sl Vq4),.p (.sl Vq8)]],qn 3,qi,qn 157]),(29,qc [qn 2,[.boxN 57 9 [.any,.any,.any,.any,.any,.any,.any,.any,.p (.sl Vq8)]],[.boxN 57 9 [.any,.any,.any,.any,.any,.any,.any,.any,.p (.sl Vq8)]],qn 161]),(31,qc [qn 2,[.boxN 57 9 [.any,.any,.any,.any,.any,.any,.any,.p (.sl Vq4),.p (.sl Vq8)]],[.boxN 57 9 [.any,.any,.any,.any,.any,.any,.any,.p (.sl Vq4),.p (.sl Vq8)]],qn 4,qi,qn 156]),(39,qc [qn 2,[.boxN 57 9 [.any,.any,.any,.any,.any,.any,.any,.any,.p (.sl Vq8)]],[.boxN 57 9 [.any,.any,.any,.any,.any,.any,.any,.any,.p (.sl Vq8)]],qn 5,qi,qn 155])],[.a Vq2,.a Vq2],[.c (.p db)],qc [qn 4,qb,qn 160],[],[],0⟩
noncomputable def Z5o:=mkC Zje prog 57 F57
theorem ok57:Z5o.ok prog 57:=mkO ⟨ok78,trivial⟩ (by kernel_rfl)
noncomputable def Zj0 (a0 a1:Vy6):Option (Bool×Unit):=Z5o.fn (a0,a1,())
noncomputable def Zjf (n:Nat)(x0:(List Vy1))(x1:(List Vy3))(x2:(List Vy2))(x3:Vy5)(x4:(List Vy1))(x5:(List Vy3))(x6:(List Vy2))(x7:Vy5):Option (Bool×Unit):=itr Zje prog 57 F57 n 5 (x0,x1,x2,x3,x4,x5,x6,x7,())
noncomputable def Zb0 (n:Nat)(x0:Vy7)(x1:(List Vy1))(x2:(List Vy3))(x3:(List Vy2))(x4:Vy5)(x5:Vy7)(x6:(List Vy1))(x7:(List Vy3))(x8:(List Vy2))(x9:Vy5)(x10:Int):Option (Bool×Unit):=itr Zje prog 57 F57 n 7 (x0,x1,x2,x3,x4,x5,x6,x7,x8,x9,x10,())
noncomputable def Zhs (n:Nat)(x0:(List Vy3))(x1:(List Vy2))(x2:Vy5)(x3:(List Vy3))(x4:(List Vy2))(x5:Vy5):Option (Bool×Unit):=itr Zje prog 57 F57 n 13 (x0,x1,x2,x3,x4,x5,())
noncomputable def Zd3 (n:Nat)(x0:(List Vy1))(x1:(List Vy3))(x2:(List Vy2))(x3:Vy5)(x4:(List Vy1))(x5:(List Vy3))(x6:(List Vy2))(x7:Vy5)(x8:Int):Option (Bool×Unit):=itr Zje prog 57 F57 n 15 (x0,x1,x2,x3,x4,x5,x6,x7,x8,())
noncomputable def Zd4 (n:Nat)(x0:(List Vy2))(x1:Vy5)(x2:(List Vy2))(x3:Vy5):Option (Bool×Unit):=itr Zje prog 57 F57 n 21 (x0,x1,x2,x3,())
noncomputable def Qt (n:Nat)(x0:(List Vy3))(x1:(List Vy2))(x2:Vy5)(x3:(List Vy3))(x4:(List Vy2))(x5:Vy5)(x6:Int):Option (Bool×Unit):=itr Zje prog 57 F57 n 23 (x0,x1,x2,x3,x4,x5,x6,())
noncomputable def Zht (n:Nat)(x0 x1:Vy5):Option (Bool×Unit):=itr Zje prog 57 F57 n 29 (x0,x1,())
noncomputable def Zd5 (n:Nat)(x0:(List Vy2))(x1:Vy5)(x2:(List Vy2))(x3:Vy5)(x4:Int):Option (Bool×Unit):=itr Zje prog 57 F57 n 31 (x0,x1,x2,x3,x4,())
noncomputable def Zd6 (n:Nat)(x0 x1:Vy5)(x2:Int):Option (Bool×Unit):=itr Zje prog 57 F57 n 39 (x0,x1,x2,())
theorem Zuw a0 a1:Eq (Zj0 a0 a1) <| let k1:=some (false,());bif !(a0.1==a1.1&&(a0.2.1==a1.2.1&&true)) then k1 else bif a0.2.2.1 !=a1.2.2.1 then k1 else (Zcp a0.2.2.2.1 a1.2.2.2.1).bind fun e0=>bif !e0.1 then k1 else bif ofNat a0.2.2.2.2.1.length !=ofNat a1.2.2.2.2.1.length then k1 else bif ofNat a0.2.2.2.2.2.1.length !=ofNat a1.2.2.2.2.2.1.length then k1 else bif ofNat a0.2.2.2.2.2.2.1.length !=ofNat a1.2.2.2.2.2.2.1.length then k1 else bif ofNat a0.2.2.2.2.2.2.2.1.length !=ofNat a1.2.2.2.2.2.2.2.1.length then k1 else bif ofNat a0.2.2.2.2.2.2.2.2.1.length !=ofNat a1.2.2.2.2.2.2.2.2.1.length then k1 else Zb0 fuel a0.2.2.2.2.1 a0.2.2.2.2.2.1 a0.2.2.2.2.2.2.1 a0.2.2.2.2.2.2.2.1 a0.2.2.2.2.2.2.2.2.1 a1.2.2.2.2.1 a1.2.2.2.2.2.1 a1.2.2.2.2.2.2.1 a1.2.2.2.2.2.2.2.1 a1.2.2.2.2.2.2.2.2.1 0:=mkE (by kernel_rfl)
theorem Zq4 n x0 x1 x2 x3 x4 x5 x6 x7:Eq (Zjf (n+1) x0 x1 x2 x3 x4 x5 x6 x7) <| Zd3 n x0 x1 x2 x3 x4 x5 x6 x7 0:=mkI (by kernel_rfl)
theorem Zjg n x0 x1 x2 x3 x4 x5 x6 x7 x8 x9 x10:Eq (Zb0 (n+1) x0 x1 x2 x3 x4 x5 x6 x7 x8 x9 x10) <| bif x10<ofNat x0.length then ix x0 x10 fun e0=>ix x5 x10 fun e1=>bif e0.1 !=e1.1 then some (false,()) else Zb0 n x0 x1 x2 x3 x4 x5 x6 x7 x8 x9 (wrap .i64 (x10+1)) else Zjf n x1 x2 x3 x4 x6 x7 x8 x9:=mkI (by kernel_rfl)
theorem Zps n x0 x1 x2 x3 x4 x5:Eq (Zhs (n+1) x0 x1 x2 x3 x4 x5) <| Qt n x0 x1 x2 x3 x4 x5 0:=mkI (by kernel_rfl)
theorem Zpt n x0 x1 x2 x3 x4 x5 x6 x7 x8:Eq (Zd3 (n+1) x0 x1 x2 x3 x4 x5 x6 x7 x8) <| bif x8<ofNat x0.length then ix x0 x8 fun e0=>ix x4 x8 fun e1=>bif !(e0.1==e1.1&&(e0.2.1==e1.2.1&&(e0.2.2.1==e1.2.2.1&&(e0.2.2.2.1==e1.2.2.2.1&&(e0.2.2.2.2.1==e1.2.2.2.2.1&&(e0.2.2.2.2.2.1==e1.2.2.2.2.2.1&&(e0.2.2.2.2.2.2.1==e1.2.2.2.2.2.2.1&&(e0.2.2.2.2.2.2.2.1==e1.2.2.2.2.2.2.2.1&&(e0.2.2.2.2.2.2.2.2.1==e1.2.2.2.2.2.2.2.2.1&&(e0.2.2.2.2.2.2.2.2.2.1==e1.2.2.2.2.2.2.2.2.2.1&&(e0.2.2.2.2.2.2.2.2.2.2.1==e1.2.2.2.2.2.2.2.2.2.2.1&&true))))))))))) then some (false,()) else Zd3 n x0 x1 x2 x3 x4 x5 x6 x7 (wrap .i64 (x8+1)) else Zhs n x1 x2 x3 x5 x6 x7:=mkI (by kernel_rfl)
theorem Zpu n x0 x1 x2 x3:Eq (Zd4 (n+1) x0 x1 x2 x3) <| Zd5 n x0 x1 x2 x3 0:=mkI (by kernel_rfl)
theorem Zhu n x0 x1 x2 x3 x4 x5 x6:Eq (Qt (n+1) x0 x1 x2 x3 x4 x5 x6) <| bif x6<ofNat x0.length then ix x0 x6 fun e0=>ix x3 x6 fun e1=>bif !(e0.1==e1.1&&(e0.2.1==e1.2.1&&(e0.2.2.1==e1.2.2.1&&(e0.2.2.2.1==e1.2.2.2.1&&(e0.2.2.2.2.1==e1.2.2.2.2.1&&true))))) then some (false,()) else Qt n x0 x1 x2 x3 x4 x5 (wrap .i64 (x6+1)) else Zd4 n x1 x2 x4 x5:=mkI (by kernel_rfl)
theorem Zpv n x0 x1:Eq (Zht (n+1) x0 x1) <| Zd6 n x0 x1 0:=mkI (by kernel_rfl)
theorem Zpw n x0 x1 x2 x3 x4:Eq (Zd5 (n+1) x0 x1 x2 x3 x4) <| bif x4<ofNat x0.length then ix x0 x4 fun e0=>ix x2 x4 fun e1=>bif !(e0.1==e1.1&&(e0.2.1==e1.2.1&&(e0.2.2.1==e1.2.2.1&&(e0.2.2.2.1==e1.2.2.2.1&&(e0.2.2.2.2.1==e1.2.2.2.2.1&&true))))) then some (false,()) else Zd5 n x0 x1 x2 x3 (wrap .i64 (x4+1)) else Zht n x1 x3:=mkI (by kernel_rfl)
theorem Zpx n x0 x1 x2:Eq (Zd6 (n+1) x0 x1 x2) <| bif x2<ofNat x0.length then ix x0 x2 fun e0=>ix x1 x2 fun e1=>bif !(e0.1==e1.1&&(e0.2.1==e1.2.1&&(e0.2.2.1==e1.2.2.1&&true))) then some (false,()) else Zd6 n x0 x1 (wrap .i64 (x2+1)) else some (true,()):=mkI (by kernel_rfl)
noncomputable def Z5p:Tb:=[]
def F105:TFun:=⟨[],[(6,qc [[.c (.p (.sl Vq3))],[.c (.p (.sl Vq3))],qn 3,qi,qn 20])],[.c (.sl Vq3),.c (.sl Vq3)],[.c (.p db)],qc [qn 4,qb,qn 21],[],[],0⟩
noncomputable def Zzq:=mkC Z5p prog 105 F105
theorem Ych:Zzq.ok prog 105:=mkO trivial (by kernel_rfl)
noncomputable def Zd7 (a0 a1:(List Vy4)):Option (Bool×Unit):=Zzq.fn (a0,a1,())
noncomputable def Za5 (n:Nat)(x0 x1:(List Vy4))(x2:Int):Option (Bool×Unit):=itr Z5p prog 105 F105 n 6 (x0,x1,x2,())
theorem Zl3 a0 a1:Eq (Zd7 a0 a1) <| bif ofNat a0.length !=ofNat a1.length then some (false,()) else Za5 fuel a0 a1 0:=mkE (by kernel_rfl)
theorem Zk5 n x0 x1 x2:Eq (Za5 (n+1) x0 x1 x2) <| bif x2<ofNat x0.length then ix x0 x2 fun e0=>ix x1 x2 fun e1=>bif !(e0.1==e1.1&&(e0.2.1==e1.2.1&&(e0.2.2.1==e1.2.2.1&&(e0.2.2.2.1==e1.2.2.2.1&&(e0.2.2.2.2.1==e1.2.2.2.2.1&&(e0.2.2.2.2.2.1==e1.2.2.2.2.2.1&&(e0.2.2.2.2.2.2.1==e1.2.2.2.2.2.2.1&&(e0.2.2.2.2.2.2.2.1==e1.2.2.2.2.2.2.2.1&&(e0.2.2.2.2.2.2.2.2.1==e1.2.2.2.2.2.2.2.2.1&&(e0.2.2.2.2.2.2.2.2.2.1==e1.2.2.2.2.2.2.2.2.2.1&&true)))))))))) then some (false,()) else Za5 n x0 x1 (wrap .i64 (x2+1)) else some (true,()):=mkI (by kernel_rfl)
noncomputable def Yci:Tb:=[(105,Zzq)]
def F77:TFun:=⟨[],[],[.a Vq12,.a Vq12],[.c (.p db)],qc [qn 4,qb,qn 12],[],[],0⟩
noncomputable def Z5q:=mkC Yci prog 77 F77
theorem ok77:Z5q.ok prog 77:=mkO ⟨Ych,trivial⟩ (by kernel_rfl)
noncomputable def Zpy (a0 a1:(Int×List Vy4×Unit)):Option (Bool×Unit):=Z5q.fn (a0,a1,())
theorem Zux a0 a1:Eq (Zpy a0 a1) <| bif a0.1==a1.1 then (Zd7 a0.2.1 a1.2.1).bind fun e0=>some (e0.1,()) else some (false,()):=mkE (by kernel_rfl)
noncomputable def Z9r:Tb:=[(77,Z5q)]
def F56:TFun:=⟨[],[(6,qc [[.c (.p (.sl Vq12))],[.c (.p (.sl Vq12))],qn 3,qi,qn 21])],[.c (.sl Vq12),.c (.sl Vq12)],[.c (.p db)],qc [qn 4,qb,qn 22],[],[],0⟩
noncomputable def Z5r:=mkC Z9r prog 56 F56
theorem ok56:Z5r.ok prog 56:=mkO ⟨ok77,trivial⟩ (by kernel_rfl)
noncomputable def Zb1 (a0 a1:(List (Int×List Vy4×Unit))):Option (Bool×Unit):=Z5r.fn (a0,a1,())
noncomputable def Q5 (n:Nat)(x0 x1:(List (Int×List Vy4×Unit)))(x2:Int):Option (Bool×Unit):=itr Z9r prog 56 F56 n 6 (x0,x1,x2,())
theorem Znd a0 a1:Eq (Zb1 a0 a1) <| bif ofNat a0.length !=ofNat a1.length then some (false,()) else Q5 fuel a0 a1 0:=mkE (by kernel_rfl)
theorem Zfk n x0 x1 x2:Eq (Q5 (n+1) x0 x1 x2) <| bif x2<ofNat x0.length then ix x0 x2 fun e0=>ix x1 x2 fun e1=>(Zpy e0 e1).bind fun e2=>bif !e2.1 then some (false,()) else Q5 n x0 x1 (wrap .i64 (x2+1)) else some (true,()):=mkI (by kernel_rfl)
noncomputable def Z9s:Tb:=[(56,Z5r),(57,Z5o)]
def F32:TFun:=⟨[],[(7,qc [qn 2,[.boxN 38 14 [.any,.any,.any,.any,.any,.any,.any,.any,.any,.any,.any,.any,.p (.sl Vq2),.any]],[.boxN 38 14 [.any,.any,.any,.any,.any,.any,.any,.any,.any,.any,.any,.any,.p (.sl Vq2),.any]],qn 1,qi,qn 34])],[.a Vq9,.a Vq9],[.c (.p db)],qc [qn 4,qb,qn 35],[],[],0⟩
noncomputable def Z5s:=mkC Z9s prog 32 F32
theorem ok32:Z5s.ok prog 32:=mkO ⟨ok56,ok57,trivial⟩ (by kernel_rfl)
noncomputable def Zj1 (a0 a1:(Int×List Vy2×List (Int×Unit)×Bool×List Vy2×Int×Int×Int×Bool×Int×List (Int×Int×Unit)×List Vy2×List Vy6×List (Int×List Vy4×Unit)×Unit)):Option (Bool×Unit):=Z5s.fn (a0,a1,())
noncomputable def Zb2 (n:Nat)(x0 x1:(List Vy6))(x2:Int):Option (Bool×Unit):=itr Z9s prog 32 F32 n 7 (x0,x1,x2,())
theorem Zuy a0 a1:Eq (Zj1 a0 a1) <| bif ofNat a0.2.2.2.2.2.2.2.2.2.2.2.2.1.length !=ofNat a1.2.2.2.2.2.2.2.2.2.2.2.2.1.length then some (false,()) else (Zb1 a0.2.2.2.2.2.2.2.2.2.2.2.2.2.1 a1.2.2.2.2.2.2.2.2.2.2.2.2.2.1).bind fun e0=>bif !e0.1 then some (false,()) else Zb2 fuel a0.2.2.2.2.2.2.2.2.2.2.2.2.1 a1.2.2.2.2.2.2.2.2.2.2.2.2.1 0:=mkE (by kernel_rfl)
theorem Zjh n x0 x1 x2:Eq (Zb2 (n+1) x0 x1 x2) <| bif x2<ofNat x0.length then ix x0 x2 fun e0=>ix x1 x2 fun e1=>(Zj0 e0 e1).bind fun e2=>bif !e2.1 then some (false,()) else Zb2 n x0 x1 (wrap .i64 (x2+1)) else some (true,()):=mkI (by kernel_rfl)
end Tg
