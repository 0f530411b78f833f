import Derived.Test.YtfnhchmemplhaaaGreatProg
import Derived.Test.YtfnhchmemplhaaaGreatBVT
/- Functions of the code, told plainly and checked by the kernel. -/
set_option linter.unusedVariables false
set_option linter.unusedSimpArgs false
set_option maxRecDepth 100000
namespace Tg
open Go.Abs hiding fuel
open Go.Proofs.Tryz (prog)
open Int (ofNat toNat)
open Go.IntKind (wrap)
noncomputable def Yal:Tb:=[]
def F20:TFun:=⟨[2],[(2,qc [qn 1,[.boxN 73 9 [.any,.any,.any,.any,.p (.sl Vq12),.p (.sl Vq3),.p (.sl Vq7),.any,.any]],qn 54]),(4,qc [qn 1,[.boxN 73 9 [.any,.any,.any,.any,.p (.sl Vq12),.p (.sl Vq3),.p (.sl Vq7),.any,.any]],qn 1,[.c (.rowN 3 1 Vq12)],qi,qn 51])],[.a Vq1],[.c (.p db)],qc [qn 2,qb,qn 53],[],[],0⟩
noncomputable def Yam:=mkC Yal prog 20 F20
theorem ok20:Yam.ok prog 20:=mkO trivial (by kernel_rfl)
noncomputable def Zgb (a0:Vy1):Option (Bool×Unit):=Yam.fn (a0,())
noncomputable def Zjy (n:Nat)(x0:Vy9)(x1:Vy3)(x2:Vy5):Option (Bool×Unit):=itr Yal prog 20 F20 n 2 (x0,x1,x2,())
noncomputable def Zcu (n:Nat)(x0:Vy9)(x1:Vy3)(x2:Vy5)(x3:Vy9)(x4:Int):Option (Bool×Unit):=itr Yal prog 20 F20 n 4 (x0,x1,x2,x3,x4,())
theorem Zvl a0:Eq (Zgb a0) <| Zcu fuel a0.2.2.2.2.1 a0.2.2.2.2.2.1 a0.2.2.2.2.2.2.1 ([(ofNat a0.2.2.2.1.length,()),(ofNat a0.2.2.2.2.2.2.2.1.length,()),(ofNat a0.2.2.2.2.2.2.2.2.1.length,())]) 0:=mkE (by kernel_rfl)
theorem Ztk n x0 x1 x2:Eq (Zjy (n+1) x0 x1 x2) <| bif ofNat x1.length>100 then some (true,()) else bif ofNat x2.length>100 then some (true,()) else some (decide (ofNat x0.length>20),()):=mkI (by kernel_rfl)
theorem Zjz n x0 x1 x2 x3 x4:Eq (Zcu (n+1) x0 x1 x2 x3 x4) <| bif x4<ofNat x3.length then ixb x3 x4 fun e0=>let k1:=Zcu n x0 x1 x2 x3 (wrap .i64 (x4+1));bif e0.1>100 then ixb x3 x4 fun e1=>bif e1.1<3990 then some (true,()) else ixb x3 x4 fun e2=>bif e2.1>4010 then some (true,()) else k1 else ixb x3 x4 fun e1=>bif e1.1>4010 then some (true,()) else k1 else Zjy n x0 x1 x2:=mkI (by kernel_rfl)
noncomputable def Yj3:Tb:=[]
def F21:TFun:=⟨[],[],[.a Vq10],[.c (.p db)],qc [qn 2,qb,qn 4],[],[],0⟩
noncomputable def Yan:=mkC Yj3 prog 21 F21
theorem ok21:Yan.ok prog 21:=mkO trivial (by kernel_rfl)
noncomputable def Zqy (a0:Vy4):Option (Bool×Unit):=Yan.fn (a0,())
theorem Zvm a0:Eq (Zqy a0) <| some (decide (ofNat a0.2.1.length>20),()):=mkE (by kernel_rfl)
noncomputable def tab5:Tb:=[(20,Yam),(21,Yan)]
def F5:TFun:=⟨[4],[(4,qc [qn 1,[.boxN 35 14 [.any,.any,.any,.any,.any,.any,.any,.any,.any,.any,.any,.any,.any,.p (.sl Vq10)]],qn 74]),(6,qc [qn 1,[.boxN 35 14 [.any,.any,.any,.any,.any,.any,.any,.any,.any,.any,.any,.any,.p (.sl Vq1),.p (.sl Vq10)]],qn 1,qi,qn 72]),(15,qc [qn 1,[.boxN 35 14 [.any,.any,.any,.any,.any,.any,.any,.any,.any,.any,.any,.any,.any,.p (.sl Vq10)]],qn 2,qi,qn 71])],[.a Vq9],[.c (.p db)],qc [qn 2,qb,qn 73],[],[],0⟩
noncomputable def con5:=mkC tab5 prog 5 F5
theorem ok5:con5.ok prog 5:=mkO ⟨ok20,ok21,trivial⟩ (by kernel_rfl)
noncomputable def Zj0 (a0:Vy7):Option (Bool×Unit):=con5.fn (a0,())
noncomputable def Zj1 (n:Nat)(x0:(List Vy4)):Option (Bool×Unit):=itr tab5 prog 5 F5 n 4 (x0,())
noncomputable def Zcv (n:Nat)(x0:(List Vy1))(x1:(List Vy4))(x2:Int):Option (Bool×Unit):=itr tab5 prog 5 F5 n 6 (x0,x1,x2,())
noncomputable def Zbz (n:Nat)(x0:(List Vy4))(x1:Int):Option (Bool×Unit):=itr tab5 prog 5 F5 n 15 (x0,x1,())
theorem Zvn a0:Eq (Zj0 a0) <| let k1:=some (true,());bif ofNat a0.2.2.2.2.2.2.2.2.2.2.1.length>30 then k1 else bif ofNat a0.2.2.2.2.2.2.2.2.2.2.2.1.length>60 then k1 else bif ofNat a0.2.2.2.2.2.2.2.2.2.2.2.2.1.length>30 then k1 else bif ofNat a0.2.2.2.2.2.2.2.2.2.2.2.2.2.1.length>60 then k1 else bif ofNat a0.2.1.length>100 then k1 else bif ofNat a0.2.2.2.2.1.length>100 then k1 else bif ofNat a0.2.2.1.length>20 then k1 else Zcv fuel a0.2.2.2.2.2.2.2.2.2.2.2.2.1 a0.2.2.2.2.2.2.2.2.2.2.2.2.2.1 0:=mkE (by kernel_rfl)
theorem Ztl n x0:Eq (Zj1 (n+1) x0) <| Zbz n x0 0:=mkI (by kernel_rfl)
theorem Zj2 n x0 x1 x2:Eq (Zcv (n+1) x0 x1 x2) <| bif x2<ofNat x0.length then ix x0 x2 fun e0=>(Zgb e0).bind fun e1=>bif e1.1 then some (true,()) else Zcv n x0 x1 (wrap .i64 (x2+1)) else Zj1 n x1:=mkI (by kernel_rfl)
theorem Zih n x0 x1:Eq (Zbz (n+1) x0 x1) <| bif x1<ofNat x0.length then ix x0 x1 fun e0=>(Zqy e0).bind fun e1=>bif e1.1 then some (true,()) else Zbz n x0 (wrap .i64 (x1+1)) else some (false,()):=mkI (by kernel_rfl)
noncomputable def Ygl:Tb:=[]
def F51:TFun:=⟨[],[(6,qc [[.c (.p (.sl Vq6))],[.c (.p (.sl Vq6))],qn 3,qi,qn 20])],[.c (.sl Vq6),.c (.sl Vq6)],[.c (.p db)],qc [qn 4,qb,qn 21],[],[],0⟩
noncomputable def Yao:=mkC Ygl prog 51 F51
theorem ok51:Yao.ok prog 51:=mkO trivial (by kernel_rfl)
noncomputable def Zem (a0 a1:Vy3):Option (Bool×Unit):=Yao.fn (a0,a1,())
noncomputable def Zai (n:Nat)(x0 x1:Vy3)(x2:Int):Option (Bool×Unit):=itr Ygl prog 51 F51 n 6 (x0,x1,x2,())
theorem Zon a0 a1:Eq (Zem a0 a1) <| bif ofNat a0.length !=ofNat a1.length then some (false,()) else Zai fuel a0 a1 0:=mkE (by kernel_rfl)
theorem Zfs n x0 x1 x2:Eq (Zai (n+1) x0 x1 x2) <| bif x2<ofNat x0.length then ix x0 x2 fun e0=>ix x1 x2 fun e1=>bif !(e0.1==e1.1&&(e0.2.1==e1.2.1&&(e0.2.2.1==e1.2.2.1&&(e0.2.2.2.1==e1.2.2.2.1&&(e0.2.2.2.2.1==e1.2.2.2.2.1&&(e0.2.2.2.2.2.1==e1.2.2.2.2.2.1&&(e0.2.2.2.2.2.2.1==e1.2.2.2.2.2.2.1&&(e0.2.2.2.2.2.2.2.1==e1.2.2.2.2.2.2.2.1&&(e0.2.2.2.2.2.2.2.2.1==e1.2.2.2.2.2.2.2.2.1&&(e0.2.2.2.2.2.2.2.2.2.1==e1.2.2.2.2.2.2.2.2.2.1&&(e0.2.2.2.2.2.2.2.2.2.2.1==e1.2.2.2.2.2.2.2.2.2.2.1&&true))))))))))) then some (false,()) else Zai n x0 x1 (wrap .i64 (x2+1)) else some (true,()):=mkI (by kernel_rfl)
noncomputable def Zmq:Tb:=[(51,Yao)]
def F32:TFun:=⟨[5,13,21,29],[(5,qc [qn 2,[.boxN 73 9 [.any,.any,.any,.any,.any,.p (.sl Vq3),.p (.sl Vq7),.p (.sl Vq4),.p (.sl Vq8)]],[.boxN 73 9 [.any,.any,.any,.any,.any,.p (.sl Vq3),.p (.sl Vq7),.p (.sl Vq4),.p (.sl Vq8)]],qn 161]),(7,qc [qn 2,[.boxN 73 9 [.any,.any,.any,.any,.p (.sl Vq12),.p (.sl Vq3),.p (.sl Vq7),.p (.sl Vq4),.p (.sl Vq8)]],[.boxN 73 9 [.any,.any,.any,.any,.p (.sl Vq12),.p (.sl Vq3),.p (.sl Vq7),.p (.sl Vq4),.p (.sl Vq8)]],qn 1,qi,qn 159]),(13,qc [qn 2,[.boxN 73 9 [.any,.any,.any,.any,.any,.any,.p (.sl Vq7),.p (.sl Vq4),.p (.sl Vq8)]],[.boxN 73 9 [.any,.any,.any,.any,.any,.any,.p (.sl Vq7),.p (.sl Vq4),.p (.sl Vq8)]],qn 161]),(15,qc [qn 2,[.boxN 73 9 [.any,.any,.any,.any,.any,.p (.sl Vq3),.p (.sl Vq7),.p (.sl Vq4),.p (.sl Vq8)]],[.boxN 73 9 [.any,.any,.any,.any,.any,.p (.sl Vq3),.p (.sl Vq7),.p (.sl Vq4),.p (.sl Vq8)]],qn 2,qi,qn 158]),(21,qc [qn 2,[.boxN 73 9 [.any,.any,.any,.any,.any,.any,.any,.p (.sl Vq4),.p (.sl Vq8)]],[.boxN 73 9 [.any,.any,.any,.any,.any,.any,.any,.p (.sl Vq4),.p (.sl Vq8)]],qn 161]),(23,qc [qn 2,[.boxN 73 9 [.any,.any,.any,.any,.any,.any,.p (.sl Vq7),.p (.sl Vq4),.p (.sl Vq8)]],[.boxN 73 9 [.any,.any,.any,.any,.any,.any,.p (.sl Vq7),.p (.sl Vq4),.p (.sl Vq8)]],qn 3,qi,qn 157]),(29,qc [qn 2,[.boxN 73 9 [.any,.any,.any,.any,.any,.any,.any,.any,.p (.sl Vq8)]],[.boxN 73 9 [.any,.any,.any,.any,.any,.any,.any,.any,.p (.sl Vq8)]],qn 161]),(31,qc [qn 2,[.boxN 73 9 [.any,.any,.any,.any,.any,.any,.any,.p (.sl Vq4),.p (.sl Vq8)]],[.boxN 73 9 [.any,.any,.any,.any,.any,.any,.any,.p (.sl Vq4),.p (.sl Vq8)]],qn 4,qi,qn 156]),(39,qc [qn 2,[.boxN 73 9 [.any,.any,.any,.any,.any,.any,.any,.any,.p (.sl Vq8)]],[.boxN 73 9 [.any,.any,.any,.any,.any,.any,.any,.any,.p (.sl Vq8)]],qn 5,qi,qn 155])],[.a Vq1,.a Vq1],[.c (.p db)],qc [qn 4,qb,qn 160],[],[],0⟩
noncomputable def Yap:=mkC Zmq prog 32 F32
theorem ok32:Yap.ok prog 32:=mkO ⟨ok51,trivial⟩ (by kernel_rfl)
noncomputable def Znj (a0 a1:Vy1):Option (Bool×Unit):=Yap.fn (a0,a1,())
noncomputable def Zmr (n:Nat)(x0:Vy3)(x1:Vy5)(x2:(List Vy2))(x3:Vy6)(x4:Vy3)(x5:Vy5)(x6:(List Vy2))(x7:Vy6):Option (Bool×Unit):=itr Zmq prog 32 F32 n 5 (x0,x1,x2,x3,x4,x5,x6,x7,())
noncomputable def Zbs (n:Nat)(x0:Vy9)(x1:Vy3)(x2:Vy5)(x3:(List Vy2))(x4:Vy6)(x5:Vy9)(x6:Vy3)(x7:Vy5)(x8:(List Vy2))(x9:Vy6)(x10:Int):Option (Bool×Unit):=itr Zmq prog 32 F32 n 7 (x0,x1,x2,x3,x4,x5,x6,x7,x8,x9,x10,())
noncomputable def Zj3 (n:Nat)(x0:Vy5)(x1:(List Vy2))(x2:Vy6)(x3:Vy5)(x4:(List Vy2))(x5:Vy6):Option (Bool×Unit):=itr Zmq prog 32 F32 n 13 (x0,x1,x2,x3,x4,x5,())
noncomputable def Za4 (n:Nat)(x0:Vy3)(x1:Vy5)(x2:(List Vy2))(x3:Vy6)(x4:Vy3)(x5:Vy5)(x6:(List Vy2))(x7:Vy6)(x8:Int):Option (Bool×Unit):=itr Zmq prog 32 F32 n 15 (x0,x1,x2,x3,x4,x5,x6,x7,x8,())
noncomputable def Zj4 (n:Nat)(x0:(List Vy2))(x1:Vy6)(x2:(List Vy2))(x3:Vy6):Option (Bool×Unit):=itr Zmq prog 32 F32 n 21 (x0,x1,x2,x3,())
noncomputable def Za5 (n:Nat)(x0:Vy5)(x1:(List Vy2))(x2:Vy6)(x3:Vy5)(x4:(List Vy2))(x5:Vy6)(x6:Int):Option (Bool×Unit):=itr Zmq prog 32 F32 n 23 (x0,x1,x2,x3,x4,x5,x6,())
noncomputable def Zj5 (n:Nat)(x0 x1:Vy6):Option (Bool×Unit):=itr Zmq prog 32 F32 n 29 (x0,x1,())
noncomputable def Za6 (n:Nat)(x0:(List Vy2))(x1:Vy6)(x2:(List Vy2))(x3:Vy6)(x4:Int):Option (Bool×Unit):=itr Zmq prog 32 F32 n 31 (x0,x1,x2,x3,x4,())
noncomputable def Za7 (n:Nat)(x0 x1:Vy6)(x2:Int):Option (Bool×Unit):=itr Zmq prog 32 F32 n 39 (x0,x1,x2,())
theorem Zzm a0 a1:Eq (Znj a0 a1) <| let k1:=some (false,());bif !(a0.1==a1.1&&(a0.2.1==a1.2.1&&true)) then k1 else bif a0.2.2.1 !=a1.2.2.1 then k1 else (Zem a0.2.2.2.1 a1.2.2.2.1).bind fun e0=>bif !e0.1 then k1 else bif ofNat a0.2.2.2.2.1.length !=ofNat a1.2.2.2.2.1.length then k1 else bif ofNat a0.2.2.2.2.2.1.length !=ofNat a1.2.2.2.2.2.1.length then k1 else bif ofNat a0.2.2.2.2.2.2.1.length !=ofNat a1.2.2.2.2.2.2.1.length then k1 else bif ofNat a0.2.2.2.2.2.2.2.1.length !=ofNat a1.2.2.2.2.2.2.2.1.length then k1 else bif ofNat a0.2.2.2.2.2.2.2.2.1.length !=ofNat a1.2.2.2.2.2.2.2.2.1.length then k1 else Zbs fuel a0.2.2.2.2.1 a0.2.2.2.2.2.1 a0.2.2.2.2.2.2.1 a0.2.2.2.2.2.2.2.1 a0.2.2.2.2.2.2.2.2.1 a1.2.2.2.2.1 a1.2.2.2.2.2.1 a1.2.2.2.2.2.2.1 a1.2.2.2.2.2.2.2.1 a1.2.2.2.2.2.2.2.2.1 0:=mkE (by kernel_rfl)
theorem Zvo n x0 x1 x2 x3 x4 x5 x6 x7:Eq (Zmr (n+1) x0 x1 x2 x3 x4 x5 x6 x7) <| Za4 n x0 x1 x2 x3 x4 x5 x6 x7 0:=mkI (by kernel_rfl)
theorem Zms n x0 x1 x2 x3 x4 x5 x6 x7 x8 x9 x10:Eq (Zbs (n+1) x0 x1 x2 x3 x4 x5 x6 x7 x8 x9 x10) <| bif x10<ofNat x0.length then ix x0 x10 fun e0=>ix x5 x10 fun e1=>bif e0.1 !=e1.1 then some (false,()) else Zbs n x0 x1 x2 x3 x4 x5 x6 x7 x8 x9 (wrap .i64 (x10+1)) else Zmr n x1 x2 x3 x4 x6 x7 x8 x9:=mkI (by kernel_rfl)
theorem Ztm n x0 x1 x2 x3 x4 x5:Eq (Zj3 (n+1) x0 x1 x2 x3 x4 x5) <| Za5 n x0 x1 x2 x3 x4 x5 0:=mkI (by kernel_rfl)
theorem Zj6 n x0 x1 x2 x3 x4 x5 x6 x7 x8:Eq (Za4 (n+1) x0 x1 x2 x3 x4 x5 x6 x7 x8) <| bif x8<ofNat x0.length then ix x0 x8 fun e0=>ix x4 x8 fun e1=>bif !(e0.1==e1.1&&(e0.2.1==e1.2.1&&(e0.2.2.1==e1.2.2.1&&(e0.2.2.2.1==e1.2.2.2.1&&(e0.2.2.2.2.1==e1.2.2.2.2.1&&(e0.2.2.2.2.2.1==e1.2.2.2.2.2.1&&(e0.2.2.2.2.2.2.1==e1.2.2.2.2.2.2.1&&(e0.2.2.2.2.2.2.2.1==e1.2.2.2.2.2.2.2.1&&(e0.2.2.2.2.2.2.2.2.1==e1.2.2.2.2.2.2.2.2.1&&(e0.2.2.2.2.2.2.2.2.2.1==e1.2.2.2.2.2.2.2.2.2.1&&(e0.2.2.2.2.2.2.2.2.2.2.1==e1.2.2.2.2.2.2.2.2.2.2.1&&true))))))))))) then some (false,()) else Za4 n x0 x1 x2 x3 x4 x5 x6 x7 (wrap .i64 (x8+1)) else Zj3 n x1 x2 x3 x5 x6 x7:=mkI (by kernel_rfl)
theorem Ztn n x0 x1 x2 x3:Eq (Zj4 (n+1) x0 x1 x2 x3) <| Za6 n x0 x1 x2 x3 0:=mkI (by kernel_rfl)
theorem Zj7 n x0 x1 x2 x3 x4 x5 x6:Eq (Za5 (n+1) x0 x1 x2 x3 x4 x5 x6) <| bif x6<ofNat x0.length then ix x0 x6 fun e0=>ix x3 x6 fun e1=>bif !(e0.1==e1.1&&(e0.2.1==e1.2.1&&(e0.2.2.1==e1.2.2.1&&(e0.2.2.2.1==e1.2.2.2.1&&(e0.2.2.2.2.1==e1.2.2.2.2.1&&true))))) then some (false,()) else Za5 n x0 x1 x2 x3 x4 x5 (wrap .i64 (x6+1)) else Zj4 n x1 x2 x4 x5:=mkI (by kernel_rfl)
theorem Zto n x0 x1:Eq (Zj5 (n+1) x0 x1) <| Za7 n x0 x1 0:=mkI (by kernel_rfl)
theorem Zj8 n x0 x1 x2 x3 x4:Eq (Za6 (n+1) x0 x1 x2 x3 x4) <| bif x4<ofNat x0.length then ix x0 x4 fun e0=>ix x2 x4 fun e1=>bif !(e0.1==e1.1&&(e0.2.1==e1.2.1&&(e0.2.2.1==e1.2.2.1&&(e0.2.2.2.1==e1.2.2.2.1&&(e0.2.2.2.2.1==e1.2.2.2.2.1&&true))))) then some (false,()) else Za6 n x0 x1 x2 x3 (wrap .i64 (x4+1)) else Zj5 n x1 x3:=mkI (by kernel_rfl)
theorem Zj9 n x0 x1 x2:Eq (Za7 (n+1) x0 x1 x2) <| bif x2<ofNat x0.length then ix x0 x2 fun e0=>ix x1 x2 fun e1=>bif !(e0.1==e1.1&&(e0.2.1==e1.2.1&&(e0.2.2.1==e1.2.2.1&&true))) then some (false,()) else Za7 n x0 x1 (wrap .i64 (x2+1)) else some (true,()):=mkI (by kernel_rfl)
noncomputable def Ygm:Tb:=[]
def F71:TFun:=⟨[],[(6,qc [[.c (.p (.sl Vq2))],[.c (.p (.sl Vq2))],qn 3,qi,qn 20])],[.c (.sl Vq2),.c (.sl Vq2)],[.c (.p db)],qc [qn 4,qb,qn 21],[],[],0⟩
noncomputable def Yaq:=mkC Ygm prog 71 F71
theorem ok71:Yaq.ok prog 71:=mkO trivial (by kernel_rfl)
noncomputable def Zft (a0 a1:(List Vy8)):Option (Bool×Unit):=Yaq.fn (a0,a1,())
noncomputable def Zaw (n:Nat)(x0 x1:(List Vy8))(x2:Int):Option (Bool×Unit):=itr Ygm prog 71 F71 n 6 (x0,x1,x2,())
theorem Zps a0 a1:Eq (Zft a0 a1) <| bif ofNat a0.length !=ofNat a1.length then some (false,()) else Zaw fuel a0 a1 0:=mkE (by kernel_rfl)
theorem Zgc n x0 x1 x2:Eq (Zaw (n+1) x0 x1 x2) <| bif x2<ofNat x0.length then ix x0 x2 fun e0=>ix x1 x2 fun e1=>bif !(e0.1==e1.1&&(e0.2.1==e1.2.1&&(e0.2.2.1==e1.2.2.1&&(e0.2.2.2.1==e1.2.2.2.1&&(e0.2.2.2.2.1==e1.2.2.2.2.1&&(e0.2.2.2.2.2.1==e1.2.2.2.2.2.1&&(e0.2.2.2.2.2.2.1==e1.2.2.2.2.2.2.1&&(e0.2.2.2.2.2.2.2.1==e1.2.2.2.2.2.2.2.1&&(e0.2.2.2.2.2.2.2.2.1==e1.2.2.2.2.2.2.2.2.1&&(e0.2.2.2.2.2.2.2.2.2.1==e1.2.2.2.2.2.2.2.2.2.1&&true)))))))))) then some (false,()) else Zaw n x0 x1 (wrap .i64 (x2+1)) else some (true,()):=mkI (by kernel_rfl)
noncomputable def Yj4:Tb:=[(71,Yaq)]
def F50:TFun:=⟨[],[],[.a Vq10,.a Vq10],[.c (.p db)],qc [qn 4,qb,qn 12],[],[],0⟩
noncomputable def Yar:=mkC Yj4 prog 50 F50
theorem ok50:Yar.ok prog 50:=mkO ⟨ok71,trivial⟩ (by kernel_rfl)
noncomputable def Znk (a0 a1:Vy4):Option (Bool×Unit):=Yar.fn (a0,a1,())
theorem Zzn a0 a1:Eq (Znk a0 a1) <| bif a0.1==a1.1 then (Zft a0.2.1 a1.2.1).bind fun e0=>some (e0.1,()) else some (false,()):=mkE (by kernel_rfl)
noncomputable def Ygn:Tb:=[(50,Yar)]
def F31:TFun:=⟨[],[(6,qc [[.c (.p (.sl Vq10))],[.c (.p (.sl Vq10))],qn 3,qi,qn 21])],[.c (.sl Vq10),.c (.sl Vq10)],[.c (.p db)],qc [qn 4,qb,qn 22],[],[],0⟩
noncomputable def Yas:=mkC Ygn prog 31 F31
theorem ok31:Yas.ok prog 31:=mkO ⟨ok50,trivial⟩ (by kernel_rfl)
noncomputable def Zdz (a0 a1:(List Vy4)):Option (Bool×Unit):=Yas.fn (a0,a1,())
noncomputable def Zbi (n:Nat)(x0 x1:(List Vy4))(x2:Int):Option (Bool×Unit):=itr Ygn prog 31 F31 n 6 (x0,x1,x2,())
theorem Zq9 a0 a1:Eq (Zdz a0 a1) <| bif ofNat a0.length !=ofNat a1.length then some (false,()) else Zbi fuel a0 a1 0:=mkE (by kernel_rfl)
theorem Zhb n x0 x1 x2:Eq (Zbi (n+1) x0 x1 x2) <| bif x2<ofNat x0.length then ix x0 x2 fun e0=>ix x1 x2 fun e1=>(Znk e0 e1).bind fun e2=>bif !e2.1 then some (false,()) else Zbi n x0 x1 (wrap .i64 (x2+1)) else some (true,()):=mkI (by kernel_rfl)
noncomputable def Ygo:Tb:=[(31,Yas),(32,Yap)]
def F12:TFun:=⟨[],[(7,qc [qn 2,[.boxN 35 14 [.any,.any,.any,.any,.any,.any,.any,.any,.any,.any,.any,.any,.p (.sl Vq1),.any]],[.boxN 35 14 [.any,.any,.any,.any,.any,.any,.any,.any,.any,.any,.any,.any,.p (.sl Vq1),.any]],qn 1,qi,qn 34])],[.a Vq9,.a Vq9],[.c (.p db)],qc [qn 4,qb,qn 35],[],[],0⟩
noncomputable def Yat:=mkC Ygo prog 12 F12
theorem ok12:Yat.ok prog 12:=mkO ⟨ok31,ok32,trivial⟩ (by kernel_rfl)
noncomputable def Znl (a0 a1:Vy7):Option (Bool×Unit):=Yat.fn (a0,a1,())
noncomputable def Zd0 (n:Nat)(x0 x1:(List Vy1))(x2:Int):Option (Bool×Unit):=itr Ygo prog 12 F12 n 7 (x0,x1,x2,())
theorem Zzo a0 a1:Eq (Znl a0 a1) <| bif ofNat a0.2.2.2.2.2.2.2.2.2.2.2.2.1.length !=ofNat a1.2.2.2.2.2.2.2.2.2.2.2.2.1.length then some (false,()) else (Zdz a0.2.2.2.2.2.2.2.2.2.2.2.2.2.1 a1.2.2.2.2.2.2.2.2.2.2.2.2.2.1).bind fun e0=>bif !e0.1 then some (false,()) else Zd0 fuel a0.2.2.2.2.2.2.2.2.2.2.2.2.1 a1.2.2.2.2.2.2.2.2.2.2.2.2.1 0:=mkE (by kernel_rfl)
theorem Zmt n x0 x1 x2:Eq (Zd0 (n+1) x0 x1 x2) <| bif x2<ofNat x0.length then ix x0 x2 fun e0=>ix x1 x2 fun e1=>(Znj e0 e1).bind fun e2=>bif !e2.1 then some (false,()) else Zd0 n x0 x1 (wrap .i64 (x2+1)) else some (true,()):=mkI (by kernel_rfl)
noncomputable def Ygp:Tb:=[]
def F11:TFun:=⟨[],[(6,qc [[.c (.p (.sl Vq12))],[.c (.p (.sl Vq12))],qn 3,qi,qn 20])],[.c (.sl Vq12),.c (.sl Vq12)],[.c (.p db)],qc [qn 4,qb,qn 21],[],[],0⟩
noncomputable def Z6z:=mkC Ygp prog 11 F11
theorem ok11:Z6z.ok prog 11:=mkO trivial (by kernel_rfl)
noncomputable def Q3 (a0 a1:Vy9):Option (Bool×Unit):=Z6z.fn (a0,a1,())
noncomputable def Zax (n:Nat)(x0 x1:Vy9)(x2:Int):Option (Bool×Unit):=itr Ygp prog 11 F11 n 6 (x0,x1,x2,())
theorem Zpt a0 a1:Eq (Q3 a0 a1) <| bif ofNat a0.length !=ofNat a1.length then some (false,()) else Zax fuel a0 a1 0:=mkE (by kernel_rfl)
theorem Zgd n x0 x1 x2:Eq (Zax (n+1) x0 x1 x2) <| bif x2<ofNat x0.length then ix x0 x2 fun e0=>ix x1 x2 fun e1=>bif e0.1 !=e1.1 then some (false,()) else Zax n x0 x1 (wrap .i64 (x2+1)) else some (true,()):=mkI (by kernel_rfl)
noncomputable def Yj5:Tb:=[(11,Z6z)]
def F19:TFun:=⟨[],[],[.c (.sl Vq12),.c (.sl Vq12)],[.c (.p db)],qc [qn 4,qb,qn 3],[],[],0⟩
noncomputable def Yj6:=mkC Yj5 prog 19 F19
noncomputable def Ztp (a0 a1:Vy9):Option (Bool×Unit):=Yj6.fn (a0,a1,())
theorem Zoo a0 a1:Eq (Ztp a0 a1) <| (Q3 a0 a1).bind fun e0=>some (e0.1,()):=mkE (by kernel_rfl)
noncomputable def Yj7:Tb:=[]
def F37:TFun:=⟨[],[],[.a Vq10],[.a [.p di,.s 97 10 Vq2]],qc [qn 2,[.boxN 77 2 [.p di,.rowN 97 10 Vq2]],qn 7],[],[],0⟩
noncomputable def Z1z:=mkC Yj7 prog 37 F37
theorem ok37:Z1z.ok prog 37:=mkO trivial (by kernel_rfl)
noncomputable def Yau:TCon:=⟨Z1z.args,[.a [.p di,.p (.sl Vq2)]],Z1z.fn⟩
theorem Yj8:Yau.ok prog 37:=TCon.frz (c:=Z1z) ok37 rfl
noncomputable def Znm (a0:Vy4):Option (Vy4×Unit):=Z1z.fn (a0,())
theorem Zzp a0:Eq (Znm a0) <| bif Zg (0+a0.2.1.length) 80 then some (a0,()) else none:=mkE (by kernel_rfl)
noncomputable def Ygq:Tb:=[(37,Yau)]
def F23:TFun:=⟨[],[(4,qc [[.c (.p (.sl Vq10))],qn 2,[.c (.rowN 77 2 Vq10)],qi,qn 15])],[.c (.sl Vq10)],[.c (.s 77 2 Vq10)],qc [qn 2,[.c (.rowN 77 2 Vq10)],qn 17],[],[],0⟩
noncomputable def Z10:=mkC Ygq prog 23 F23
theorem ok23:Z10.ok prog 23:=mkO ⟨Yj8,trivial⟩ (by kernel_rfl)
noncomputable def Yav:TCon:=⟨Z10.args,[.c (.p (.sl Vq10))],Z10.fn⟩
theorem Yj9:Yav.ok prog 23:=TCon.frz (c:=Z10) ok23 rfl
noncomputable def Zgz (a0:(List Vy4)):Option (List Vy4×Unit):=Z10.fn (a0,())
noncomputable def Zbj (n:Nat)(x0 x1:(List Vy4))(x2:Int):Option (List Vy4×Unit):=itr Ygq prog 23 F23 n 4 (x0,x1,x2,())
theorem Zra a0:Eq (Zgz a0) <| Zbj fuel a0 ([]) 0:=mkE (by kernel_rfl)
theorem Zhc n x0 x1 x2:Eq (Zbj (n+1) x0 x1 x2) <| bif x2<ofNat x0.length then ix x0 x2 fun e0=>(Znm e0).bind fun e1=>bif Zg (x1.length+List.length [e1.1]) 32 then Zbj n x0 (x1++[e1.1]) (wrap .i64 (x2+1)) else none else some (x1,()):=mkI (by kernel_rfl)
noncomputable def Yka:Tb:=[]
def F22:TFun:=⟨[],[],[.a Vq1],[.a [.p (.int .u8),.p di,.p di,.s 99 11 Vq6,.s 2 1 Vq12,.s 126 11 Vq3,.s 101 5 Vq7,.s 95 5 Vq4,.s 90 3 Vq8]],qc [qn 2,[.boxN 73 9 [.p (.int .u8),.p di,.p di,.rowN 99 11 Vq6,.rowN 2 1 Vq12,.rowN 126 11 Vq3,.rowN 101 5 Vq7,.rowN 95 5 Vq4,.rowN 90 3 Vq8]],qn 31],[],[],0⟩
noncomputable def Z11:=mkC Yka prog 22 F22
theorem ok22:Z11.ok prog 22:=mkO trivial (by kernel_rfl)
noncomputable def Yaw:TCon:=⟨Z11.args,[.a [.p (.int .u8),.p di,.p di,.p (.sl Vq6),.p (.sl Vq12),.p (.sl Vq3),.p (.sl Vq7),.p (.sl Vq4),.p (.sl Vq8)]],Z11.fn⟩
theorem Ykb:Yaw.ok prog 22:=TCon.frz (c:=Z11) ok22 rfl
noncomputable def Znn (a0:Vy1):Option (Vy1×Unit):=Z11.fn (a0,())
theorem Zzq a0:Eq (Znn a0) <| bif Zg (0+a0.2.2.2.1.length) 88 then bif Zg (0+a0.2.2.2.2.1.length) 8 then bif Zg (0+a0.2.2.2.2.2.1.length) 88 then bif Zg (0+a0.2.2.2.2.2.2.1.length) 40 then bif Zg (0+a0.2.2.2.2.2.2.2.1.length) 40 then bif Zg (0+a0.2.2.2.2.2.2.2.2.1.length) 24 then some (a0,()) else none else none else none else none else none else none:=mkE (by kernel_rfl)
noncomputable def tab6:Tb:=[(22,Yaw),(23,Yav)]
def F6:TFun:=⟨[],[(4,qc [qn 1,[.boxN 35 14 [.p (.int .u8),.p (.sl Vq5),.p (.sl Vq12),.p db,.p (.sl Vq5),.p (.int .u8),.p di,.p di,.p db,.p (.int .u8),.p (.sl Vq13),.p (.sl Vq4),.p (.sl Vq1),.p (.sl Vq10)]],[.boxN 35 14 [.any,.nil,.nil,.any,.nil,.any,.any,.any,.any,.any,.nil,.nil,.nil,.nil]],[.c (.rowN 73 9 Vq1)],qi,qn 23])],[.a Vq9],[.a [.p (.int .u8),.p (.sl Vq5),.p (.sl Vq12),.p db,.p (.sl Vq5),.p (.int .u8),.p di,.p di,.p db,.p (.int .u8),.p (.sl Vq13),.p (.sl Vq4),.s 73 9 Vq1,.p (.sl Vq10)]],qc [qn 2,[.boxN 35 14 [.p (.int .u8),.p (.sl Vq5),.p (.sl Vq12),.p db,.p (.sl Vq5),.p (.int .u8),.p di,.p di,.p db,.p (.int .u8),.p (.sl Vq13),.p (.sl Vq4),.rowN 73 9 Vq1,.p (.sl Vq10)]],qn 25],[],[],0⟩
noncomputable def con6:=mkC tab6 prog 6 F6
theorem ok6:con6.ok prog 6:=mkO ⟨Ykb,Yj9,trivial⟩ (by kernel_rfl)
noncomputable def Ygr:TCon:=⟨con6.args,[.a [.p (.int .u8),.p (.sl Vq5),.p (.sl Vq12),.p db,.p (.sl Vq5),.p (.int .u8),.p di,.p di,.p db,.p (.int .u8),.p (.sl Vq13),.p (.sl Vq4),.p (.sl Vq1),.p (.sl Vq10)]],con6.fn⟩
theorem ok6p:Ygr.ok prog 6:=TCon.frz (c:=con6) ok6 rfl
noncomputable def Zno (a0:Vy7):Option (Vy7×Unit):=con6.fn (a0,())
noncomputable def Zd1 (n:Nat)(x0:Int)(x1:(List Vy2))(x2:Vy9)(x3:Bool)(x4:(List Vy2))(x5 x6 x7:Int)(x8:Bool)(x9:Int)(x10:(List Vy11))(x11:(List Vy2))(x12:(List Vy1))(x13:(List Vy4))(x14:(List Vy1))(x15:Int):Option (Vy7×Unit):=itr tab6 prog 6 F6 n 4 (x0,x1,x2,x3,x4,x5,x6,x7,x8,x9,x10,x11,x12,x13,x14,x15,())
theorem Zzr a0:Eq (Zno a0) <| Zd1 fuel a0.1 a0.2.1 a0.2.2.1 a0.2.2.2.1 a0.2.2.2.2.1 a0.2.2.2.2.2.1 a0.2.2.2.2.2.2.1 a0.2.2.2.2.2.2.2.1 a0.2.2.2.2.2.2.2.2.1 a0.2.2.2.2.2.2.2.2.2.1 a0.2.2.2.2.2.2.2.2.2.2.1 a0.2.2.2.2.2.2.2.2.2.2.2.1 a0.2.2.2.2.2.2.2.2.2.2.2.2.1 a0.2.2.2.2.2.2.2.2.2.2.2.2.2.1 ([]) 0:=mkE (by kernel_rfl)
theorem Zmu n x0 x1 x2 x3 x4 x5 x6 x7 x8 x9 x10 x11 x12 x13 x14 x15:Eq (Zd1 (n+1) x0 x1 x2 x3 x4 x5 x6 x7 x8 x9 x10 x11 x12 x13 x14 x15) <| bif x15<ofNat x12.length then ix x12 x15 fun e0=>(Znn e0).bind fun e1=>bif Zg (x14.length+List.length [e1.1]) 168 then Zd1 n x0 x1 x2 x3 x4 x5 x6 x7 x8 x9 x10 x11 x12 x13 (x14++[e1.1]) (wrap .i64 (x15+1)) else none else (Zgz x13).bind fun e0=>some (((x0,x1,x2,x3,x4,x5,x6,x7,x8,x9,x10,x11,x14,e0.1,()),())):=mkI (by kernel_rfl)
end Tg
