import Derived.Test.YtdgcdoiefodccaaGreatProg
import Derived.Test.YtdgcdoiefodccaaGreatBVT
/- Functions of the code, told plainly and checked by the kernel. -/
set_option linter.unusedVariables false
set_option linter.unusedSimpArgs false
set_option maxRecDepth 100000
namespace Tg
open Go.Abs hiding fuel
open Go.Proofs.Tryz (prog)
open Int (ofNat toNat)
open Go.IntKind (wrap)
noncomputable def Ygo:Tb:=[]
def F10:TFun:=⟨[2],[(2,qc [qn 1,[.boxN 58 9 [.any,.any,.any,.any,.p (.sl Vq11),.p (.sl Vq2),.p (.sl Vq7),.any,.any]],qn 54]),(4,qc [qn 1,[.boxN 58 9 [.any,.any,.any,.any,.p (.sl Vq11),.p (.sl Vq2),.p (.sl Vq7),.any,.any]],qn 1,[.c (.rowN 3 1 Vq11)],qi,qn 51])],[.a Vq1],[.c (.p db)],qc [qn 2,qb,qn 53],[],[],0⟩
noncomputable def Ygp:=mkC Ygo prog 10 F10
theorem ok10:Ygp.ok prog 10:=mkO trivial (by kernel_rfl)
noncomputable def Zhq (a0:Vy3):Option (Bool×Unit):=Ygp.fn (a0,())
noncomputable def Zlq (n:Nat)(x0:Vy8)(x1:(List Vy1))(x2:Vy5):Option (Bool×Unit):=itr Ygo prog 10 F10 n 2 (x0,x1,x2,())
noncomputable def Zdd (n:Nat)(x0:Vy8)(x1:(List Vy1))(x2:Vy5)(x3:Vy8)(x4:Int):Option (Bool×Unit):=itr Ygo prog 10 F10 n 4 (x0,x1,x2,x3,x4,())
theorem Zxz a0:Eq (Zhq a0) <| Zdd fuel a0.2.2.2.2.1 a0.2.2.2.2.2.1 a0.2.2.2.2.2.2.1 ([(ofNat a0.2.2.2.1.length,()),(ofNat a0.2.2.2.2.2.2.2.1.length,()),(ofNat a0.2.2.2.2.2.2.2.2.1.length,())]) 0:=mkE (by kernel_rfl)
theorem Zvl n x0 x1 x2:Eq (Zlq (n+1) x0 x1 x2) <| bif ofNat x1.length>100 then some (true,()) else bif ofNat x2.length>100 then some (true,()) else some (decide (ofNat x0.length>20),()):=mkI (by kernel_rfl)
theorem Zlr n x0 x1 x2 x3 x4:Eq (Zdd (n+1) x0 x1 x2 x3 x4) <| bif x4<ofNat x3.length then ixb x3 x4 fun e0=>let k1:=Zdd n x0 x1 x2 x3 (wrap .i64 (x4+1));bif e0.1>100 then ixb x3 x4 fun e1=>bif e1.1<3990 then some (true,()) else ixb x3 x4 fun e2=>bif e2.1>4010 then some (true,()) else k1 else ixb x3 x4 fun e1=>bif e1.1>4010 then some (true,()) else k1 else Zlq n x0 x1 x2:=mkI (by kernel_rfl)
noncomputable def Yrv:Tb:=[]
def F11:TFun:=⟨[],[],[.a Vq13],[.c (.p db)],qc [qn 2,qb,qn 4],[],[],0⟩
noncomputable def Ygq:=mkC Yrv prog 11 F11
theorem ok11:Ygq.ok prog 11:=mkO trivial (by kernel_rfl)
noncomputable def Zs2 (a0:Vy12):Option (Bool×Unit):=Ygq.fn (a0,())
theorem Zx0 a0:Eq (Zs2 a0) <| some (decide (ofNat a0.2.1.length>20),()):=mkE (by kernel_rfl)
noncomputable def tab4:Tb:=[(10,Ygp),(11,Ygq)]
def F4:TFun:=⟨[4],[(4,qc [qn 1,[.boxN 35 14 [.any,.any,.any,.any,.any,.any,.any,.any,.any,.any,.any,.any,.any,.p (.sl Vq13)]],qn 74]),(6,qc [qn 1,[.boxN 35 14 [.any,.any,.any,.any,.any,.any,.any,.any,.any,.any,.any,.any,.p (.sl Vq1),.p (.sl Vq13)]],qn 1,qi,qn 72]),(15,qc [qn 1,[.boxN 35 14 [.any,.any,.any,.any,.any,.any,.any,.any,.any,.any,.any,.any,.any,.p (.sl Vq13)]],qn 2,qi,qn 71])],[.a Vq9],[.c (.p db)],qc [qn 2,qb,qn 73],[],[],0⟩
noncomputable def con4:=mkC tab4 prog 4 F4
theorem ok4:con4.ok prog 4:=mkO ⟨ok10,ok11,trivial⟩ (by kernel_rfl)
noncomputable def Zls (a0:Vy9):Option (Bool×Unit):=con4.fn (a0,())
noncomputable def Zlt (n:Nat)(x0:(List Vy12)):Option (Bool×Unit):=itr tab4 prog 4 F4 n 4 (x0,())
noncomputable def Zde (n:Nat)(x0:(List Vy3))(x1:(List Vy12))(x2:Int):Option (Bool×Unit):=itr tab4 prog 4 F4 n 6 (x0,x1,x2,())
noncomputable def Zch (n:Nat)(x0:(List Vy12))(x1:Int):Option (Bool×Unit):=itr tab4 prog 4 F4 n 15 (x0,x1,())
theorem Zx1 a0:Eq (Zls a0) <| let k1:=some (true,());bif ofNat a0.2.2.2.2.2.2.2.2.2.2.1.length>30 then k1 else bif ofNat a0.2.2.2.2.2.2.2.2.2.2.2.1.length>60 then k1 else bif ofNat a0.2.2.2.2.2.2.2.2.2.2.2.2.1.length>30 then k1 else bif ofNat a0.2.2.2.2.2.2.2.2.2.2.2.2.2.1.length>60 then k1 else bif ofNat a0.2.1.length>100 then k1 else bif ofNat a0.2.2.2.2.1.length>100 then k1 else bif ofNat a0.2.2.1.length>20 then k1 else Zde fuel a0.2.2.2.2.2.2.2.2.2.2.2.2.1 a0.2.2.2.2.2.2.2.2.2.2.2.2.2.1 0:=mkE (by kernel_rfl)
theorem Zvm n x0:Eq (Zlt (n+1) x0) <| Zch n x0 0:=mkI (by kernel_rfl)
theorem Zlu n x0 x1 x2:Eq (Zde (n+1) x0 x1 x2) <| bif x2<ofNat x0.length then ix x0 x2 fun e0=>(Zhq e0).bind fun e1=>bif e1.1 then some (true,()) else Zde n x0 x1 (wrap .i64 (x2+1)) else Zlt n x1:=mkI (by kernel_rfl)
theorem Zke n x0 x1:Eq (Zch (n+1) x0 x1) <| bif x1<ofNat x0.length then ix x0 x1 fun e0=>(Zs2 e0).bind fun e1=>bif e1.1 then some (true,()) else Zch n x0 (wrap .i64 (x1+1)) else some (false,()):=mkI (by kernel_rfl)
noncomputable def Ynj:Tb:=[]
def F91:TFun:=⟨[],[(6,qc [[.c (.p (.sl Vq6))],[.c (.p (.sl Vq6))],qn 3,qi,qn 20])],[.c (.sl Vq6),.c (.sl Vq6)],[.c (.p db)],qc [qn 4,qb,qn 21],[],[],0⟩
noncomputable def Ygr:=mkC Ynj prog 91 F91
theorem ok91:Ygr.ok prog 91:=mkO trivial (by kernel_rfl)
noncomputable def Zfl (a0 a1:(List Vy1)):Option (Bool×Unit):=Ygr.fn (a0,a1,())
noncomputable def Zcu (n:Nat)(x0 x1:(List Vy1))(x2:Int):Option (Bool×Unit):=itr Ynj prog 91 F91 n 6 (x0,x1,x2,())
theorem Zqm a0 a1:Eq (Zfl a0 a1) <| bif ofNat a0.length !=ofNat a1.length then some (false,()) else Zcu fuel a0 a1 0:=mkE (by kernel_rfl)
theorem Zpe n x0 x1 x2:Eq (Zcu (n+1) x0 x1 x2) <| bif x2<ofNat x0.length then ix x0 x2 fun e0=>ix x1 x2 fun e1=>bif !(e0.1==e1.1&&(e0.2.1==e1.2.1&&(e0.2.2.1==e1.2.2.1&&(e0.2.2.2.1==e1.2.2.2.1&&(e0.2.2.2.2.1==e1.2.2.2.2.1&&(e0.2.2.2.2.2.1==e1.2.2.2.2.2.1&&(e0.2.2.2.2.2.2.1==e1.2.2.2.2.2.2.1&&(e0.2.2.2.2.2.2.2.1==e1.2.2.2.2.2.2.2.1&&(e0.2.2.2.2.2.2.2.2.1==e1.2.2.2.2.2.2.2.2.1&&(e0.2.2.2.2.2.2.2.2.2.1==e1.2.2.2.2.2.2.2.2.2.1&&(e0.2.2.2.2.2.2.2.2.2.2.1==e1.2.2.2.2.2.2.2.2.2.2.1&&true))))))))))) then some (false,()) else Zcu n x0 x1 (wrap .i64 (x2+1)) else some (true,()):=mkI (by kernel_rfl)
noncomputable def Zoh:Tb:=[(91,Ygr)]
def F59:TFun:=⟨[5,13,21,29],[(5,qc [qn 2,[.boxN 58 9 [.any,.any,.any,.any,.any,.p (.sl Vq2),.p (.sl Vq7),.p (.sl Vq3),.p (.sl Vq8)]],[.boxN 58 9 [.any,.any,.any,.any,.any,.p (.sl Vq2),.p (.sl Vq7),.p (.sl Vq3),.p (.sl Vq8)]],qn 161]),(7,qc [qn 2,[.boxN 58 9 [.any,.any,.any,.any,.p (.sl Vq11),.p (.sl Vq2),.p (.sl Vq7),.p (.sl Vq3),.p (.sl Vq8)]],[.boxN 58 9 [.any,.any,.any,.any,.p (.sl Vq11),.p (.sl Vq2),.p (.sl Vq7),.p (.sl Vq3),.p (.sl Vq8)]],qn 1,qi,qn 159]),(13,qc [qn 2,[.boxN 58 9 [.any,.any,.any,.any,.any,.any,.p (.sl Vq7),.p (.sl Vq3),.p (.sl Vq8)]],[.boxN 58 9 [.any,.any,.any,.any,.any,.any,.p (.sl Vq7),.p (.sl Vq3),.p (.sl Vq8)]],qn 161]),(15,qc [qn 2,[.boxN 58 9 [.any,.any,.any,.any,.any,.p (.sl Vq2),.p (.sl Vq7),.p (.sl Vq3),.p (.sl Vq8)]],[.boxN 58 9 [.any,.any,.any,.any,.any,.p (.sl Vq2),.p (.sl Vq7),.p (.sl Vq3),.p (.sl Vq8)]],qn 2,qi,qn 158]),(21,qc [qn 2,[.boxN 58 9 [.any,.any,.any,.any,.any,.any,.any,.p (.sl Vq3),.p (.sl Vq8)]],[.boxN 58 9 [.any,.any,.any,.any,.any,.any,.any,.p (.sl Vq3),.p (.sl Vq8)]],qn 161]),(23,qc [qn 2,[.boxN 58 9 [.any,.any,.any,.any,.any,.any,.p (.sl Vq7),.p (.sl Vq3),.p (.sl Vq8)]],[.boxN 58 9 [.any,.any,.any,.any,.any,.any,.p (.sl Vq7),.p (.sl Vq3),.p (.sl Vq8)]],qn 3,qi,qn 157]),(29,qc [qn 2,[.boxN 58 9 [.any,.any,.any,.any,.any,.any,.any,.any,.p (.sl Vq8)]],[.boxN 58 9 [.any,.any,.any,.any,.any,.any,.any,.any,.p (.sl Vq8)]],qn 161]),(31,qc [qn 2,[.boxN 58 9 [.any,.any,.any,.any,.any,.any,.any,.p (.sl Vq3),.p (.sl Vq8)]],[.boxN 58 9 [.any,.any,.any,.any,.any,.any,.any,.p (.sl Vq3),.p (.sl Vq8)]],qn 4,qi,qn 156]),(39,qc [qn 2,[.boxN 58 9 [.any,.any,.any,.any,.any,.any,.any,.any,.p (.sl Vq8)]],[.boxN 58 9 [.any,.any,.any,.any,.any,.any,.any,.any,.p (.sl Vq8)]],qn 5,qi,qn 155])],[.a Vq1,.a Vq1],[.c (.p db)],qc [qn 4,qb,qn 160],[],[],0⟩
noncomputable def Ygs:=mkC Zoh prog 59 F59
theorem ok59:Ygs.ok prog 59:=mkO ⟨ok91,trivial⟩ (by kernel_rfl)
noncomputable def Zpf (a0 a1:Vy3):Option (Bool×Unit):=Ygs.fn (a0,a1,())
noncomputable def Zoi (n:Nat)(x0:(List Vy1))(x1:Vy5)(x2:(List Vy2))(x3:Vy6)(x4:(List Vy1))(x5:Vy5)(x6:(List Vy2))(x7:Vy6):Option (Bool×Unit):=itr Zoh prog 59 F59 n 5 (x0,x1,x2,x3,x4,x5,x6,x7,())
noncomputable def Zeo (n:Nat)(x0:Vy8)(x1:(List Vy1))(x2:Vy5)(x3:(List Vy2))(x4:Vy6)(x5:Vy8)(x6:(List Vy1))(x7:Vy5)(x8:(List Vy2))(x9:Vy6)(x10:Int):Option (Bool×Unit):=itr Zoh prog 59 F59 n 7 (x0,x1,x2,x3,x4,x5,x6,x7,x8,x9,x10,())
noncomputable def Zlv (n:Nat)(x0:Vy5)(x1:(List Vy2))(x2:Vy6)(x3:Vy5)(x4:(List Vy2))(x5:Vy6):Option (Bool×Unit):=itr Zoh prog 59 F59 n 13 (x0,x1,x2,x3,x4,x5,())
noncomputable def Zgy (n:Nat)(x0:(List Vy1))(x1:Vy5)(x2:(List Vy2))(x3:Vy6)(x4:(List Vy1))(x5:Vy5)(x6:(List Vy2))(x7:Vy6)(x8:Int):Option (Bool×Unit):=itr Zoh prog 59 F59 n 15 (x0,x1,x2,x3,x4,x5,x6,x7,x8,())
noncomputable def Zgz (n:Nat)(x0:(List Vy2))(x1:Vy6)(x2:(List Vy2))(x3:Vy6):Option (Bool×Unit):=itr Zoh prog 59 F59 n 21 (x0,x1,x2,x3,())
noncomputable def Zbj (n:Nat)(x0:Vy5)(x1:(List Vy2))(x2:Vy6)(x3:Vy5)(x4:(List Vy2))(x5:Vy6)(x6:Int):Option (Bool×Unit):=itr Zoh prog 59 F59 n 23 (x0,x1,x2,x3,x4,x5,x6,())
noncomputable def Zlw (n:Nat)(x0 x1:Vy6):Option (Bool×Unit):=itr Zoh prog 59 F59 n 29 (x0,x1,())
noncomputable def Zg0 (n:Nat)(x0:(List Vy2))(x1:Vy6)(x2:(List Vy2))(x3:Vy6)(x4:Int):Option (Bool×Unit):=itr Zoh prog 59 F59 n 31 (x0,x1,x2,x3,x4,())
noncomputable def Zg1 (n:Nat)(x0 x1:Vy6)(x2:Int):Option (Bool×Unit):=itr Zoh prog 59 F59 n 39 (x0,x1,x2,())
theorem Z2p a0 a1:Eq (Zpf a0 a1) <| let k1:=some (false,());bif !(a0.1==a1.1&&(a0.2.1==a1.2.1&&true)) then k1 else bif a0.2.2.1 !=a1.2.2.1 then k1 else (Zfl a0.2.2.2.1 a1.2.2.2.1).bind fun e0=>bif !e0.1 then k1 else bif ofNat a0.2.2.2.2.1.length !=ofNat a1.2.2.2.2.1.length then k1 else bif ofNat a0.2.2.2.2.2.1.length !=ofNat a1.2.2.2.2.2.1.length then k1 else bif ofNat a0.2.2.2.2.2.2.1.length !=ofNat a1.2.2.2.2.2.2.1.length then k1 else bif ofNat a0.2.2.2.2.2.2.2.1.length !=ofNat a1.2.2.2.2.2.2.2.1.length then k1 else bif ofNat a0.2.2.2.2.2.2.2.2.1.length !=ofNat a1.2.2.2.2.2.2.2.2.1.length then k1 else Zeo fuel a0.2.2.2.2.1 a0.2.2.2.2.2.1 a0.2.2.2.2.2.2.1 a0.2.2.2.2.2.2.2.1 a0.2.2.2.2.2.2.2.2.1 a1.2.2.2.2.1 a1.2.2.2.2.2.1 a1.2.2.2.2.2.2.1 a1.2.2.2.2.2.2.2.1 a1.2.2.2.2.2.2.2.2.1 0:=mkE (by kernel_rfl)
theorem Zx2 n x0 x1 x2 x3 x4 x5 x6 x7:Eq (Zoi (n+1) x0 x1 x2 x3 x4 x5 x6 x7) <| Zgy n x0 x1 x2 x3 x4 x5 x6 x7 0:=mkI (by kernel_rfl)
theorem Zoj n x0 x1 x2 x3 x4 x5 x6 x7 x8 x9 x10:Eq (Zeo (n+1) x0 x1 x2 x3 x4 x5 x6 x7 x8 x9 x10) <| bif x10<ofNat x0.length then ix x0 x10 fun e0=>ix x5 x10 fun e1=>bif e0.1 !=e1.1 then some (false,()) else Zeo n x0 x1 x2 x3 x4 x5 x6 x7 x8 x9 (wrap .i64 (x10+1)) else Zoi n x1 x2 x3 x4 x6 x7 x8 x9:=mkI (by kernel_rfl)
theorem Zvn n x0 x1 x2 x3 x4 x5:Eq (Zlv (n+1) x0 x1 x2 x3 x4 x5) <| Zbj n x0 x1 x2 x3 x4 x5 0:=mkI (by kernel_rfl)
theorem Zvo n x0 x1 x2 x3 x4 x5 x6 x7 x8:Eq (Zgy (n+1) x0 x1 x2 x3 x4 x5 x6 x7 x8) <| bif x8<ofNat x0.length then ix x0 x8 fun e0=>ix x4 x8 fun e1=>bif !(e0.1==e1.1&&(e0.2.1==e1.2.1&&(e0.2.2.1==e1.2.2.1&&(e0.2.2.2.1==e1.2.2.2.1&&(e0.2.2.2.2.1==e1.2.2.2.2.1&&(e0.2.2.2.2.2.1==e1.2.2.2.2.2.1&&(e0.2.2.2.2.2.2.1==e1.2.2.2.2.2.2.1&&(e0.2.2.2.2.2.2.2.1==e1.2.2.2.2.2.2.2.1&&(e0.2.2.2.2.2.2.2.2.1==e1.2.2.2.2.2.2.2.2.1&&(e0.2.2.2.2.2.2.2.2.2.1==e1.2.2.2.2.2.2.2.2.2.1&&(e0.2.2.2.2.2.2.2.2.2.2.1==e1.2.2.2.2.2.2.2.2.2.2.1&&true))))))))))) then some (false,()) else Zgy n x0 x1 x2 x3 x4 x5 x6 x7 (wrap .i64 (x8+1)) else Zlv n x1 x2 x3 x5 x6 x7:=mkI (by kernel_rfl)
theorem Zvp n x0 x1 x2 x3:Eq (Zgz (n+1) x0 x1 x2 x3) <| Zg0 n x0 x1 x2 x3 0:=mkI (by kernel_rfl)
theorem Zlx n x0 x1 x2 x3 x4 x5 x6:Eq (Zbj (n+1) x0 x1 x2 x3 x4 x5 x6) <| bif x6<ofNat x0.length then ix x0 x6 fun e0=>ix x3 x6 fun e1=>bif !(e0.1==e1.1&&(e0.2.1==e1.2.1&&(e0.2.2.1==e1.2.2.1&&(e0.2.2.2.1==e1.2.2.2.1&&(e0.2.2.2.2.1==e1.2.2.2.2.1&&true))))) then some (false,()) else Zbj n x0 x1 x2 x3 x4 x5 (wrap .i64 (x6+1)) else Zgz n x1 x2 x4 x5:=mkI (by kernel_rfl)
theorem Zvq n x0 x1:Eq (Zlw (n+1) x0 x1) <| Zg1 n x0 x1 0:=mkI (by kernel_rfl)
theorem Zvr n x0 x1 x2 x3 x4:Eq (Zg0 (n+1) x0 x1 x2 x3 x4) <| bif x4<ofNat x0.length then ix x0 x4 fun e0=>ix x2 x4 fun e1=>bif !(e0.1==e1.1&&(e0.2.1==e1.2.1&&(e0.2.2.1==e1.2.2.1&&(e0.2.2.2.1==e1.2.2.2.1&&(e0.2.2.2.2.1==e1.2.2.2.2.1&&true))))) then some (false,()) else Zg0 n x0 x1 x2 x3 (wrap .i64 (x4+1)) else Zlw n x1 x3:=mkI (by kernel_rfl)
theorem Zvs n x0 x1 x2:Eq (Zg1 (n+1) x0 x1 x2) <| bif x2<ofNat x0.length then ix x0 x2 fun e0=>ix x1 x2 fun e1=>bif !(e0.1==e1.1&&(e0.2.1==e1.2.1&&(e0.2.2.1==e1.2.2.1&&true))) then some (false,()) else Zg1 n x0 x1 (wrap .i64 (x2+1)) else some (true,()):=mkI (by kernel_rfl)
noncomputable def Ygt:Tb:=[]
def F134:TFun:=⟨[],[(6,qc [[.c (.p (.sl Vq4))],[.c (.p (.sl Vq4))],qn 3,qi,qn 20])],[.c (.sl Vq4),.c (.sl Vq4)],[.c (.p db)],qc [qn 4,qb,qn 21],[],[],0⟩
noncomputable def Z8y:=mkC Ygt prog 134 F134
theorem Yrw:Z8y.ok prog 134:=mkO trivial (by kernel_rfl)
noncomputable def Zg2 (a0 a1:(List Vy4)):Option (Bool×Unit):=Z8y.fn (a0,a1,())
noncomputable def Zdf (n:Nat)(x0 x1:(List Vy4))(x2:Int):Option (Bool×Unit):=itr Ygt prog 134 F134 n 6 (x0,x1,x2,())
theorem Zrs a0 a1:Eq (Zg2 a0 a1) <| bif ofNat a0.length !=ofNat a1.length then some (false,()) else Zdf fuel a0 a1 0:=mkE (by kernel_rfl)
theorem Zqn n x0 x1 x2:Eq (Zdf (n+1) x0 x1 x2) <| bif x2<ofNat x0.length then ix x0 x2 fun e0=>ix x1 x2 fun e1=>bif !(e0.1==e1.1&&(e0.2.1==e1.2.1&&(e0.2.2.1==e1.2.2.1&&(e0.2.2.2.1==e1.2.2.2.1&&(e0.2.2.2.2.1==e1.2.2.2.2.1&&(e0.2.2.2.2.2.1==e1.2.2.2.2.2.1&&(e0.2.2.2.2.2.2.1==e1.2.2.2.2.2.2.1&&(e0.2.2.2.2.2.2.2.1==e1.2.2.2.2.2.2.2.1&&(e0.2.2.2.2.2.2.2.2.1==e1.2.2.2.2.2.2.2.2.1&&(e0.2.2.2.2.2.2.2.2.2.1==e1.2.2.2.2.2.2.2.2.2.1&&true)))))))))) then some (false,()) else Zdf n x0 x1 (wrap .i64 (x2+1)) else some (true,()):=mkI (by kernel_rfl)
noncomputable def Yrx:Tb:=[(134,Z8y)]
def F90:TFun:=⟨[],[],[.a Vq13,.a Vq13],[.c (.p db)],qc [qn 4,qb,qn 12],[],[],0⟩
noncomputable def Ygu:=mkC Yrx prog 90 F90
theorem ok90:Ygu.ok prog 90:=mkO ⟨Yrw,trivial⟩ (by kernel_rfl)
noncomputable def Zvt (a0 a1:Vy12):Option (Bool×Unit):=Ygu.fn (a0,a1,())
theorem Z2q a0 a1:Eq (Zvt a0 a1) <| bif a0.1==a1.1 then (Zg2 a0.2.1 a1.2.1).bind fun e0=>some (e0.1,()) else some (false,()):=mkE (by kernel_rfl)
noncomputable def Ynk:Tb:=[(90,Ygu)]
def F58:TFun:=⟨[],[(6,qc [[.c (.p (.sl Vq13))],[.c (.p (.sl Vq13))],qn 3,qi,qn 21])],[.c (.sl Vq13),.c (.sl Vq13)],[.c (.p db)],qc [qn 4,qb,qn 22],[],[],0⟩
noncomputable def Ygv:=mkC Ynk prog 58 F58
theorem ok58:Ygv.ok prog 58:=mkO ⟨ok90,trivial⟩ (by kernel_rfl)
noncomputable def Zep (a0 a1:(List Vy12)):Option (Bool×Unit):=Ygv.fn (a0,a1,())
noncomputable def Zb1 (n:Nat)(x0 x1:(List Vy12))(x2:Int):Option (Bool×Unit):=itr Ynk prog 58 F58 n 6 (x0,x1,x2,())
theorem Ztd a0 a1:Eq (Zep a0 a1) <| bif ofNat a0.length !=ofNat a1.length then some (false,()) else Zb1 fuel a0 a1 0:=mkE (by kernel_rfl)
theorem Zis n x0 x1 x2:Eq (Zb1 (n+1) x0 x1 x2) <| bif x2<ofNat x0.length then ix x0 x2 fun e0=>ix x1 x2 fun e1=>(Zvt e0 e1).bind fun e2=>bif !e2.1 then some (false,()) else Zb1 n x0 x1 (wrap .i64 (x2+1)) else some (true,()):=mkI (by kernel_rfl)
noncomputable def Ynl:Tb:=[(58,Ygv),(59,Ygs)]
def F25:TFun:=⟨[],[(7,qc [qn 2,[.boxN 35 14 [.any,.any,.any,.any,.any,.any,.any,.any,.any,.any,.any,.any,.p (.sl Vq1),.any]],[.boxN 35 14 [.any,.any,.any,.any,.any,.any,.any,.any,.any,.any,.any,.any,.p (.sl Vq1),.any]],qn 1,qi,qn 34])],[.a Vq9,.a Vq9],[.c (.p db)],qc [qn 4,qb,qn 35],[],[],0⟩
noncomputable def Ygw:=mkC Ynl prog 25 F25
theorem ok25:Ygw.ok prog 25:=mkO ⟨ok58,ok59,trivial⟩ (by kernel_rfl)
noncomputable def Zpg (a0 a1:Vy9):Option (Bool×Unit):=Ygw.fn (a0,a1,())
noncomputable def Zeq (n:Nat)(x0 x1:(List Vy3))(x2:Int):Option (Bool×Unit):=itr Ynl prog 25 F25 n 7 (x0,x1,x2,())
theorem Z2r a0 a1:Eq (Zpg a0 a1) <| bif ofNat a0.2.2.2.2.2.2.2.2.2.2.2.2.1.length !=ofNat a1.2.2.2.2.2.2.2.2.2.2.2.2.1.length then some (false,()) else (Zep a0.2.2.2.2.2.2.2.2.2.2.2.2.2.1 a1.2.2.2.2.2.2.2.2.2.2.2.2.2.1).bind fun e0=>bif !e0.1 then some (false,()) else Zeq fuel a0.2.2.2.2.2.2.2.2.2.2.2.2.1 a1.2.2.2.2.2.2.2.2.2.2.2.2.1 0:=mkE (by kernel_rfl)
theorem Zok n x0 x1 x2:Eq (Zeq (n+1) x0 x1 x2) <| bif x2<ofNat x0.length then ix x0 x2 fun e0=>ix x1 x2 fun e1=>(Zpf e0 e1).bind fun e2=>bif !e2.1 then some (false,()) else Zeq n x0 x1 (wrap .i64 (x2+1)) else some (true,()):=mkI (by kernel_rfl)
end Tg
