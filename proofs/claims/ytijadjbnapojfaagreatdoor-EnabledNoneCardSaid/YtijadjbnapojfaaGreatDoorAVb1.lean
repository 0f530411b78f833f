import Derived.Test.YtijadjbnapojfaaGreatDoorAVT
/- Functions of the code, told plainly and checked by the kernel. -/
set_option linter.unusedVariables false
set_option linter.unusedSimpArgs false
set_option maxRecDepth 100000
namespace Tg
noncomputable section
open Go.Abs hiding fuel
open Go.Proofs.Tryz (prog)
open Int (ofNat toNat)
open Go.IntKind (wrap)
def Ycy:Tb:=[]
def F26:TFun:=⟨[2],[(2,qc [qn 1,[.boxN 66 9 [.any,.any,.any,.any,.p (.sl Vq10),.p (.sl Vq1),.p (.sl Vq7),.any,.any]],qn 54]),(4,qc [qn 1,[.boxN 66 9 [.any,.any,.any,.any,.p (.sl Vq10),.p (.sl Vq1),.p (.sl Vq7),.any,.any]],qn 1,[.c (.rowN 3 1 Vq10)],qi,qn 51])],[.a Vq2],[.c (.p db)],qc [qn 2,qb,qn 53],[],[],0⟩
def Ycz:=mkC Ycy prog 26 F26
theorem ok26:Ycz.ok prog 26:=mkO trivial
def Zfs (a0:Vy3):Option (Bool×Unit):=Ycz.fn (a0,())
def Zjb (n:Nat)(x0:Vy7)(x1:(List Vy1))(x2:(List Vy5)):Option (Bool×Unit):=itr Ycy prog 26 F26 n 2 (x0,x1,x2,())
def Zcd (n:Nat)(x0:Vy7)(x1:(List Vy1))(x2:(List Vy5))(x3:Vy7)(x4:Int):Option (Bool×Unit):=itr Ycy prog 26 F26 n 4 (x0,x1,x2,x3,x4,())
theorem Zu2 a0:Eq (Zfs a0) <| Zcd fuel a0.2.2.2.2.1 a0.2.2.2.2.2.1 a0.2.2.2.2.2.2.1 ([(ofNat a0.2.2.2.1.length,()),(ofNat a0.2.2.2.2.2.2.2.1.length,()),(ofNat a0.2.2.2.2.2.2.2.2.1.length,())]) 0:=mkE
theorem Zta n x0 x1 x2:Eq (Zjb (n+1) x0 x1 x2) <| bif ofNat x1.length>100 then some (true,()) else bif ofNat x2.length>100 then some (true,()) else some (decide (ofNat x0.length>20),()):=mkI
theorem Zjc n x0 x1 x2 x3 x4:Eq (Zcd (n+1) x0 x1 x2 x3 x4) <| bif x4<ofNat x3.length then ixb x3 x4 fun e0=>let k1:=Zcd n x0 x1 x2 x3 (wrap .i64 (x4+1));bif e0.1>100 then ixb x3 x4 fun e1=>bif e1.1<3990 then some (true,()) else ixb x3 x4 fun e2=>bif e2.1>4010 then some (true,()) else k1 else ixb x3 x4 fun e1=>bif e1.1>4010 then some (true,()) else k1 else Zjb n x0 x1 x2:=mkI
def Yl2:Tb:=[]
def F27:TFun:=⟨[],[],[.a [.int .i64,.sl Vq4]],[.c (.p db)],qc [qn 2,qb,qn 4],[],[],0⟩
def Yc0:=mkC Yl2 prog 27 F27
theorem ok27:Yc0.ok prog 27:=mkO trivial
def Zp5 (a0:(Int×List Vy4×Unit)):Option (Bool×Unit):=Yc0.fn (a0,())
theorem Zu3 a0:Eq (Zp5 a0) <| some (decide (ofNat a0.2.1.length>20),()):=mkE
def Z8g:Tb:=[(26,Ycz),(27,Yc0)]
def F14:TFun:=⟨[4],[(4,qc [qn 1,[.boxN 35 14 [.any,.any,.any,.any,.any,.any,.any,.any,.any,.any,.any,.any,.any,.p (.sl [.int .i64,.sl Vq4])]],qn 74]),(6,qc [qn 1,[.boxN 35 14 [.any,.any,.any,.any,.any,.any,.any,.any,.any,.any,.any,.any,.p (.sl Vq2),.p (.sl [.int .i64,.sl Vq4])]],qn 1,qi,qn 72]),(15,qc [qn 1,[.boxN 35 14 [.any,.any,.any,.any,.any,.any,.any,.any,.any,.any,.any,.any,.any,.p (.sl [.int .i64,.sl Vq4])]],qn 2,qi,qn 71])],[.a [.int .u8,.sl Vq5,.sl Vq10,.bool,.sl Vq5,.int .u8,.int .i64,.int .i64,.bool,.int .u8,.sl Vq11,.sl Vq3,.sl Vq2,.sl [.int .i64,.sl Vq4]]],[.c (.p db)],qc [qn 2,qb,qn 73],[],[],0⟩
def Yc1:=mkC Z8g prog 14 F14
theorem ok14:Yc1.ok prog 14:=mkO ⟨ok26,ok27,trivial⟩
def Zjd (a0:(Int×List Vy2×List (Int×Unit)×Bool×List Vy2×Int×Int×Int×Bool×Int×List Vy9×List Vy2×List Vy3×List (Int×List Vy4×Unit)×Unit)):Option (Bool×Unit):=Yc1.fn (a0,())
def Zje (n:Nat)(x0:(List (Int×List Vy4×Unit))):Option (Bool×Unit):=itr Z8g prog 14 F14 n 4 (x0,())
def Zce (n:Nat)(x0:(List Vy3))(x1:(List (Int×List Vy4×Unit)))(x2:Int):Option (Bool×Unit):=itr Z8g prog 14 F14 n 6 (x0,x1,x2,())
def Zbg (n:Nat)(x0:(List (Int×List Vy4×Unit)))(x1:Int):Option (Bool×Unit):=itr Z8g prog 14 F14 n 15 (x0,x1,())
theorem Zu4 a0:Eq (Zjd a0) <| let k1:=some (true,());bif ofNat a0.2.2.2.2.2.2.2.2.2.2.1.length>30 then k1 else bif ofNat a0.2.2.2.2.2.2.2.2.2.2.2.1.length>60 then k1 else bif ofNat a0.2.2.2.2.2.2.2.2.2.2.2.2.1.length>30 then k1 else bif ofNat a0.2.2.2.2.2.2.2.2.2.2.2.2.2.1.length>60 then k1 else bif ofNat a0.2.1.length>100 then k1 else bif ofNat a0.2.2.2.2.1.length>100 then k1 else bif ofNat a0.2.2.1.length>20 then k1 else Zce fuel a0.2.2.2.2.2.2.2.2.2.2.2.2.1 a0.2.2.2.2.2.2.2.2.2.2.2.2.2.1 0:=mkE
theorem Ztb n x0:Eq (Zje (n+1) x0) <| Zbg n x0 0:=mkI
theorem Zjf n x0 x1 x2:Eq (Zce (n+1) x0 x1 x2) <| bif x2<ofNat x0.length then ix x0 x2 fun e0=>(Zfs e0).bind fun e1=>bif e1.1 then some (true,()) else Zce n x0 x1 (wrap .i64 (x2+1)) else Zje n x1:=mkI
theorem Zhw n x0 x1:Eq (Zbg (n+1) x0 x1) <| bif x1<ofNat x0.length then ix x0 x1 fun e0=>(Zp5 e0).bind fun e1=>bif e1.1 then some (true,()) else Zbg n x0 (wrap .i64 (x1+1)) else some (false,()):=mkI
end
end Tg
