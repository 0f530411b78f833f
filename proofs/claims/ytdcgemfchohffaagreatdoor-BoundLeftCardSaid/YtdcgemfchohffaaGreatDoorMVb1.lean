import Derived.Test.YtdcgemfchohffaaGreatDoorMVT
/- Functions of the code, told plainly and checked by the kernel. -/
set_option linter.unusedVariables false
set_option linter.unusedSimpArgs false
set_option maxRecDepth 100000
namespace Tg
noncomputable section
open Go.Abs hiding fuel
open Go.Proofs.Tryz (prog)
open Int (ofNat toNat)
open Go.IntKind (wrap)
def Ycf:Tb:=[]
def F20:TFun:=⟨[2],[(2,qc [qn 1,[.boxN 58 9 [.any,.any,.any,.any,.p (.sl Vq10),.p (.sl Vq1),.p (.sl Vq7),.any,.any]],qn 54]),(4,qc [qn 1,[.boxN 58 9 [.any,.any,.any,.any,.p (.sl Vq10),.p (.sl Vq1),.p (.sl Vq7),.any,.any]],qn 1,[.c (.rowN 3 1 Vq10)],qi,qn 51])],[.a Vq2],[.c (.p db)],qc [qn 2,qb,qn 53],[],[],0⟩
def Ycg:=mkC Ycf prog 20 F20
theorem ok20:Ycg.ok prog 20:=mkO trivial
def Zf0 (a0:Vy3):Option (Bool×Unit):=Ycg.fn (a0,())
def Zjr (n:Nat)(x0:Vy8)(x1:(List Vy1))(x2:(List Vy5)):Option (Bool×Unit):=itr Ycf prog 20 F20 n 2 (x0,x1,x2,())
def Zcj (n:Nat)(x0:Vy8)(x1:(List Vy1))(x2:(List Vy5))(x3:Vy8)(x4:Int):Option (Bool×Unit):=itr Ycf prog 20 F20 n 4 (x0,x1,x2,x3,x4,())
theorem Zvj a0:Eq (Zf0 a0) <| Zcj fuel a0.2.2.2.2.1 a0.2.2.2.2.2.1 a0.2.2.2.2.2.2.1 ([(ofNat a0.2.2.2.1.length,()),(ofNat a0.2.2.2.2.2.2.2.1.length,()),(ofNat a0.2.2.2.2.2.2.2.2.1.length,())]) 0:=mkE
theorem Ztw n x0 x1 x2:Eq (Zjr (n+1) x0 x1 x2) <| bif ofNat x1.length>100 then some (true,()) else bif ofNat x2.length>100 then some (true,()) else some (decide (ofNat x0.length>20),()):=mkI
theorem Zjs n x0 x1 x2 x3 x4:Eq (Zcj (n+1) x0 x1 x2 x3 x4) <| bif x4<ofNat x3.length then ixb x3 x4 fun e0=>let k1:=Zcj n x0 x1 x2 x3 (wrap .i64 (x4+1));bif e0.1>100 then ixb x3 x4 fun e1=>bif e1.1<3990 then some (true,()) else ixb x3 x4 fun e2=>bif e2.1>4010 then some (true,()) else k1 else ixb x3 x4 fun e1=>bif e1.1>4010 then some (true,()) else k1 else Zjr n x0 x1 x2:=mkI
def Ylm:Tb:=[]
def F21:TFun:=⟨[],[],[.a [.int .i64,.sl Vq4]],[.c (.p db)],qc [qn 2,qb,qn 4],[],[],0⟩
def Ych:=mkC Ylm prog 21 F21
theorem ok21:Ych.ok prog 21:=mkO trivial
def Zqm (a0:(Int×List Vy4×Unit)):Option (Bool×Unit):=Ych.fn (a0,())
theorem Zvk a0:Eq (Zqm a0) <| some (decide (ofNat a0.2.1.length>20),()):=mkE
def Z7x:Tb:=[(20,Ycg),(21,Ych)]
def F12:TFun:=⟨[4],[(4,qc [qn 1,[.boxN 35 14 [.any,.any,.any,.any,.any,.any,.any,.any,.any,.any,.any,.any,.any,.p (.sl [.int .i64,.sl Vq4])]],qn 74]),(6,qc [qn 1,[.boxN 35 14 [.any,.any,.any,.any,.any,.any,.any,.any,.any,.any,.any,.any,.p (.sl Vq2),.p (.sl [.int .i64,.sl Vq4])]],qn 1,qi,qn 72]),(15,qc [qn 1,[.boxN 35 14 [.any,.any,.any,.any,.any,.any,.any,.any,.any,.any,.any,.any,.any,.p (.sl [.int .i64,.sl Vq4])]],qn 2,qi,qn 71])],[.a [.int .u8,.sl Vq5,.sl Vq10,.bool,.sl Vq5,.int .u8,.int .i64,.int .i64,.bool,.int .u8,.sl Vq11,.sl Vq3,.sl Vq2,.sl [.int .i64,.sl Vq4]]],[.c (.p db)],qc [qn 2,qb,qn 73],[],[],0⟩
def Yci:=mkC Z7x prog 12 F12
theorem ok12:Yci.ok prog 12:=mkO ⟨ok20,ok21,trivial⟩
def Zjt (a0:(Int×List Vy2×List (Int×Unit)×Bool×List Vy2×Int×Int×Int×Bool×Int×List Vy9×List Vy2×List Vy3×List (Int×List Vy4×Unit)×Unit)):Option (Bool×Unit):=Yci.fn (a0,())
def Zju (n:Nat)(x0:(List (Int×List Vy4×Unit))):Option (Bool×Unit):=itr Z7x prog 12 F12 n 4 (x0,())
def Zck (n:Nat)(x0:(List Vy3))(x1:(List (Int×List Vy4×Unit)))(x2:Int):Option (Bool×Unit):=itr Z7x prog 12 F12 n 6 (x0,x1,x2,())
def Zbt (n:Nat)(x0:(List (Int×List Vy4×Unit)))(x1:Int):Option (Bool×Unit):=itr Z7x prog 12 F12 n 15 (x0,x1,())
theorem Zvl a0:Eq (Zjt a0) <| let k1:=some (true,());bif ofNat a0.2.2.2.2.2.2.2.2.2.2.1.length>30 then k1 else bif ofNat a0.2.2.2.2.2.2.2.2.2.2.2.1.length>60 then k1 else bif ofNat a0.2.2.2.2.2.2.2.2.2.2.2.2.1.length>30 then k1 else bif ofNat a0.2.2.2.2.2.2.2.2.2.2.2.2.2.1.length>60 then k1 else bif ofNat a0.2.1.length>100 then k1 else bif ofNat a0.2.2.2.2.1.length>100 then k1 else bif ofNat a0.2.2.1.length>20 then k1 else Zck fuel a0.2.2.2.2.2.2.2.2.2.2.2.2.1 a0.2.2.2.2.2.2.2.2.2.2.2.2.2.1 0:=mkE
theorem Ztx n x0:Eq (Zju (n+1) x0) <| Zbt n x0 0:=mkI
theorem Zjv n x0 x1 x2:Eq (Zck (n+1) x0 x1 x2) <| bif x2<ofNat x0.length then ix x0 x2 fun e0=>(Zf0 e0).bind fun e1=>bif e1.1 then some (true,()) else Zck n x0 x1 (wrap .i64 (x2+1)) else Zju n x1:=mkI
theorem Zh3 n x0 x1:Eq (Zbt (n+1) x0 x1) <| bif x1<ofNat x0.length then ix x0 x1 fun e0=>(Zqm e0).bind fun e1=>bif e1.1 then some (true,()) else Zbt n x0 (wrap .i64 (x1+1)) else some (false,()):=mkI
end
end Tg
