import Derived.Test.YtenldcjkpgmpnaaGreatDoorTVT
/- Functions of the code, told plainly and checked by the kernel. -/
set_option linter.unusedVariables false
set_option linter.unusedSimpArgs false
set_option maxRecDepth 100000
namespace Tg
noncomputable section
open Go.Abs hiding fuel
open Go.Proofs.Tryz (prog)
open Int (ofNat toNat)
open Go.IntKind (wrap)
def Ygu:Tb:=[]
def F131:TFun:=⟨[],[(6,qc [[.c (.p (.sl Vq6))],[.c (.p (.sl Vq6))],qn 3,qi,qn 20])],[.c (.sl Vq6),.c (.sl Vq6)],[.c (.p db)],qc [qn 4,qb,qn 21],[],[],0⟩
def Z8v:=mkC Ygu prog 131 F131
theorem Yr6:Z8v.ok prog 131:=mkO trivial
def Ze7 (a0 a1:(List Vy1)):Option (Bool×Unit):=Z8v.fn (a0,a1,())
def Zas (n:Nat)(x0 x1:(List Vy1))(x2:Int):Option (Bool×Unit):=itr Ygu prog 131 F131 n 6 (x0,x1,x2,())
theorem Zpq a0 a1:Eq (Ze7 a0 a1) <| bif ofNat a0.length !=ofNat a1.length then some (false,()) else Zas fuel a0 a1 0:=mkE
theorem Zgi n x0 x1 x2:Eq (Zas (n+1) x0 x1 x2) <| bif x2<ofNat x0.length then ix x0 x2 fun e0=>ix x1 x2 fun e1=>bif !(e0.1==e1.1&&(e0.2.1==e1.2.1&&(e0.2.2.1==e1.2.2.1&&(e0.2.2.2.1==e1.2.2.2.1&&(e0.2.2.2.2.1==e1.2.2.2.2.1&&(e0.2.2.2.2.2.1==e1.2.2.2.2.2.1&&(e0.2.2.2.2.2.2.1==e1.2.2.2.2.2.2.1&&(e0.2.2.2.2.2.2.2.1==e1.2.2.2.2.2.2.2.1&&(e0.2.2.2.2.2.2.2.2.1==e1.2.2.2.2.2.2.2.2.1&&(e0.2.2.2.2.2.2.2.2.2.1==e1.2.2.2.2.2.2.2.2.2.1&&(e0.2.2.2.2.2.2.2.2.2.2.1==e1.2.2.2.2.2.2.2.2.2.2.1&&true))))))))))) then some (false,()) else Zas n x0 x1 (wrap .i64 (x2+1)) else some (true,()):=mkI
def Znl:Tb:=[(131,Z8v)]
def F87:TFun:=⟨[5,13,21,29],[(5,qc [qn 2,[.boxN 61 9 [.any,.any,.any,.any,.any,.p (.sl Vq1),.p (.sl Vq7),.p (.sl Vq4),.p (.sl Vq8)]],[.boxN 61 9 [.any,.any,.any,.any,.any,.p (.sl Vq1),.p (.sl Vq7),.p (.sl Vq4),.p (.sl Vq8)]],qn 161]),(7,qc [qn 2,[.boxN 61 9 [.any,.any,.any,.any,.p (.sl Vq11),.p (.sl Vq1),.p (.sl Vq7),.p (.sl Vq4),.p (.sl Vq8)]],[.boxN 61 9 [.any,.any,.any,.any,.p (.sl Vq11),.p (.sl Vq1),.p (.sl Vq7),.p (.sl Vq4),.p (.sl Vq8)]],qn 1,qi,qn 159]),(13,qc [qn 2,[.boxN 61 9 [.any,.any,.any,.any,.any,.any,.p (.sl Vq7),.p (.sl Vq4),.p (.sl Vq8)]],[.boxN 61 9 [.any,.any,.any,.any,.any,.any,.p (.sl Vq7),.p (.sl Vq4),.p (.sl Vq8)]],qn 161]),(15,qc [qn 2,[.boxN 61 9 [.any,.any,.any,.any,.any,.p (.sl Vq1),.p (.sl Vq7),.p (.sl Vq4),.p (.sl Vq8)]],[.boxN 61 9 [.any,.any,.any,.any,.any,.p (.sl Vq1),.p (.sl Vq7),.p (.sl Vq4),.p (.sl Vq8)]],qn 2,qi,qn 158]),(21,qc [qn 2,[.boxN 61 9 [.any,.any,.any,.any,.any,.any,.any,.p (.sl Vq4),.p (.sl Vq8)]],[.boxN 61 9 [.any,.any,.any,.any,.any,.any,.any,.p (.sl Vq4),.p (.sl Vq8)]],qn 161]),(23,qc [qn 2,[.boxN 61 9 [.any,.any,.any,.any,.any,.any,.p (.sl Vq7),.p (.sl Vq4),.p (.sl Vq8)]],[.boxN 61 9 [.any,.any,.any,.any,.any,.any,.p (.sl Vq7),.p (.sl Vq4),.p (.sl Vq8)]],qn 3,qi,qn 157]),(29,qc [qn 2,[.boxN 61 9 [.any,.any,.any,.any,.any,.any,.any,.any,.p (.sl Vq8)]],[.boxN 61 9 [.any,.any,.any,.any,.any,.any,.any,.any,.p (.sl Vq8)]],qn 161]),(31,qc [qn 2,[.boxN 61 9 [.any,.any,.any,.any,.any,.any,.any,.p (.sl Vq4),.p (.sl Vq8)]],[.boxN 61 9 [.any,.any,.any,.any,.any,.any,.any,.p (.sl Vq4),.p (.sl Vq8)]],qn 4,qi,qn 156]),(39,qc [qn 2,[.boxN 61 9 [.any,.any,.any,.any,.any,.any,.any,.any,.p (.sl Vq8)]],[.boxN 61 9 [.any,.any,.any,.any,.any,.any,.any,.any,.p (.sl Vq8)]],qn 5,qi,qn 155])],[.a Vq2,.a Vq2],[.c (.p db)],qc [qn 4,qb,qn 160],[],[],0⟩
def Ygv:=mkC Znl prog 87 F87
theorem ok87:Ygv.ok prog 87:=mkO ⟨Yr6,trivial⟩
def Zog (a0 a1:Vy6):Option (Bool×Unit):=Ygv.fn (a0,a1,())
def Znm (n:Nat)(x0:(List Vy1))(x1:(List Vy3))(x2:(List Vy2))(x3:Vy5)(x4:(List Vy1))(x5:(List Vy3))(x6:(List Vy2))(x7:Vy5):Option (Bool×Unit):=itr Znl prog 87 F87 n 5 (x0,x1,x2,x3,x4,x5,x6,x7,())
def Zb4 (n:Nat)(x0:Vy7)(x1:(List Vy1))(x2:(List Vy3))(x3:(List Vy2))(x4:Vy5)(x5:Vy7)(x6:(List Vy1))(x7:(List Vy3))(x8:(List Vy2))(x9:Vy5)(x10:Int):Option (Bool×Unit):=itr Znl prog 87 F87 n 7 (x0,x1,x2,x3,x4,x5,x6,x7,x8,x9,x10,())
def Zla (n:Nat)(x0:(List Vy3))(x1:(List Vy2))(x2:Vy5)(x3:(List Vy3))(x4:(List Vy2))(x5:Vy5):Option (Bool×Unit):=itr Znl prog 87 F87 n 13 (x0,x1,x2,x3,x4,x5,())
def Zbe (n:Nat)(x0:(List Vy1))(x1:(List Vy3))(x2:(List Vy2))(x3:Vy5)(x4:(List Vy1))(x5:(List Vy3))(x6:(List Vy2))(x7:Vy5)(x8:Int):Option (Bool×Unit):=itr Znl prog 87 F87 n 15 (x0,x1,x2,x3,x4,x5,x6,x7,x8,())
def Zlb (n:Nat)(x0:(List Vy2))(x1:Vy5)(x2:(List Vy2))(x3:Vy5):Option (Bool×Unit):=itr Znl prog 87 F87 n 21 (x0,x1,x2,x3,())
def Zbf (n:Nat)(x0:(List Vy3))(x1:(List Vy2))(x2:Vy5)(x3:(List Vy3))(x4:(List Vy2))(x5:Vy5)(x6:Int):Option (Bool×Unit):=itr Znl prog 87 F87 n 23 (x0,x1,x2,x3,x4,x5,x6,())
def Zlc (n:Nat)(x0 x1:Vy5):Option (Bool×Unit):=itr Znl prog 87 F87 n 29 (x0,x1,())
def Zbg (n:Nat)(x0:(List Vy2))(x1:Vy5)(x2:(List Vy2))(x3:Vy5)(x4:Int):Option (Bool×Unit):=itr Znl prog 87 F87 n 31 (x0,x1,x2,x3,x4,())
def Zbh (n:Nat)(x0 x1:Vy5)(x2:Int):Option (Bool×Unit):=itr Znl prog 87 F87 n 39 (x0,x1,x2,())
theorem Z15 a0 a1:Eq (Zog a0 a1) <| let k1:=some (false,());bif !(a0.1==a1.1&&(a0.2.1==a1.2.1&&true)) then k1 else bif a0.2.2.1 !=a1.2.2.1 then k1 else (Ze7 a0.2.2.2.1 a1.2.2.2.1).bind fun e0=>bif !e0.1 then k1 else bif ofNat a0.2.2.2.2.1.length !=ofNat a1.2.2.2.2.1.length then k1 else bif ofNat a0.2.2.2.2.2.1.length !=ofNat a1.2.2.2.2.2.1.length then k1 else bif ofNat a0.2.2.2.2.2.2.1.length !=ofNat a1.2.2.2.2.2.2.1.length then k1 else bif ofNat a0.2.2.2.2.2.2.2.1.length !=ofNat a1.2.2.2.2.2.2.2.1.length then k1 else bif ofNat a0.2.2.2.2.2.2.2.2.1.length !=ofNat a1.2.2.2.2.2.2.2.2.1.length then k1 else Zb4 fuel a0.2.2.2.2.1 a0.2.2.2.2.2.1 a0.2.2.2.2.2.2.1 a0.2.2.2.2.2.2.2.1 a0.2.2.2.2.2.2.2.2.1 a1.2.2.2.2.1 a1.2.2.2.2.2.1 a1.2.2.2.2.2.2.1 a1.2.2.2.2.2.2.2.1 a1.2.2.2.2.2.2.2.2.1 0:=mkE
theorem Zxj n x0 x1 x2 x3 x4 x5 x6 x7:Eq (Znm (n+1) x0 x1 x2 x3 x4 x5 x6 x7) <| Zbe n x0 x1 x2 x3 x4 x5 x6 x7 0:=mkI
theorem Znn n x0 x1 x2 x3 x4 x5 x6 x7 x8 x9 x10:Eq (Zb4 (n+1) x0 x1 x2 x3 x4 x5 x6 x7 x8 x9 x10) <| bif x10<ofNat x0.length then ix x0 x10 fun e0=>ix x5 x10 fun e1=>bif e0.1 !=e1.1 then some (false,()) else Zb4 n x0 x1 x2 x3 x4 x5 x6 x7 x8 x9 (wrap .i64 (x10+1)) else Znm n x1 x2 x3 x4 x6 x7 x8 x9:=mkI
theorem Zvj n x0 x1 x2 x3 x4 x5:Eq (Zla (n+1) x0 x1 x2 x3 x4 x5) <| Zbf n x0 x1 x2 x3 x4 x5 0:=mkI
theorem Zld n x0 x1 x2 x3 x4 x5 x6 x7 x8:Eq (Zbe (n+1) x0 x1 x2 x3 x4 x5 x6 x7 x8) <| bif x8<ofNat x0.length then ix x0 x8 fun e0=>ix x4 x8 fun e1=>bif !(e0.1==e1.1&&(e0.2.1==e1.2.1&&(e0.2.2.1==e1.2.2.1&&(e0.2.2.2.1==e1.2.2.2.1&&(e0.2.2.2.2.1==e1.2.2.2.2.1&&(e0.2.2.2.2.2.1==e1.2.2.2.2.2.1&&(e0.2.2.2.2.2.2.1==e1.2.2.2.2.2.2.1&&(e0.2.2.2.2.2.2.2.1==e1.2.2.2.2.2.2.2.1&&(e0.2.2.2.2.2.2.2.2.1==e1.2.2.2.2.2.2.2.2.1&&(e0.2.2.2.2.2.2.2.2.2.1==e1.2.2.2.2.2.2.2.2.2.1&&(e0.2.2.2.2.2.2.2.2.2.2.1==e1.2.2.2.2.2.2.2.2.2.2.1&&true))))))))))) then some (false,()) else Zbe n x0 x1 x2 x3 x4 x5 x6 x7 (wrap .i64 (x8+1)) else Zla n x1 x2 x3 x5 x6 x7:=mkI
theorem Zvk n x0 x1 x2 x3:Eq (Zlb (n+1) x0 x1 x2 x3) <| Zbg n x0 x1 x2 x3 0:=mkI
theorem Zle n x0 x1 x2 x3 x4 x5 x6:Eq (Zbf (n+1) x0 x1 x2 x3 x4 x5 x6) <| bif x6<ofNat x0.length then ix x0 x6 fun e0=>ix x3 x6 fun e1=>bif !(e0.1==e1.1&&(e0.2.1==e1.2.1&&(e0.2.2.1==e1.2.2.1&&(e0.2.2.2.1==e1.2.2.2.1&&(e0.2.2.2.2.1==e1.2.2.2.2.1&&true))))) then some (false,()) else Zbf n x0 x1 x2 x3 x4 x5 (wrap .i64 (x6+1)) else Zlb n x1 x2 x4 x5:=mkI
theorem Zvl n x0 x1:Eq (Zlc (n+1) x0 x1) <| Zbh n x0 x1 0:=mkI
theorem Zlf n x0 x1 x2 x3 x4:Eq (Zbg (n+1) x0 x1 x2 x3 x4) <| bif x4<ofNat x0.length then ix x0 x4 fun e0=>ix x2 x4 fun e1=>bif !(e0.1==e1.1&&(e0.2.1==e1.2.1&&(e0.2.2.1==e1.2.2.1&&(e0.2.2.2.1==e1.2.2.2.1&&(e0.2.2.2.2.1==e1.2.2.2.2.1&&true))))) then some (false,()) else Zbg n x0 x1 x2 x3 (wrap .i64 (x4+1)) else Zlc n x1 x3:=mkI
theorem Zlg n x0 x1 x2:Eq (Zbh (n+1) x0 x1 x2) <| bif x2<ofNat x0.length then ix x0 x2 fun e0=>ix x1 x2 fun e1=>bif !(e0.1==e1.1&&(e0.2.1==e1.2.1&&(e0.2.2.1==e1.2.2.1&&true))) then some (false,()) else Zbh n x0 x1 (wrap .i64 (x2+1)) else some (true,()):=mkI
def Ygw:Tb:=[]
def F178:TFun:=⟨[],[(6,qc [[.c (.p (.sl Vq3))],[.c (.p (.sl Vq3))],qn 3,qi,qn 20])],[.c (.sl Vq3),.c (.sl Vq3)],[.c (.p db)],qc [qn 4,qb,qn 21],[],[],0⟩
def Z8w:=mkC Ygw prog 178 F178
theorem Yr7:Z8w.ok prog 178:=mkO trivial
def Zgj (a0 a1:(List Vy4)):Option (Bool×Unit):=Z8w.fn (a0,a1,())
def Za5 (n:Nat)(x0 x1:(List Vy4))(x2:Int):Option (Bool×Unit):=itr Ygw prog 178 F178 n 6 (x0,x1,x2,())
theorem Zq7 a0 a1:Eq (Zgj a0 a1) <| bif ofNat a0.length !=ofNat a1.length then some (false,()) else Za5 fuel a0 a1 0:=mkE
theorem Zg1 n x0 x1 x2:Eq (Za5 (n+1) x0 x1 x2) <| bif x2<ofNat x0.length then ix x0 x2 fun e0=>ix x1 x2 fun e1=>bif !(e0.1==e1.1&&(e0.2.1==e1.2.1&&(e0.2.2.1==e1.2.2.1&&(e0.2.2.2.1==e1.2.2.2.1&&(e0.2.2.2.2.1==e1.2.2.2.2.1&&(e0.2.2.2.2.2.1==e1.2.2.2.2.2.1&&(e0.2.2.2.2.2.2.1==e1.2.2.2.2.2.2.1&&(e0.2.2.2.2.2.2.2.1==e1.2.2.2.2.2.2.2.1&&(e0.2.2.2.2.2.2.2.2.1==e1.2.2.2.2.2.2.2.2.1&&(e0.2.2.2.2.2.2.2.2.2.1==e1.2.2.2.2.2.2.2.2.2.1&&true)))))))))) then some (false,()) else Za5 n x0 x1 (wrap .i64 (x2+1)) else some (true,()):=mkI
def Ypg:Tb:=[(178,Z8w)]
def F130:TFun:=⟨[],[],[.a Vq12,.a Vq12],[.c (.p db)],qc [qn 4,qb,qn 12],[],[],0⟩
def Z8x:=mkC Ypg prog 130 F130
theorem Yr8:Z8x.ok prog 130:=mkO ⟨Yr7,trivial⟩
def Zoh (a0 a1:(Int×List Vy4×Unit)):Option (Bool×Unit):=Z8x.fn (a0,a1,())
theorem Z16 a0 a1:Eq (Zoh a0 a1) <| bif a0.1==a1.1 then (Zgj a0.2.1 a1.2.1).bind fun e0=>some (e0.1,()) else some (false,()):=mkE
def Ynb:Tb:=[(130,Z8x)]
def F86:TFun:=⟨[],[(6,qc [[.c (.p (.sl Vq12))],[.c (.p (.sl Vq12))],qn 3,qi,qn 21])],[.c (.sl Vq12),.c (.sl Vq12)],[.c (.p db)],qc [qn 4,qb,qn 22],[],[],0⟩
def Ygx:=mkC Ynb prog 86 F86
theorem ok86:Ygx.ok prog 86:=mkO ⟨Yr8,trivial⟩
def Zeg (a0 a1:(List (Int×List Vy4×Unit))):Option (Bool×Unit):=Ygx.fn (a0,a1,())
def Zbv (n:Nat)(x0 x1:(List (Int×List Vy4×Unit)))(x2:Int):Option (Bool×Unit):=itr Ynb prog 86 F86 n 6 (x0,x1,x2,())
theorem Zso a0 a1:Eq (Zeg a0 a1) <| bif ofNat a0.length !=ofNat a1.length then some (false,()) else Zbv fuel a0 a1 0:=mkE
theorem Zhx n x0 x1 x2:Eq (Zbv (n+1) x0 x1 x2) <| bif x2<ofNat x0.length then ix x0 x2 fun e0=>ix x1 x2 fun e1=>(Zoh e0 e1).bind fun e2=>bif !e2.1 then some (false,()) else Zbv n x0 x1 (wrap .i64 (x2+1)) else some (true,()):=mkI
def Ync:Tb:=[(86,Ygx),(87,Ygv)]
def F42:TFun:=⟨[],[(7,qc [qn 2,[.boxN 38 14 [.any,.any,.any,.any,.any,.any,.any,.any,.any,.any,.any,.any,.p (.sl Vq2),.any]],[.boxN 38 14 [.any,.any,.any,.any,.any,.any,.any,.any,.any,.any,.any,.any,.p (.sl Vq2),.any]],qn 1,qi,qn 34])],[.a Vq9,.a Vq9],[.c (.p db)],qc [qn 4,qb,qn 35],[],[],0⟩
def Ygy:=mkC Ync prog 42 F42
theorem ok42:Ygy.ok prog 42:=mkO ⟨ok86,ok87,trivial⟩
def Zis (a0 a1:(Int×List Vy2×List (Int×Unit)×Bool×List Vy2×Int×Int×Int×Bool×Int×List (Int×Int×Unit)×List Vy2×List Vy6×List (Int×List Vy4×Unit)×Unit)):Option (Bool×Unit):=Ygy.fn (a0,a1,())
def Zeh (n:Nat)(x0 x1:(List Vy6))(x2:Int):Option (Bool×Unit):=itr Ync prog 42 F42 n 7 (x0,x1,x2,())
theorem Z17 a0 a1:Eq (Zis a0 a1) <| bif ofNat a0.2.2.2.2.2.2.2.2.2.2.2.2.1.length !=ofNat a1.2.2.2.2.2.2.2.2.2.2.2.2.1.length then some (false,()) else (Zeg a0.2.2.2.2.2.2.2.2.2.2.2.2.2.1 a1.2.2.2.2.2.2.2.2.2.2.2.2.2.1).bind fun e0=>bif !e0.1 then some (false,()) else Zeh fuel a0.2.2.2.2.2.2.2.2.2.2.2.2.1 a1.2.2.2.2.2.2.2.2.2.2.2.2.1 0:=mkE
theorem Zno n x0 x1 x2:Eq (Zeh (n+1) x0 x1 x2) <| bif x2<ofNat x0.length then ix x0 x2 fun e0=>ix x1 x2 fun e1=>(Zog e0 e1).bind fun e2=>bif !e2.1 then some (false,()) else Zeh n x0 x1 (wrap .i64 (x2+1)) else some (true,()):=mkI
end
end Tg

/- Functions of the code, told plainly and checked by the kernel. -/
namespace Tg
noncomputable section
open Go.Abs hiding fuel
open Go.Proofs.Tryz (prog)
open Int (ofNat toNat)
open Go.IntKind (wrap)
def Yph:Tb:=[]
def F227:TFun:=⟨[],[],[.c (.int .u8)],[.c (.p di)],qc [qn 2,qi,qn 4],[],[],0⟩
def Z8y:=mkC Yph prog 227 F227
theorem Yr9:Z8y.ok prog 227:=mkO trivial
def Zlh (a0:Int):Option (Int×Unit):=Z8y.fn (a0,())
theorem Zxk a0:Eq (Zlh a0) <| bif a0<=4 then some (0,()) else bif a0<=6 then some (1,()) else some (2,()):=mkE
def Ypi:Tb:=[]
def F228:TFun:=⟨[],[],[.a Vq5,.c di,.c di],[.c (.p db)],qc [qn 6,qb,qn 45],[],[],0⟩
def Z8z:=mkC Ypi prog 228 F228
theorem Ysa:Z8z.ok prog 228:=mkO trivial
def Zli (a0:Vy2)(a1 a2:Int):Option (Bool×Unit):=Z8z.fn (a0,a1,a2,())
theorem Zxl a0 a1 a2:Eq (Zli a0 a1 a2) <| bif a0.1>=1 then bif a0.1<=19 then bif a0.2.1>=0 then let k1:=bif a0.2.2.2.2.1>=0 then bif a0.2.2.2.2.1<=400 then bif a0.2.2.1==a1 then some (a0.2.2.2.1==a2,()) else some (false,()) else some (false,()) else some (false,());bif a0.2.1==0 then k1 else bif a0.1==1 then k1 else some (false,()) else some (false,()) else some (false,()) else some (false,()):=mkE
def Z18:Tb:=[(227,Z8y),(228,Z8z)]
def F191:TFun:=⟨[11,2],[(2,qc [[.c (.p (.sl Vq5))],qn 4,[.c (.rowN 3 1 Vq11)],[.c (.rowN 3 1 Vq11)],qn 95]),(4,qc [[.c (.p (.sl Vq5))],qn 4,[.c (.rowN 3 1 Vq11)],[.c (.rowN 3 1 Vq11)],qi,qn 94]),(11,qc [[.c (.p (.sl Vq5))],qn 4,[.c (.rowN 3 1 Vq11)],[.c (.rowN 3 1 Vq11)],qi,qi,qi,qi,qi,qn 90])],[.c (.sl Vq5)],[.c (.s 3 1 Vq11),.c (.s 3 1 Vq11),.c (.p db)],qc [qn 2,[.c (.rowN 3 1 Vq11)],[.c (.rowN 3 1 Vq11)],qb,qn 97],[],[],0⟩
def Zvm:=mkC Z18 prog 191 F191
theorem Ysb:Zvm.ok prog 191:=mkO ⟨Yr9,Ysa,trivial⟩
def Ybz:TCon:=⟨Zvm.args,[.c (.p (.sl Vq11)),.c (.p (.sl Vq11)),.c (.p db)],Zvm.fn⟩
theorem Ypj:Ybz.ok prog 191:=TCon.frz (c:=Zvm) Ysb rfl
def Zg2 (a0:(List Vy2)):Option Vy9:=Zvm.fn (a0,())
def Zlj (n:Nat)(x0:(List Vy2))(x1 x2:Vy7):Option Vy9:=itr Z18 prog 191 F191 n 2 (x0,x1,x2,())
def Z5 (n:Nat)(x0:(List Vy2))(x1 x2:Vy7)(x3:Int):Option Vy9:=itr Z18 prog 191 F191 n 4 (x0,x1,x2,x3,())
def Qm (n:Nat)(x0:(List Vy2))(x1 x2:Vy7)(x3 x4 x5 x6 x7:Int):Option Vy9:=itr Z18 prog 191 F191 n 11 (x0,x1,x2,x3,x4,x5,x6,x7,())
theorem Zxm a0:Eq (Zg2 a0) <| Z5 fuel a0 ([]) ([]) 0:=mkE
theorem Zvn n x0 x1 x2:Eq (Zlj (n+1) x0 x1 x2) <| bif ofNat x0.length>0 then bif 0<=wrap .i64 (ofNat x0.length - 1) then bif toNat (wrap .i64 (ofNat x0.length - 1))<x1.length then match x1[toNat (wrap .i64 (ofNat x0.length - 1))]? with | none=>none | some e0=>some (x1,x2,e0.1==ofNat x0.length,()) else none else none else some (x1,x2,false,()):=mkI
theorem Zai n x0 x1 x2 x3:Eq (Z5 (n+1) x0 x1 x2 x3) <| bif x3<ofNat x0.length then bif 0<=x3 then match x0[x3.toNat]? with | none=>none | some e0=>match Zlh e0.1 with | none=>none | some e1=>bif e1.1>0 then bif wrap .i64 (x3 - 1)<0 then some ([],[],false,()) else bif 0<=wrap .i64 (x3 - 1) then bif toNat (wrap .i64 (x3 - 1))<x1.length then match x1[toNat (wrap .i64 (x3 - 1))]? with | none=>none | some e2=>bif 0<=wrap .i64 (x3 - 1) then bif toNat (wrap .i64 (x3 - 1))<x1.length then match x1[toNat (wrap .i64 (x3 - 1))]? with | none=>none | some e3=>bif 0<=wrap .i64 (x3 - 1) then bif toNat (wrap .i64 (x3 - 1))<x2.length then match x2[toNat (wrap .i64 (x3 - 1))]? with | none=>none | some e4=>bif e1.1==2 then bif wrap .i64 (wrap .i64 (x3 - 1) - e2.1)<0 then some ([],[],false,()) else bif 0<=wrap .i64 (wrap .i64 (x3 - 1) - e2.1) then bif toNat (wrap .i64 (wrap .i64 (x3 - 1) - e2.1))<x1.length then match x1[toNat (wrap .i64 (wrap .i64 (x3 - 1) - e2.1))]? with | none=>none | some e5=>bif 0<=wrap .i64 (wrap .i64 (x3 - 1) - e2.1) then bif toNat (wrap .i64 (wrap .i64 (x3 - 1) - e2.1))<x2.length then match x2[toNat (wrap .i64 (wrap .i64 (x3 - 1) - e2.1))]? with | none=>none | some e6=>Qm n x0 x1 x2 x3 (wrap .i64 (wrap .i64 (x3 - 1) - e2.1)) (wrap .i64 (x3 - 1)) (wrap .i64 (wrap .i64 (1+e3.1)+e5.1)) (tmm true (wrap .i64 (1+e4.1)) (wrap .i64 (1+e6.1))) else none else none else none else none else Qm n x0 x1 x2 x3 (wrap .i64 (x3 - 1)) 0 (wrap .i64 (1+e3.1)) (wrap .i64 (1+e4.1)) else none else none else none else none else none else none else Qm n x0 x1 x2 x3 0 0 1 1 else none else Zlj n x0 x1 x2:=mkI
theorem Zsp n x0 x1 x2 x3 x4 x5 x6 x7:Eq (Qm (n+1) x0 x1 x2 x3 x4 x5 x6 x7) <| bif 0<=x3 then match x0[x3.toNat]? with | none=>none | some e0=>match Zli e0 x4 x5 with | none=>none | some e1=>bif !e1.1 then some ([],[],false,()) else bif Zb (x1.length+List.length [(x6,())]) 8 then bif Zb (x2.length+List.length [(x7,())]) 8 then Z5 n x0 (x1++[(x6,())]) (x2++[(x7,())]) (wrap .i64 (x3+1)) else none else none else none:=mkI
def Ypk:Tb:=[(191,Ybz)]
def F143:TFun:=⟨[],[],[.c (.sl Vq5)],[.c (.p di)],qc [qn 2,qi,qn 21],[],[],0⟩
def Z19:=mkC Ypk prog 143 F143
theorem Ynd:Z19.ok prog 143:=mkO ⟨Ypj,trivial⟩
def X5 (a0:(List Vy2)):Option (Int×Unit):=Z19.fn (a0,())
theorem Zxn a0:Eq (X5 a0) <| bif ofNat a0.length>60 then some (4,()) else match Zg2 a0 with | none=>none | some e0=>bif !e0.2.2.1 then some (8,()) else bif 0<=wrap .i64 (ofNat a0.length - 1) then match e0.2.1[toNat (wrap .i64 (ofNat a0.length - 1))]? with | none=>none | some e1=>bif e1.1>20 then some (34,()) else some (0,()) else none:=mkE
def Zvo:Tb:=[]
def F144:TFun:=⟨[7],[(7,qc [[.c (.p (.sl Vq11))],qn 59]),(9,qc [[.c (.p (.sl Vq11))],qn 4,qi,qn 54]),(17,qc [[.c (.p (.sl Vq11))],qn 5,qi,qn 53]),(22,qc [[.c (.p (.sl Vq11))],qn 5,qi,qi,qn 52])],[.c (.sl Vq11),.c db],[.c (.p di)],qc [qn 4,qi,qn 55],[],[],0⟩
def Z80:=mkC Zvo prog 144 F144
theorem Ysc:Z80.ok prog 144:=mkO trivial
def X6 (a0:Vy7)(a1:Bool):Option (Int×Unit):=Z80.fn (a0,a1,())
def Zhy (n:Nat)(x0:Vy7):Option (Int×Unit):=itr Zvo prog 144 F144 n 7 (x0,())
def Zaj (n:Nat)(x0:Vy7)(x1:Int):Option (Int×Unit):=itr Zvo prog 144 F144 n 9 (x0,x1,())
def Xq (n:Nat)(x0:Vy7)(x1:Int):Option (Int×Unit):=itr Zvo prog 144 F144 n 17 (x0,x1,())
def Qt (n:Nat)(x0:Vy7)(x1 x2:Int):Option (Int×Unit):=itr Zvo prog 144 F144 n 22 (x0,x1,x2,())
theorem Zsq a0 a1:Eq (X6 a0 a1) <| bif ofNat a0.length>4 then some (4,()) else bif ofNat a0.length==0 then some (8,()) else bif a1 then bif ofNat a0.length !=2 then some (8,()) else Zaj fuel a0 0 else Zaj fuel a0 0:=mkE
theorem Zq8 n x0:Eq (Zhy (n+1) x0) <| Xq n x0 0:=mkI
theorem Zhz n x0 x1:Eq (Zaj (n+1) x0 x1) <| bif x1<ofNat x0.length then bif 0<=x1 then match x0[x1.toNat]? with | none=>none | some e0=>bif e0.1<0 then some (8,()) else bif 0<=x1 then match x0[x1.toNat]? with | none=>none | some e1=>bif e1.1>3 then some (8,()) else Zaj n x0 (wrap .i64 (x1+1)) else none else none else Zhy n x0:=mkI
theorem Zg3 n x0 x1:Eq (Xq (n+1) x0 x1) <| bif x1<ofNat x0.length then Qt n x0 x1 0 else some (0,()):=mkI
theorem Zg4 n x0 x1 x2:Eq (Qt (n+1) x0 x1 x2) <| bif x2<x1 then bif 0<=x2 then match x0[x2.toNat]? with | none=>none | some e0=>bif 0<=x1 then match x0[x1.toNat]? with | none=>none | some e1=>bif e0.1==e1.1 then some (43,()) else Qt n x0 x1 (wrap .i64 (x2+1)) else none else none else Xq n x0 (wrap .i64 (x1+1)):=mkI
def Ypl:Tb:=[]
def F145:TFun:=⟨[],[],[.a [.int .u8,.int .i64,.int .i64]],[.c (.p db)],qc [qn 2,qb,qn 42],[],[],0⟩
def Z81:=mkC Ypl prog 145 F145
theorem Ysd:Z81.ok prog 145:=mkO trivial
def Zgk (a0:(Int×Int×Int×Unit)):Option (Bool×Unit):=Z81.fn (a0,())
theorem Z2a a0:Eq (Zgk a0) <| let k1:=some (false,());bif a0.2.1<1 then k1 else bif a0.2.1>1073741824 then k1 else bif a0.1==2 then bif a0.2.2.1>=1 then bif a0.2.2.1<=a0.2.1 then some ((decide (a0.2.1<=wrap .i64 (16*a0.2.2.1)),())) else k1 else k1 else bif a0.1==1 then some (a0.2.2.1==0,()) else bif a0.1==3 then some (a0.2.2.1==0,()) else k1:=mkE
def Yse:Tb:=[(143,Z19),(144,Z80),(145,Z81)]
def F97:TFun:=⟨[],[],[.a Vq10],[.c (.p di)],qc [qn 2,qi,qn 77],[],[],0⟩
def Ygz:=mkC Yse prog 97 F97
theorem ok97:Ygz.ok prog 97:=mkO ⟨Ynd,Ysc,Ysd,trivial⟩
def Zg5 (a0:Vy8):Option (Int×Unit):=Ygz.fn (a0,())
theorem Zxo a0:Eq (Zg5 a0) <| bif a0.1<1 then some (8,()) else bif a0.1>4 then some (8,()) else bif a0.2.2.2.2.2.2.2.2.2.1<1 then some (8,()) else bif a0.2.2.2.2.2.2.2.2.2.1>2 then some (8,()) else let k1:Option (Int×Unit):=let k4:Option (Int×Unit):=match X6 a0.2.2.1 a0.2.2.2.1 with | none=>none | some e1=>bif e1.1 !=0 then match X6 a0.2.2.1 a0.2.2.2.1 with | none=>none | some e2=>some (e2.1,()) else match Zgk (a0.2.2.2.2.2.1,a0.2.2.2.2.2.2.1,a0.2.2.2.2.2.2.2.1,()) with | none=>none | some e2=>bif !e2.1 then some (8,()) else bif a0.2.2.2.1 then bif a0.2.2.2.2.2.1 !=1 then some (8,()) else some (0,()) else some (0,());let k5:Option (Int×Unit):=bif a0.2.2.2.1 then bif a0.2.2.2.2.2.1 !=1 then some (8,()) else some (0,()) else some (0,());bif a0.1 !=1 then match X5 a0.2.1 with | none=>none | some e0=>bif e0.1 !=0 then match X5 a0.2.1 with | none=>none | some e1=>some (e1.1,()) else bif ofNat a0.2.2.2.2.1.length>0 then match X5 a0.2.2.2.2.1 with | none=>none | some e1=>bif e1.1 !=0 then match X5 a0.2.2.2.2.1 with | none=>none | some e2=>some (e2.1,()) else match X6 a0.2.2.1 a0.2.2.2.1 with | none=>none | some e2=>bif e2.1 !=0 then match X6 a0.2.2.1 a0.2.2.2.1 with | none=>none | some e3=>some (e3.1,()) else match Zgk (a0.2.2.2.2.2.1,a0.2.2.2.2.2.2.1,a0.2.2.2.2.2.2.2.1,()) with | none=>none | some e3=>bif !e3.1 then some (8,()) else k5 else k4 else bif ofNat a0.2.2.2.2.1.length>0 then match X5 a0.2.2.2.2.1 with | none=>none | some e0=>bif e0.1 !=0 then match X5 a0.2.2.2.2.1 with | none=>none | some e1=>some (e1.1,()) else k4 else match X6 a0.2.2.1 a0.2.2.2.1 with | none=>none | some e0=>bif e0.1 !=0 then match X6 a0.2.2.1 a0.2.2.2.1 with | none=>none | some e1=>some (e1.1,()) else match Zgk (a0.2.2.2.2.2.1,a0.2.2.2.2.2.2.1,a0.2.2.2.2.2.2.2.1,()) with | none=>none | some e1=>bif !e1.1 then some (8,()) else k5;bif a0.1==1 then bif ofNat a0.2.1.length>0 then some (8,()) else k1 else k1:=mkE
def Ypm:Tb:=[]
def F230:TFun:=⟨[],[],[.c (.int .u8)],[.c (.p db)],qc [qn 2,qb,qn 6],[],[],0⟩
def Z2b:=mkC Ypm prog 230 F230
theorem Yne:Z2b.ok prog 230:=mkO trivial
def Zex (a0:Int):Option (Bool×Unit):=Z2b.fn (a0,())
theorem Zxp a0:Eq (Zex a0) <| bif a0==6 then some (true,()) else some (decide (a0>=12),()):=mkE
def Ypn:Tb:=[(230,Z2b)]
def F264:TFun:=⟨[],[],[.c (.sl Vq5),.c di],[.c (.p db)],qc [qn 4,qb,qn 62],[],[],0⟩
def Z82:=mkC Ypn prog 264 F264
theorem Ysf:Z82.ok prog 264:=mkO ⟨Yne,trivial⟩
def Zoi (a0:(List Vy2))(a1:Int):Option (Bool×Unit):=Z82.fn (a0,a1,())
theorem Z2c a0 a1:Eq (Zoi a0 a1) <| bif 0<=a1 then match a0[a1.toNat]? with | none=>none | some e0=>bif 0<=e0.2.2.1 then match a0[e0.2.2.1.toNat]? with | none=>none | some e1=>match Zex e1.1 with | none=>none | some e2=>bif 0<=e0.2.2.2.1 then match a0[e0.2.2.2.1.toNat]? with | none=>none | some e3=>match Zex e3.1 with | none=>none | some e4=>bif e0.1<=4 then some (true,()) else bif e0.1==5 then some (!e2.1,()) else bif e0.1==6 then some (e2.1,()) else bif e0.1==16 then some (e2.1==e4.1,()) else bif e0.1==17 then some (e2.1==e4.1,()) else bif e0.1>=18 then bif e2.1 then some (e4.1,()) else some (false,()) else bif !e2.1 then some (!e4.1,()) else some (false,()) else none else none else none:=mkE
def Yg0:Tb:=[(264,Z82)]
def F229:TFun:=⟨[],[(3,qc [[.c (.p (.sl Vq5))],qn 2,qi,qn 13])],[.c (.sl Vq5)],[.c (.p di)],qc [qn 2,qi,qn 14],[],[],0⟩
def Z83:=mkC Yg0 prog 229 F229
theorem Ysg:Z83.ok prog 229:=mkO ⟨Ysf,trivial⟩
def Zlk (a0:(List Vy2)):Option (Int×Unit):=Z83.fn (a0,())
def Zda (n:Nat)(x0:(List Vy2))(x1:Int):Option (Int×Unit):=itr Yg0 prog 229 F229 n 3 (x0,x1,())
theorem Zxq a0:Eq (Zlk a0) <| Zda fuel a0 0:=mkE
theorem Zll n x0 x1:Eq (Zda (n+1) x0 x1) <| bif x1<ofNat x0.length then match Zoi x0 x1 with | none=>none | some e0=>bif !e0.1 then some (x1,()) else Zda n x0 (wrap .i64 (x1+1)) else some (ofNat x0.length,()):=mkI
def Ypo:Tb:=[(143,Z19),(229,Z83),(230,Z2b)]
def F192:TFun:=⟨[],[],[.c (.sl Vq5)],[.c (.p db),.c (.p di),.c (.p di)],qc [qn 2,qb,qi,qi,qn 24],[],[],0⟩
def Z84:=mkC Ypo prog 192 F192
theorem Ysh:Z84.ok prog 192:=mkO ⟨Ynd,Ysg,Yne,trivial⟩
def Zvp (a0:(List Vy2)):Option (Bool×Int×Int×Unit):=Z84.fn (a0,())
theorem Z85 a0:Eq (Zvp a0) <| match X5 a0 with | none=>none | some e0=>bif e0.1 !=0 then match X5 a0 with | none=>none | some e1=>some (false,0,e1.1,()) else match Zlk a0 with | none=>none | some e1=>bif e1.1<ofNat a0.length then some (false,e1.1,42,()) else bif 0<=wrap .i64 (ofNat a0.length - 1) then match a0[toNat (wrap .i64 (ofNat a0.length - 1))]? with | none=>none | some e2=>match Zex e2.1 with | none=>none | some e3=>some (e3.1,wrap .i64 (ofNat a0.length - 1),0,()) else none:=mkE
def Ypp:Tb:=[(192,Z84)]
def F146:TFun:=⟨[],[],[.c (.sl Vq5),.c db],[.c (.p di),.c (.p di)],qc [qn 4,qi,qi,qn 19],[],[],0⟩
def Z86:=mkC Ypp prog 146 F146
theorem Ysi:Z86.ok prog 146:=mkO ⟨Ysh,trivial⟩
def Zit (a0:(List Vy2))(a1:Bool):Option (Int×Int×Unit):=Z86.fn (a0,a1,())
theorem Z2d a0 a1:Eq (Zit a0 a1) <| match Zvp a0 with | none=>none | some e0=>bif e0.2.2.1==0 then bif !e0.1==a1 then some (e0.2.1,42,()) else some e0.2 else some e0.2:=mkE
def Ynf:Tb:=[(146,Z86)]
def F98:TFun:=⟨[1],[(1,qc [qn 1,[.boxN 27 10 [.any,.any,.any,.any,.p (.sl Vq5),.any,.any,.any,.any,.any]],qn 44])],[.a Vq10],[.c (.p di),.c (.p di)],qc [qn 2,qi,qi,qn 42],[],[],0⟩
def Yg1:=mkC Ynf prog 98 F98
theorem ok98:Yg1.ok prog 98:=mkO ⟨Ysi,trivial⟩
def Zsb (a0:Vy8):Option (Int×Int×Unit):=Yg1.fn (a0,())
def Zbi (n:Nat)(x0:(List Vy2)):Option (Int×Int×Unit):=itr Ynf prog 98 F98 n 1 (x0,())
theorem Zxr a0:Eq (Zsb a0) <| bif ofNat a0.2.1.length>0 then match Zit a0.2.1 false with | none=>none | some e0=>bif e0.2.1 !=0 then bif 0<=e0.1 then match a0.2.1[e0.1.toNat]? with | none=>none | some e1=>some (e1.2.2.2.2.1,e0.2.1,()) else none else Zbi fuel a0.2.2.2.2.1 else Zbi fuel a0.2.2.2.2.1:=mkE
theorem Zvq n x0:Eq (Zbi (n+1) x0) <| bif ofNat x0.length>0 then match Zit x0 true with | none=>none | some e0=>bif e0.2.1 !=0 then bif 0<=e0.1 then match x0[e0.1.toNat]? with | none=>none | some e1=>some (e1.2.2.2.2.1,e0.2.1,()) else none else some (0,0,()) else some (0,0,()):=mkI
def Ysj:Tb:=[(97,Ygz),(98,Yg1)]
def F55:TFun:=⟨[],[],[.a Vq10],[.c (.p di),.c (.p di)],qc [qn 2,qi,qi,qn 9],[],[],0⟩
def Yg2:=mkC Ysj prog 55 F55
theorem ok55:Yg2.ok prog 55:=mkO ⟨ok97,ok98,trivial⟩
def Zlm (a0:Vy8):Option (Int×Int×Unit):=Yg2.fn (a0,())
theorem Zxs a0:Eq (Zlm a0) <| match Zg5 a0 with | none=>none | some e0=>bif e0.1 !=0 then match Zg5 a0 with | none=>none | some e1=>some (0,e1.1,()) else match Zsb a0 with | none=>none | some e1=>some e1:=mkE
end
end Tg
