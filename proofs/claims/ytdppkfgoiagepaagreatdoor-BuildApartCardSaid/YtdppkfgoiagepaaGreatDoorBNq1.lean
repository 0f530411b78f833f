import Derived.Test.YtdppkfgoiagepaaGreatDoorBQz1
import Derived.Test.YtdppkfgoiagepaaGreatDoorBVb1
import Derived.Test.YtdppkfgoiagepaaGreatDoorBVb4
/- Functions of the code, told plainly and checked by the kernel. -/
set_option linter.unusedVariables false
set_option linter.unusedSimpArgs false
set_option maxRecDepth 100000
namespace Tg
open Go.Abs hiding fuel
open Go.Proofs.Tryz (prog)
open Int (ofNat toNat)
open Go.IntKind (wrap)
noncomputable def tab7:Tb:=[]
def F7:TFun:=⟨[],[(6,qc [[.c (.p (.sl [.sl Nq3]))],[.c (.p (.sl [.sl Nq3]))],qn 3,qi,qn 47]),(14,qc [[.c (.p (.sl [.sl Nq3]))],[.c (.p (.sl [.sl Nq3]))],qn 3,qi,qi,qn 46])],[.c (.sl [.sl Nq3]),.c (.sl [.sl Nq3])],[.c (.p db)],qc [qn 4,qb,qn 48],[],[],0⟩
noncomputable def con7:=mkC tab7 prog 7 F7
theorem ok7:con7.ok prog 7:=mkO trivial (by kernel_rfl)
noncomputable def Zag (a0 a1:(List (List (Bool×Int×Int×Int×Int×Unit)×Unit))):Option (Bool×Unit):=con7.fn (a0,a1,())
noncomputable def Xk (n:Nat)(x0 x1:(List (List (Bool×Int×Int×Int×Int×Unit)×Unit)))(x2:Int):Option (Bool×Unit):=itr tab7 prog 7 F7 n 6 (x0,x1,x2,())
noncomputable def X9 (n:Nat)(x0 x1:(List (List (Bool×Int×Int×Int×Int×Unit)×Unit)))(x2 x3:Int):Option (Bool×Unit):=itr tab7 prog 7 F7 n 14 (x0,x1,x2,x3,())
theorem Zlh a0 a1:Eq (Zag a0 a1) <| bif ofNat a0.length !=ofNat a1.length then some (false,()) else Xk fuel a0 a1 0:=mkE (by kernel_rfl)
theorem Zed n x0 x1 x2:Eq (Xk (n+1) x0 x1 x2) <| bif x2<ofNat x0.length then ix x0 x2 fun e0=>ix x1 x2 fun e1=>bif ofNat e0.1.length !=ofNat e1.1.length then some (false,()) else X9 n x0 x1 x2 0 else some (true,()):=mkI (by kernel_rfl)
theorem Zcv n x0 x1 x2 x3:Eq (X9 (n+1) x0 x1 x2 x3) <| ix x0 x2 fun e0=>bif x3<ofNat e0.1.length then ix x0 x2 fun e1=>ix e1.1 x3 fun e2=>ix x1 x2 fun e3=>ix e3.1 x3 fun e4=>bif !(e2.1==e4.1&&(e2.2.1==e4.2.1&&(e2.2.2.1==e4.2.2.1&&(e2.2.2.2.1==e4.2.2.2.1&&(e2.2.2.2.2.1==e4.2.2.2.2.1&&true))))) then some (false,()) else X9 n x0 x1 x2 (wrap .i64 (x3+1)) else Xk n x0 x1 (wrap .i64 (x2+1)):=mkI (by kernel_rfl)
end Tg

/- Functions of the code, told plainly and checked by the kernel. -/
namespace Tg
open Go.Abs hiding fuel
open Go.Proofs.Tryz (prog)
open Int (ofNat toNat)
open Go.IntKind (wrap)
noncomputable def Yd0:Tb:=[]
def F65:TFun:=⟨[],[],[.c (.sl Nq4)],[.c (.p db)],qc [qn 2,qb,qn 3],[],[],0⟩
noncomputable def Z7b:=mkC Yd0 prog 65 F65
theorem ok65:Z7b.ok prog 65:=mkO trivial (by kernel_rfl)
noncomputable def Zia (a0:(List (Int×Int×Int×Int×Int×Unit))):Option (Bool×Unit):=Z7b.fn (a0,())
theorem Zad a0:Eq (Zia a0) <| some (decide (ofNat a0.length>70),()):=mkE (by kernel_rfl)
noncomputable def Yd1:Tb:=[(65,Z7b)]
def F37:TFun:=⟨[],[],[.a Nq2],[.c (.p db)],qc [qn 2,qb,qn 14],[],[],0⟩
noncomputable def Z7c:=mkC Yd1 prog 37 F37
theorem ok37:Z7c.ok prog 37:=mkO ⟨ok65,trivial⟩ (by kernel_rfl)
noncomputable def Zib (a0:Ny1):Option (Bool×Unit):=Z7c.fn (a0,())
theorem Zrv a0:Eq (Zib a0) <| (Zia a0.2.1).bind fun e0=>bif e0.1 then some (true,()) else (Zia a0.2.2.2.2.1).bind fun e1=>bif e1.1 then some (true,()) else some (decide (ofNat a0.2.2.1.length>10),()):=mkE (by kernel_rfl)
noncomputable def Z99:Tb:=[(37,Z7c)]
def F11:TFun:=⟨[],[(7,qc [qn 1,[.c (.p (.sl [.sl Nq3]))],qn 3,qi,qn 19])],[.a Nq2,.c (.sl [.sl Nq3])],[.c (.p db)],qc [qn 4,qb,qn 20],[],[],0⟩
noncomputable def Z7d:=mkC Z99 prog 11 F11
theorem ok11:Z7d.ok prog 11:=mkO ⟨ok37,trivial⟩ (by kernel_rfl)
noncomputable def Zic (a0:Ny1)(a1:(List (List (Bool×Int×Int×Int×Int×Unit)×Unit))):Option (Bool×Unit):=Z7d.fn (a0,a1,())
noncomputable def Zbe (n:Nat)(x0:(List (List (Bool×Int×Int×Int×Int×Unit)×Unit)))(x1:Int):Option (Bool×Unit):=itr Z99 prog 11 F11 n 7 (x0,x1,())
theorem Zrw a0 a1:Eq (Zic a0 a1) <| (Zib a0).bind fun e0=>bif e0.1 then some (true,()) else bif ofNat a1.length>6 then some (true,()) else Zbe fuel a1 0:=mkE (by kernel_rfl)
theorem Zid n x0 x1:Eq (Zbe (n+1) x0 x1) <| bif x1<ofNat x0.length then ix x0 x1 fun e0=>bif ofNat e0.1.length>70 then some (true,()) else Zbe n x0 (wrap .i64 (x1+1)) else some (false,()):=mkI (by kernel_rfl)
noncomputable def Yd2:Tb:=[]
def F98:TFun:=⟨[],[],[.c di,.c di],[.c (.p di)],qc [qn 4,qi,qn 12],[],[],0⟩
noncomputable def Z7e:=mkC Yd2 prog 98 F98
theorem ok98:Z7e.ok prog 98:=mkO trivial (by kernel_rfl)
noncomputable def Zey (a0 a1:Int):Option (Int×Unit):=Z7e.fn (a0,a1,())
theorem Zrx a0 a1:Eq (Zey a0 a1) <| bif a1<1 then some (2,()) else bif a1>1073741824 then some (2,()) else bif a0<(-1099511627776) then some (16,()) else bif a0>1099511627776 then some (16,()) else some (0,()):=mkE (by kernel_rfl)
noncomputable def Yd3:Tb:=[(98,Z7e)]
def F68:TFun:=⟨[],[],[.a Nq3],[.c (.p db)],qc [qn 2,qb,qn 27],[],[],0⟩
noncomputable def Z7f:=mkC Yd3 prog 68 F68
theorem ok68:Z7f.ok prog 68:=mkO ⟨ok98,trivial⟩ (by kernel_rfl)
noncomputable def Zie (a0:(Bool×Int×Int×Int×Int×Unit)):Option (Bool×Unit):=Z7f.fn (a0,())
theorem Zry a0:Eq (Zie a0) <| bif a0.1 then bif a0.2.2.1==0&&(a0.2.2.2.1==0&&(a0.2.2.2.2.1==0&&true)) then bif a0.2.1==9223372036854775807 then some (true,()) else (Zey a0.2.1 1).bind fun e0=>some (e0.1==0,()) else some (false,()) else bif a0.2.1==0 then (Zey a0.2.2.2.1 1).bind fun e0=>some (e0.1==0,()) else some (false,()):=mkE (by kernel_rfl)
noncomputable def Yaa:Tb:=[(68,Z7f)]
def F39:TFun:=⟨[],[(6,qc [[.c (.p (.sl Nq3))],qn 2,qi,qn 15])],[.c (.sl Nq3)],[.c (.p di)],qc [qn 2,qi,qn 16],[],[],0⟩
noncomputable def Z7g:=mkC Yaa prog 39 F39
theorem ok39:Z7g.ok prog 39:=mkO ⟨ok68,trivial⟩ (by kernel_rfl)
noncomputable def Zif (a0:(List (Bool×Int×Int×Int×Int×Unit))):Option (Int×Unit):=Z7g.fn (a0,())
noncomputable def Zbf (n:Nat)(x0:(List (Bool×Int×Int×Int×Int×Unit)))(x1:Int):Option (Int×Unit):=itr Yaa prog 39 F39 n 6 (x0,x1,())
theorem Zrz a0:Eq (Zif a0) <| bif ofNat a0.length>60 then some (4,()) else Zbf fuel a0 0:=mkE (by kernel_rfl)
theorem Zig n x0 x1:Eq (Zbf (n+1) x0 x1) <| bif x1<ofNat x0.length then ix x0 x1 fun e0=>(Zie e0).bind fun e1=>bif !e1.1 then some (8,()) else Zbf n x0 (wrap .i64 (x1+1)) else some (0,()):=mkI (by kernel_rfl)
noncomputable def Z7h:Tb:=[(38,Z52),(39,Z7g)]
def F12:TFun:=⟨[9],[(9,qc [qn 2,qi,qi,qn 51]),(11,qc [qn 1,[.c (.p (.sl [.sl Nq3]))],qi,qi,qn 7,qi,qn 43])],[.a Nq2,.c (.sl [.sl Nq3]),.c di,.c di],[.c (.p di)],qc [qn 8,qi,qn 46],[],[],0⟩
noncomputable def Z7i:=mkC Z7h prog 12 F12
theorem ok12:Z7i.ok prog 12:=mkO ⟨ok38,ok39,trivial⟩ (by kernel_rfl)
noncomputable def Zih (a0:Ny1)(a1:(List (List (Bool×Int×Int×Int×Int×Unit)×Unit)))(a2 a3:Int):Option (Int×Unit):=Z7i.fn (a0,a1,a2,a3,())
noncomputable def Zee (n:Nat)(x0 x1:Int):Option (Int×Unit):=itr Z7h prog 12 F12 n 9 (x0,x1,())
noncomputable def Zah (n:Nat)(x0:(List (List (Bool×Int×Int×Int×Int×Unit)×Unit)))(x1 x2 x3:Int):Option (Int×Unit):=itr Z7h prog 12 F12 n 11 (x0,x1,x2,x3,())
theorem Zr0 a0 a1 a2 a3:Eq (Zih a0 a1 a2 a3) <| (Zh0 a0).bind fun e0=>bif e0.2.1 !=0 then some (e0.2.1,()) else bif ofNat a1.length !=ofNat a0.2.2.1.length then some (2,()) else Zah fuel a1 a2 a3 0:=mkE (by kernel_rfl)
theorem Zqt n x0 x1:Eq (Zee (n+1) x0 x1) <| bif x0<1 then some (2,()) else bif x0>3 then some (2,()) else bif x1<1 then some (2,()) else bif x1>8 then some (2,()) else some (0,()):=mkI (by kernel_rfl)
theorem Zgw n x0 x1 x2 x3:Eq (Zah (n+1) x0 x1 x2 x3) <| bif x3<ofNat x0.length then ix x0 x3 fun e0=>(Zif e0.1).bind fun e1=>bif e1.1 !=0 then some (e1.1,()) else Zah n x0 x1 x2 (wrap .i64 (x3+1)) else Zee n x1 x2:=mkI (by kernel_rfl)
noncomputable def Yab:Tb:=[]
def F54:TFun:=⟨[],[(6,qc [[.c (.p (.sl Nq4))],[.c (.p (.sl Nq4))],qn 3,qi,qn 26])],[.c (.sl Nq4),.c (.sl Nq4)],[.c (.p db)],qc [qn 4,qb,qn 27],[],[],0⟩
noncomputable def Z7j:=mkC Yab prog 54 F54
theorem ok54:Z7j.ok prog 54:=mkO trivial (by kernel_rfl)
noncomputable def Zez (a0 a1:(List (Int×Int×Int×Int×Int×Unit))):Option (Bool×Unit):=Z7j.fn (a0,a1,())
noncomputable def Zbg (n:Nat)(x0 x1:(List (Int×Int×Int×Int×Int×Unit)))(x2:Int):Option (Bool×Unit):=itr Yab prog 54 F54 n 6 (x0,x1,x2,())
theorem Zr1 a0 a1:Eq (Zez a0 a1) <| bif ofNat a0.length !=ofNat a1.length then some (false,()) else Zbg fuel a0 a1 0:=mkE (by kernel_rfl)
theorem Zii n x0 x1 x2:Eq (Zbg (n+1) x0 x1 x2) <| bif x2<ofNat x0.length then ix x0 x2 fun e0=>ix x1 x2 fun e1=>bif !(e0.1==e1.1&&(e0.2.1==e1.2.1&&(e0.2.2.1==e1.2.2.1&&(e0.2.2.2.1==e1.2.2.2.1&&true)))) then some (false,()) else Zbg n x0 x1 (wrap .i64 (x2+1)) else some (true,()):=mkI (by kernel_rfl)
noncomputable def Yac:Tb:=[]
def F55:TFun:=⟨[],[(6,qc [[.c (.p (.sl [.int .i64]))],[.c (.p (.sl [.int .i64]))],qn 3,qi,qn 20])],[.c (.sl [.int .i64]),.c (.sl [.int .i64])],[.c (.p db)],qc [qn 4,qb,qn 21],[],[],0⟩
noncomputable def Z7k:=mkC Yac prog 55 F55
theorem ok55:Z7k.ok prog 55:=mkO trivial (by kernel_rfl)
noncomputable def Zbh (a0 a1:(List (Int×Unit))):Option (Bool×Unit):=Z7k.fn (a0,a1,())
noncomputable def X0 (n:Nat)(x0 x1:(List (Int×Unit)))(x2:Int):Option (Bool×Unit):=itr Yac prog 55 F55 n 6 (x0,x1,x2,())
theorem Ziy a0 a1:Eq (Zbh a0 a1) <| bif ofNat a0.length !=ofNat a1.length then some (false,()) else X0 fuel a0 a1 0:=mkE (by kernel_rfl)
theorem Zcl n x0 x1 x2:Eq (X0 (n+1) x0 x1 x2) <| bif x2<ofNat x0.length then ix x0 x2 fun e0=>ix x1 x2 fun e1=>bif e0.1 !=e1.1 then some (false,()) else X0 n x0 x1 (wrap .i64 (x2+1)) else some (true,()):=mkI (by kernel_rfl)
noncomputable def Yd4:Tb:=[(54,Z7j),(55,Z7k)]
def F30:TFun:=⟨[],[],[.a Nq2,.a Nq2],[.c (.p db)],qc [qn 4,qb,qn 54],[],[],0⟩
noncomputable def Z7l:=mkC Yd4 prog 30 F30
theorem ok30:Z7l.ok prog 30:=mkO ⟨ok54,ok55,trivial⟩ (by kernel_rfl)
noncomputable def Ze0 (a0 a1:Ny1):Option (Bool×Unit):=Z7l.fn (a0,a1,())
theorem Zr2 a0 a1:Eq (Ze0 a0 a1) <| let k1:=some (false,());bif a0.1==a1.1 then (Zez a0.2.1 a1.2.1).bind fun e0=>bif e0.1 then (Zbh a0.2.2.1 a1.2.2.1).bind fun e1=>bif e1.1 then bif a0.2.2.2.1==a1.2.2.2.1 then (Zez a0.2.2.2.2.1 a1.2.2.2.2.1).bind fun e2=>bif e2.1 then bif a0.2.2.2.2.2.1==a1.2.2.2.2.2.1&&(a0.2.2.2.2.2.2.1==a1.2.2.2.2.2.2.1&&(a0.2.2.2.2.2.2.2.1==a1.2.2.2.2.2.2.2.1&&true)) then bif a0.2.2.2.2.2.2.2.2.1==a1.2.2.2.2.2.2.2.2.1 then some (a0.2.2.2.2.2.2.2.2.2.1==a1.2.2.2.2.2.2.2.2.2.1,()) else k1 else k1 else k1 else k1 else k1 else k1 else k1:=mkE (by kernel_rfl)
noncomputable def tab8:Tb:=[(30,Z7l),(31,Z62),(32,Z5s)]
def F8:TFun:=⟨[],[],[.a Nq1,.a Nq1],[.c (.p db)],qc [qn 4,qb,qn 17],[],[],0⟩
noncomputable def con8:=mkC tab8 prog 8 F8
theorem ok8:con8.ok prog 8:=mkO ⟨ok30,ok31,ok32,trivial⟩ (by kernel_rfl)
noncomputable def Zef (a0 a1:(Int×List (Int×Int×Int×Int×Int×Unit)×List (Int×Unit)×Bool×List (Int×Int×Int×Int×Int×Unit)×Int×Int×Int×Bool×Int×List (Int×Int×Unit)×List (Int×Int×Int×Int×Int×Unit)×List (Int×Int×Int×List (Int×Int×Int×Int×Int×Int×Int×Int×Int×Int×Int×Unit)×List (Int×Unit)×List (Int×Int×Int×Int×Int×Int×Int×Int×Int×Int×Int×Unit)×List (Bool×Int×Int×Int×Int×Unit)×List (Int×Int×Int×Int×Int×Unit)×List (Int×Int×Int×Unit)×Unit)×List (Int×List (Int×Int×Int×Int×Int×Int×Int×Int×Int×Int×Unit)×Unit)×Unit)):Option (Bool×Unit):=con8.fn (a0,a1,())
theorem Zvy a0 a1:Eq (Zef a0 a1) <| (Ze0 (a0.1,a0.2.1,a0.2.2.1,a0.2.2.2.1,a0.2.2.2.2.1,a0.2.2.2.2.2.1,a0.2.2.2.2.2.2.1,a0.2.2.2.2.2.2.2.1,a0.2.2.2.2.2.2.2.2.1,a0.2.2.2.2.2.2.2.2.2.1,()) (a1.1,a1.2.1,a1.2.2.1,a1.2.2.2.1,a1.2.2.2.2.1,a1.2.2.2.2.2.1,a1.2.2.2.2.2.2.1,a1.2.2.2.2.2.2.2.1,a1.2.2.2.2.2.2.2.2.1,a1.2.2.2.2.2.2.2.2.2.1,())).bind fun e0=>bif e0.1 then (Zj7 (a0.2.2.2.2.2.2.2.2.2.2.1,a0.2.2.2.2.2.2.2.2.2.2.2.1,()) (a1.2.2.2.2.2.2.2.2.2.2.1,a1.2.2.2.2.2.2.2.2.2.2.2.1,())).bind fun e1=>bif e1.1 then (Zj1 a0 a1).bind fun e2=>some (e2.1,()) else some (false,()) else some (false,()):=mkE (by kernel_rfl)
noncomputable def tab5:Tb:=[(11,Z7d),(12,Z7i)]
def F5:TFun:=⟨[],[],[.a Nq2,.c (.sl [.sl Nq3]),.c di,.c di],[.c (.p db)],qc [qn 8,qb,qn 12],[],[],0⟩
noncomputable def con5:=mkC tab5 prog 5 F5
theorem ok5:con5.ok prog 5:=mkO ⟨ok11,ok12,trivial⟩ (by kernel_rfl)
noncomputable def Zix (a0:Ny1)(a1:(List (List (Bool×Int×Int×Int×Int×Unit)×Unit)))(a2 a3:Int):Option (Bool×Unit):=con5.fn (a0,a1,a2,a3,())
theorem Zye a0 a1 a2 a3:Eq (Zix a0 a1 a2 a3) <| (Zic a0 a1).bind fun e0=>bif !e0.1 then (Zih a0 a1 a2 a3).bind fun e1=>some (e1.1==0,()) else some (false,()):=mkE (by kernel_rfl)
noncomputable def tab3:Tb:=[(4,con4),(5,con5),(6,Z96),(7,con7),(8,con8)]
def F3:TFun:=⟨[],[],[.a Nq2,.c (.sl [.sl Nq3]),.c (.sl [.sl Nq3]),.c di,.c di,.c di,.c di],[.c (.p db)],qc [qn 14,qb,qn 76],[],[],0⟩
noncomputable def con3:=mkC tab3 prog 3 F3
theorem ok3:con3.ok prog 3:=mkO ⟨ok4,ok5,ok6p,ok7,ok8,trivial⟩ (by kernel_rfl)
noncomputable def Zfo (a0:Ny1)(a1 a2:(List (List (Bool×Int×Int×Int×Int×Unit)×Unit)))(a3 a4 a5 a6:Int):Option (Bool×Unit):=con3.fn (a0,a1,a2,a3,a4,a5,a6,())
theorem Zj8 a0 a1 a2 a3 a4 a5 a6:Eq (Zfo a0 a1 a2 a3 a4 a5 a6) <| (Zix a0 a1 a3 a5).bind fun e0=>bif !e0.1 then some (true,()) else (Zix a0 a2 a4 a6).bind fun e1=>bif !e1.1 then some (true,()) else (Zar a0 a1 a3 a5).bind fun e2=>(Zar a0 a2 a4 a6).bind fun e3=>(Zag a1 a2).bind fun e4=>bif e4.1 then let k1:=bif e2.2.1==0 then bif e3.2.1==0 then (Zef e2.1 e3.1).bind fun e5=>some (e5.1==(a5==a6),()) else some (false,()) else some (false,());bif a3==a4 then k1 else bif !a0.2.2.2.2.2.2.2.2.1 then k1 else bif e2.2.1==0 then bif e3.2.1==0 then (Zef e2.1 e3.1).bind fun e5=>some (e5.1==false,()) else some (false,()) else some (false,()) else bif e2.2.1==0 then bif e3.2.1==0 then (Zef e2.1 e3.1).bind fun e5=>some (e5.1==false,()) else some (false,()) else some (false,()):=mkE (by kernel_rfl)
end Tg
