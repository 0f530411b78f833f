import Derived.Test.YtfnhchmemplhaaaGreatProg
import Derived.Test.YtfnhchmemplhaaaGreatBVT
/- Functions of the code, told plainly and checked by the kernel. -/
set_option linter.unusedVariables false
set_option linter.unusedSimpArgs false
set_option maxRecDepth 100000
namespace Tg
open Go.Abs hiding fuel
open Go.Proofs.Tryz (prog)
open Int (ofNat toNat)
open Go.IntKind (wrap)
noncomputable def Yil:Tb:=[]
def F128:TFun:=⟨[],[],[.c di,.c di,.c di],[.c (.p db)],qc [qn 6,qb,qn 8],[],[],0⟩
noncomputable def Z4s:=mkC Yil prog 128 F128
theorem Yk1:Z4s.ok prog 128:=mkO trivial (by kernel_rfl)
noncomputable def Qu (a0 a1 a2:Int):Option (Bool×Unit):=Z4s.fn (a0,a1,a2,())
theorem Zrg a0 a1 a2:Eq (Qu a0 a1 a2) <| bif a0≥a1 then some (decide (a0≤a2),()) else some (false,()):=mkE (by kernel_rfl)
noncomputable def Yk2:Tb:=[(128,Z4s)]
def F99:TFun:=⟨[],[],[.c (.int .u8),.c di,.c di],[.c (.p db)],qc [qn 6,qb,qn 59],[],[],0⟩
noncomputable def Ybc:=mkC Yk2 prog 99 F99
theorem ok99:Ybc.ok prog 99:=mkO ⟨Yk1,trivial⟩ (by kernel_rfl)
noncomputable def Zns (a0 a1 a2:Int):Option (Bool×Unit):=Ybc.fn (a0,a1,a2,())
theorem Zz1 a0 a1 a2:Eq (Zns a0 a1 a2) <| let k1:=some (false,());bif a0==1 then bif a1==0 then some (a2==1,()) else k1 else bif a0==2 then bif a1==1 then match Qu a2 1 2 with | none=>none | some e0=>some (e0.1,()) else k1 else bif a0==3 then bif a1==1 then match Qu a2 1 3 with | none=>none | some e0=>some (e0.1,()) else k1 else bif a0==4 then match Qu a1 1 4 with | none=>none | some e0=>bif e0.1 then some (a2==1,()) else k1 else bif a0==5 then bif a1==2 then some (a2==1,()) else k1 else bif a0==6 then match Qu a1 1 3 with | none=>none | some e0=>bif e0.1 then some (a2==0,()) else k1 else bif a0==7 then match Qu a1 1 4 with | none=>none | some e0=>bif e0.1 then some (a2==0,()) else k1 else k1:=mkE (by kernel_rfl)
noncomputable def Ygy:Tb:=[]
def F96:TFun:=⟨[],[(4,qc [qn 1,qi,[.boxN 31 2 [.any,.p (.sl Vq4)]],qn 2,[.boxN 84 5 [.p di,.p di,.p di,.p di,.any]],qi,qn 49])],[.a [.sl Vq13,.sl Vq4],.c di],[.c (.p db)],qc [qn 4,qb,qn 51],[],[],0⟩
noncomputable def Ybd:=mkC Ygy prog 96 F96
theorem ok96:Ybd.ok prog 96:=mkO trivial (by kernel_rfl)
noncomputable def Zku (a0:Vy14)(a1:Int):Option (Bool×Unit):=Ybd.fn (a0,a1,())
noncomputable def Zc1 (n:Nat)(x0:Int)(x1:(List Vy2))(x2 x3 x4 x5 x6:Int):Option (Bool×Unit):=itr Ygy prog 96 F96 n 4 (x0,x1,x2,x3,x4,x5,x6,())
theorem Zv9 a0 a1:Eq (Zku a0 a1) <| bif 0≤a1 then match a0.2.1[a1.toNat]? with | none=>none | some e0=>Zc1 fuel a1 a0.2.1 e0.1 e0.2.1 e0.2.2.1 e0.2.2.2.1 0 else none:=mkE (by kernel_rfl)
theorem Zkv n x0 x1 x2 x3 x4 x5 x6:Eq (Zc1 (n+1) x0 x1 x2 x3 x4 x5 x6) <| bif x6<x0 then bif 0≤x6 then match x1[x6.toNat]? with | none=>none | some e0=>bif e0.1>x2 then some (false,()) else let k1:=let k3:=Zc1 n x0 x1 x2 x3 x4 x5 (wrap .i64 (x6+1));bif e0.2.2.1==x4 then bif e0.2.2.2.1==x5 then some (false,()) else k3 else k3;bif e0.1==x2 then bif e0.2.1≥x3 then some (false,()) else k1 else k1 else none else some (true,()):=mkI (by kernel_rfl)
noncomputable def Ygz:Tb:=[]
def F97:TFun:=⟨[],[(4,qc [qn 1,qi,[.boxN 31 2 [.any,.p (.sl Vq4)]],qn 2,qi,qi,qn 18])],[.a [.sl Vq13,.sl Vq4],.c di],[.c (.p di)],qc [qn 4,qi,qn 20],[],[],0⟩
noncomputable def Ybe:=mkC Ygz prog 97 F97
theorem ok97:Ybe.ok prog 97:=mkO trivial (by kernel_rfl)
noncomputable def Zd6 (a0:Vy14)(a1:Int):Option (Int×Unit):=Ybe.fn (a0,a1,())
noncomputable def Zaa (n:Nat)(x0:Int)(x1:(List Vy2))(x2 x3:Int):Option (Int×Unit):=itr Ygz prog 97 F97 n 4 (x0,x1,x2,x3,())
theorem Zrh a0 a1:Eq (Zd6 a0 a1) <| Zaa fuel a1 a0.2.1 0 0:=mkE (by kernel_rfl)
theorem Zhg n x0 x1 x2 x3:Eq (Zaa (n+1) x0 x1 x2 x3) <| bif x3<ofNat x1.length then bif 0≤x3 then match x1[x3.toNat]? with | none=>none | some e0=>bif e0.1==x0 then Zaa n x0 x1 (wrap .i64 (x2+1)) (wrap .i64 (x3+1)) else Zaa n x0 x1 x2 (wrap .i64 (x3+1)) else none else some (x2,()):=mkI (by kernel_rfl)
noncomputable def Yg0:Tb:=[]
def F98:TFun:=⟨[],[(4,qc [qn 1,qi,[.boxN 31 2 [.any,.p (.sl Vq4)]],qn 2,qi,qi,qn 18])],[.a [.sl Vq13,.sl Vq4],.c di],[.c (.p di)],qc [qn 4,qi,qn 20],[],[],0⟩
noncomputable def Ybf:=mkC Yg0 prog 98 F98
theorem ok98:Ybf.ok prog 98:=mkO trivial (by kernel_rfl)
noncomputable def Ze1 (a0:Vy14)(a1:Int):Option (Int×Unit):=Ybf.fn (a0,a1,())
noncomputable def Zal (n:Nat)(x0:Int)(x1:(List Vy2))(x2 x3:Int):Option (Int×Unit):=itr Yg0 prog 98 F98 n 4 (x0,x1,x2,x3,())
theorem Ztz a0 a1:Eq (Ze1 a0 a1) <| Zal fuel a1 a0.2.1 0 0:=mkE (by kernel_rfl)
theorem Zij n x0 x1 x2 x3:Eq (Zal (n+1) x0 x1 x2 x3) <| bif x3<ofNat x1.length then bif 0≤x3 then match x1[x3.toNat]? with | none=>none | some e0=>bif e0.2.2.1==x0 then Zal n x0 x1 (wrap .i64 (x2+1)) (wrap .i64 (x3+1)) else Zal n x0 x1 x2 (wrap .i64 (x3+1)) else none else some (x2,()):=mkI (by kernel_rfl)
noncomputable def Z4t:Tb:=[]
def F100:TFun:=⟨[],[(4,qc [qn 1,qi,[.boxN 31 2 [.p (.sl Vq13),.p (.sl Vq4)]],qn 2,[.c (.rowN 4 1 [.bool])],qi,qn 41]),(9,qc [qn 1,qi,[.boxN 31 2 [.p (.sl Vq13),.p (.sl Vq4)]],qn 2,[.c (.rowN 4 1 [.bool])],qi,qi,qn 40])],[.a [.sl Vq13,.sl Vq4],.c di],[.c (.s 4 1 [.bool])],qc [qn 4,[.c (.rowN 4 1 [.bool])],qn 43],[],[],0⟩
noncomputable def Zt0:=mkC Z4t prog 100 F100
theorem Yk3:Zt0.ok prog 100:=mkO trivial (by kernel_rfl)
noncomputable def Z62:TCon:=⟨Zt0.args,[.c (.p (.sl [.bool]))],Zt0.fn⟩
theorem Yim:Z62.ok prog 100:=TCon.frz (c:=Zt0) Yk3 rfl
noncomputable def Zg2 (a0:Vy14)(a1:Int):Option (List (Bool×Unit)×Unit):=Zt0.fn (a0,a1,())
noncomputable def Zab (n:Nat)(x0:Int)(x1:(List Vy11))(x2:(List Vy2))(x3:(List (Bool×Unit)))(x4:Int):Option (List (Bool×Unit)×Unit):=itr Z4t prog 100 F100 n 4 (x0,x1,x2,x3,x4,())
noncomputable def Xt (n:Nat)(x0:Int)(x1:(List Vy11))(x2:(List Vy2))(x3:(List (Bool×Unit)))(x4 x5:Int):Option (List (Bool×Unit)×Unit):=itr Z4t prog 100 F100 n 9 (x0,x1,x2,x3,x4,x5,())
theorem Zri a0 a1:Eq (Zg2 a0 a1) <| bif decide (toNat (ofNat a0.1.length)≤toNat (ofNat a0.1.length))&&(decide (1*toNat (ofNat a0.1.length)≤281474976710656)&&decide (toNat (ofNat a0.1.length)≤9223372036854775807)) then Zab fuel a1 a0.1 a0.2.1 (List.replicate (toNat (ofNat a0.1.length)) (false,())) 0 else none:=mkE (by kernel_rfl)
theorem Zhh n x0 x1 x2 x3 x4:Eq (Zab (n+1) x0 x1 x2 x3 x4) <| bif x4≤ofNat x1.length then Xt n x0 x1 x2 x3 x4 0 else some (x3,()):=mkI (by kernel_rfl)
theorem Zhi n x0 x1 x2 x3 x4 x5:Eq (Xt (n+1) x0 x1 x2 x3 x4 x5) <| bif x5<ofNat x2.length then bif 0≤x5 then match x2[x5.toNat]? with | none=>none | some e0=>bif e0.1==x0 then bif 0≤e0.2.2.1 then bif e0.2.2.1.toNat<x3.length then match x3[e0.2.2.1.toNat]? with | none=>none | some e1=>Xt n x0 x1 x2 (List.set x3 e0.2.2.1.toNat (true,e1.2)) x4 (wrap .i64 (x5+1)) else none else none else bif 0≤e0.1 then bif e0.1.toNat<x3.length then match x3[e0.1.toNat]? with | none=>none | some e1=>bif e1.1 then bif 0≤e0.2.2.1 then bif e0.2.2.1.toNat<x3.length then match x3[e0.2.2.1.toNat]? with | none=>none | some e2=>Xt n x0 x1 x2 (List.set x3 e0.2.2.1.toNat (true,e2.2)) x4 (wrap .i64 (x5+1)) else none else none else Xt n x0 x1 x2 x3 x4 (wrap .i64 (x5+1)) else none else none else none else Zab n x0 x1 x2 x3 (wrap .i64 (x4+1)):=mkI (by kernel_rfl)
noncomputable def Zx4:Tb:=[(96,Ybd),(97,Ybe),(98,Ybf),(99,Ybc),(100,Z62)]
def F65:TFun:=⟨[1,10],[(1,qc [qn 1,[.boxN 31 2 [.p (.sl Vq13),.p (.sl Vq4)]],qn 137]),(3,qc [qn 1,[.boxN 31 2 [.p (.sl Vq13),.p (.sl Vq4)]],qn 1,qi,qn 135]),(10,qc [qn 1,[.boxN 31 2 [.p (.sl Vq13),.p (.sl Vq4)]],qn 137]),(12,qc [qn 1,[.boxN 31 2 [.p (.sl Vq13),.p (.sl Vq4)]],qn 3,qi,qn 133]),(21,qc [qn 1,[.boxN 31 2 [.p (.sl Vq13),.p (.sl Vq4)]],qn 5,qi,qn 131])],[.a [.sl Vq13,.sl Vq4]],[.c (.p db)],qc [qn 2,qb,qn 136],[],[],0⟩
noncomputable def Ybg:=mkC Zx4 prog 65 F65
theorem ok65:Ybg.ok prog 65:=mkO ⟨ok96,ok97,ok98,ok99,Yim,trivial⟩ (by kernel_rfl)
noncomputable def Zkw (a0:Vy14):Option (Bool×Unit):=Ybg.fn (a0,())
noncomputable def Zkx (n:Nat)(x0:(List Vy11))(x1:(List Vy2)):Option (Bool×Unit):=itr Zx4 prog 65 F65 n 1 (x0,x1,())
noncomputable def Zc2 (n:Nat)(x0:(List Vy11))(x1:(List Vy2))(x2:Int):Option (Bool×Unit):=itr Zx4 prog 65 F65 n 3 (x0,x1,x2,())
noncomputable def Zik (n:Nat)(x0:(List Vy11))(x1:(List Vy2)):Option (Bool×Unit):=itr Zx4 prog 65 F65 n 10 (x0,x1,())
noncomputable def Zb0 (n:Nat)(x0:(List Vy11))(x1:(List Vy2))(x2:Int):Option (Bool×Unit):=itr Zx4 prog 65 F65 n 12 (x0,x1,x2,())
noncomputable def Zb1 (n:Nat)(x0:(List Vy11))(x1:(List Vy2))(x2:Int):Option (Bool×Unit):=itr Zx4 prog 65 F65 n 21 (x0,x1,x2,())
theorem Zwa a0:Eq (Zkw a0) <| Zc2 fuel a0.1 a0.2.1 0:=mkE (by kernel_rfl)
theorem Zt1 n x0 x1:Eq (Zkx (n+1) x0 x1) <| Zb0 n x0 x1 0:=mkI (by kernel_rfl)
theorem Zky n x0 x1 x2:Eq (Zc2 (n+1) x0 x1 x2) <| bif x2<ofNat x1.length then bif 0≤x2 then match x1[x2.toNat]? with | none=>none | some e0=>let k1:=some (false,());bif e0.1<0 then k1 else bif e0.2.2.1<0 then k1 else bif e0.1≥ofNat x0.length then k1 else bif e0.2.2.1≥ofNat x0.length then k1 else bif e0.2.2.2.2.1<1 then k1 else bif e0.2.2.2.2.1>8 then k1 else Zc2 n x0 x1 (wrap .i64 (x2+1)) else none else Zkx n x0 x1:=mkI (by kernel_rfl)
theorem Zrj n x0 x1:Eq (Zik (n+1) x0 x1) <| Zb1 n x0 x1 0:=mkI (by kernel_rfl)
theorem Zil n x0 x1 x2:Eq (Zb0 (n+1) x0 x1 x2) <| bif x2<ofNat x1.length then bif 0≤x2 then match x1[x2.toNat]? with | none=>none | some e0=>match Zku (x0,x1,()) x2 with | none=>none | some e1=>let k1:=some (false,());bif !e1.1 then k1 else bif e0.2.1<0 then k1 else match Zd6 (x0,x1,()) e0.1 with | none=>none | some e2=>bif e0.2.1≥e2.1 then k1 else bif e0.2.2.2.1<0 then k1 else match Ze1 (x0,x1,()) e0.2.2.1 with | none=>none | some e3=>bif e0.2.2.2.1≥e3.1 then k1 else Zb0 n x0 x1 (wrap .i64 (x2+1)) else none else Zik n x0 x1:=mkI (by kernel_rfl)
theorem Zim n x0 x1 x2:Eq (Zb1 (n+1) x0 x1 x2) <| bif x2<ofNat x0.length then bif 0≤x2 then match x0[x2.toNat]? with | none=>none | some e0=>let k1:=some (false,());bif e0.2.1<0 then k1 else bif e0.2.1>3 then k1 else match Ze1 (x0,x1,()) x2 with | none=>none | some e1=>match Zd6 (x0,x1,()) x2 with | none=>none | some e2=>match Zns e0.1 e1.1 e2.1 with | none=>none | some e3=>bif !e3.1 then k1 else match Zg2 (x0,x1,()) x2 with | none=>none | some e4=>bif 0≤x2 then match e4.1[x2.toNat]? with | none=>none | some e5=>bif e5.1 then k1 else Zb1 n x0 x1 (wrap .i64 (x2+1)) else none else none else some (true,()):=mkI (by kernel_rfl)
noncomputable def Yk4:Tb:=[(65,Ybg)]
def F44:TFun:=⟨[],[],[.a [.sl Vq13,.sl Vq4]],[.c (.p di)],qc [qn 2,qi,qn 13],[],[],0⟩
noncomputable def Ybh:=mkC Yk4 prog 44 F44
theorem ok44:Ybh.ok prog 44:=mkO ⟨ok65,trivial⟩ (by kernel_rfl)
noncomputable def Zgi (a0:Vy14):Option (Int×Unit):=Ybh.fn (a0,())
theorem Zwb a0:Eq (Zgi a0) <| bif ofNat a0.1.length>20 then some (4,()) else bif ofNat a0.2.1.length>100 then some (4,()) else match Zkw a0 with | none=>none | some e0=>bif !e0.1 then some (8,()) else some (0,()):=mkE (by kernel_rfl)
noncomputable def Yin:Tb:=[]
def F101:TFun:=⟨[],[],[.a Vq8],[.c (.p db)],qc [qn 2,qb,qn 8],[],[],0⟩
noncomputable def Zt2:=mkC Yin prog 101 F101
theorem Ybi:Zt2.ok prog 101:=mkO trivial (by kernel_rfl)
noncomputable def Zcc (a0:(Int×Int×Int×Unit)):Option (Bool×Unit):=Zt2.fn (a0,())
theorem Zwc a0:Eq (Zcc a0) <| bif a0.2.1≥(-1099511627776) then some (decide (a0.2.1≤1099511627776),()) else some (false,()):=mkE (by kernel_rfl)
noncomputable def Yio:Tb:=[]
def F102:TFun:=⟨[],[],[.c di],[.c (.p db)],qc [qn 2,qb,qn 10],[],[],0⟩
noncomputable def Zt3:=mkC Yio prog 102 F102
theorem Ybj:Zt3.ok prog 102:=mkO trivial (by kernel_rfl)
noncomputable def Zfv (a0:Int):Option (Bool×Unit):=Zt3.fn (a0,())
theorem Zz2 a0:Eq (Zfv a0) <| let k1:=some (a0==9223372036854775807,());bif a0≥(-1099511627776) then bif a0≤1099511627776 then some (true,()) else k1 else k1:=mkE (by kernel_rfl)
noncomputable def Yip:Tb:=[]
def F103:TFun:=⟨[],[],[.a Vq4],[.c (.p db)],qc [qn 2,qb,qn 19],[],[],0⟩
noncomputable def Zz3:=mkC Yip prog 103 F103
theorem Yg1:Zz3.ok prog 103:=mkO trivial (by kernel_rfl)
noncomputable def Zl1 (a0:Vy2):Option (Bool×Unit):=Zz3.fn (a0,())
theorem Z13 a0:Eq (Zl1 a0) <| bif a0.2.1<a0.2.2.1 then bif a0.2.1≥(-2199023255552) then some (decide (a0.2.2.1≤2199023255552),()) else some (false,()) else some (false,()):=mkE (by kernel_rfl)
noncomputable def Yg2:Tb:=[(101,Zt2),(102,Zt3),(103,Zz3)]
def F66:TFun:=⟨[3],[(3,qc [qn 1,[.boxN 97 10 [.p (.int .u8),.p di,.p di,.p di,.p di,.p di,.p di,.p di,.p di,.p di]],qn 2,[.c (.p (.int .u8))],qb,qn 42])],[.a Vq2],[.c (.p db)],qc [qn 2,qb,qn 45],[],[],0⟩
noncomputable def Z63:=mkC Yg2 prog 66 F66
theorem ok66:Z63.ok prog 66:=mkO ⟨Ybi,Ybj,Yg1,trivial⟩ (by kernel_rfl)
noncomputable def Zgj (a0:Vy8):Option (Bool×Unit):=Z63.fn (a0,())
noncomputable def Zfw (n:Nat)(x0 x1 x2 x3 x4 x5 x6 x7 x8 x9 x10:Int)(x11:Bool):Option (Bool×Unit):=itr Yg2 prog 66 F66 n 3 (x0,x1,x2,x3,x4,x5,x6,x7,x8,x9,x10,x11,())
theorem Zwd a0:Eq (Zgj a0) <| bif a0.1==1 then Zfw fuel a0.1 a0.2.1 a0.2.2.1 a0.2.2.2.1 a0.2.2.2.2.1 a0.2.2.2.2.2.1 a0.2.2.2.2.2.2.1 a0.2.2.2.2.2.2.2.1 a0.2.2.2.2.2.2.2.2.1 a0.2.2.2.2.2.2.2.2.2.1 a0.1 true else Zfw fuel a0.1 a0.2.1 a0.2.2.1 a0.2.2.2.1 a0.2.2.2.2.1 a0.2.2.2.2.2.1 a0.2.2.2.2.2.2.1 a0.2.2.2.2.2.2.2.1 a0.2.2.2.2.2.2.2.2.1 a0.2.2.2.2.2.2.2.2.2.1 a0.1 (a0.1==4):=mkE (by kernel_rfl)
theorem Zt4 n x0 x1 x2 x3 x4 x5 x6 x7 x8 x9 x10 x11:Eq (Zfw (n+1) x0 x1 x2 x3 x4 x5 x6 x7 x8 x9 x10 x11) <| let k1:=some (false,());bif x11 then (Zcc (x1,x2,x3,())).bind fun e0=>bif e0.1 then some ((x0==x0&&(x1==x1&&(x2==x2&&(x3==x3&&(x4==0&&(x5==0&&(x6==0&&(x7==0&&(x8==0&&(x9==0&&true))))))))),())) else k1 else bif x10==2 then (Zfv x4).bind fun e0=>bif e0.1 then some ((x0==x0&&(x1==0&&(x2==0&&(x3==0&&(x4==x4&&(x5==0&&(x6==0&&(x7==0&&(x8==0&&(x9==0&&true))))))))),())) else k1 else bif x10==3 then (Zl1 (x5,x6,x7,x8,x9,())).bind fun e0=>bif e0.1 then some ((x0==x0&&(x1==0&&(x2==0&&(x3==0&&(x4==0&&(x5==x5&&(x6==x6&&(x7==x7&&(x8==x8&&(x9==x9&&true))))))))),())) else k1 else k1:=mkI (by kernel_rfl)
noncomputable def Yg3:Tb:=[(66,Z63)]
def F45:TFun:=⟨[],[(6,qc [qn 1,[.boxN 77 2 [.any,.p (.sl Vq2)]],qn 1,qi,qn 30])],[.a Vq10],[.c (.p di)],qc [qn 2,qi,qn 31],[],[],0⟩
noncomputable def Ybk:=mkC Yg3 prog 45 F45
theorem ok45:Ybk.ok prog 45:=mkO ⟨ok66,trivial⟩ (by kernel_rfl)
noncomputable def Zkz (a0:Vy4):Option (Int×Unit):=Ybk.fn (a0,())
noncomputable def Zc3 (n:Nat)(x0:(List Vy8))(x1:Int):Option (Int×Unit):=itr Yg3 prog 45 F45 n 6 (x0,x1,())
theorem Zwe a0:Eq (Zkz a0) <| bif a0.1<1 then some (8,()) else bif a0.1>8 then some (8,()) else bif ofNat a0.2.1.length>a0.1 then some (8,()) else Zc3 fuel a0.2.1 0:=mkE (by kernel_rfl)
theorem Zk0 n x0 x1:Eq (Zc3 (n+1) x0 x1) <| bif x1<ofNat x0.length then ix x0 x1 fun e0=>(Zgj e0).bind fun e1=>bif !e1.1 then some (8,()) else Zc3 n x0 (wrap .i64 (x1+1)) else some (0,()):=mkI (by kernel_rfl)
noncomputable def Ybl:Tb:=[]
def F131:TFun:=⟨[2],[(2,qc [qn 1,[.boxN 123 4 [.p di,.p di,.p di,.p di]],qn 1,qb,qn 49])],[.a [.int .i64,.int .i64,.int .i64,.int .i64]],[.c (.p di)],qc [qn 2,qi,qn 50],[],[],0⟩
noncomputable def Z4u:=mkC Ybl prog 131 F131
theorem Yk5:Z4u.ok prog 131:=mkO trivial (by kernel_rfl)
noncomputable def Xl (a0:(Int×Int×Int×Int×Unit)):Option (Int×Unit):=Z4u.fn (a0,())
noncomputable def Zfx (n:Nat)(x0 x1 x2 x3:Int)(x4:Bool):Option (Int×Unit):=itr Ybl prog 131 F131 n 2 (x0,x1,x2,x3,x4,())
theorem Zwf a0:Eq (Xl a0) <| bif a0.1<0 then Zfx fuel a0.1 a0.2.1 a0.2.2.1 a0.2.2.2.1 true else Zfx fuel a0.1 a0.2.1 a0.2.2.1 a0.2.2.2.1 (decide (a0.1>1073741824)):=mkE (by kernel_rfl)
theorem Zt5 n x0 x1 x2 x3 x4:Eq (Zfx (n+1) x0 x1 x2 x3 x4) <| bif x4 then some (8,()) else let k1:Option (Int×Unit):=let k3:Option (Int×Unit):=bif x2>x3 then some (8,()) else some (0,());bif x0==1 then bif x1 !=x2 then some (8,()) else bif x2 !=x3 then some (8,()) else k3 else k3;bif x0==0 then bif x1 !=0 then some (8,()) else bif x2 !=0 then some (8,()) else bif x3 !=0 then some (8,()) else k1 else k1:=mkI (by kernel_rfl)
noncomputable def Yiq:Tb:=[]
def F132:TFun:=⟨[],[],[.a Vq3,.a Vq3],[.c (.p db)],qc [qn 4,qb,qn 33],[],[],0⟩
noncomputable def Z4v:=mkC Yiq prog 132 F132
theorem Yk6:Z4v.ok prog 132:=mkO trivial (by kernel_rfl)
noncomputable def Zfy (a0 a1:Vy12):Option (Bool×Unit):=Z4v.fn (a0,a1,())
theorem Zz4 a0 a1:Eq (Zfy a0 a1) <| bif a0.2.2.1 !=a1.2.2.1 then some (decide (a0.2.2.1<a1.2.2.1),()) else bif a0.2.1 !=a1.2.1 then some (decide (a0.2.1<a1.2.1),()) else some (decide (a0.1<a1.1),()):=mkE (by kernel_rfl)
noncomputable def Ybm:Tb:=[(131,Z4u),(132,Z4v)]
def F107:TFun:=⟨[],[(6,qc [[.c (.p (.sl Vq3))],qn 2,qi,qn 81])],[.c (.sl Vq3)],[.c (.p di)],qc [qn 2,qi,qn 82],[],[],0⟩
noncomputable def Z4w:=mkC Ybm prog 107 F107
theorem Yk7:Z4w.ok prog 107:=mkO ⟨Yk5,Yk6,trivial⟩ (by kernel_rfl)
noncomputable def Zk1 (a0:Vy3):Option (Int×Unit):=Z4w.fn (a0,())
noncomputable def Ye (n:Nat)(x0:Vy3)(x1:Int):Option (Int×Unit):=itr Ybm prog 107 F107 n 6 (x0,x1,())
theorem Zwg a0:Eq (Zk1 a0) <| bif ofNat a0.length>4000 then some (4,()) else Ye fuel a0 0:=mkE (by kernel_rfl)
theorem Zk2 n x0 x1:Eq (Ye (n+1) x0 x1) <| bif x1<ofNat x0.length then ix x0 x1 fun e0=>bif e0.2.1≥(-1100585369600) then bif e0.2.1<e0.2.2.1 then (Xl (e0.2.2.2.1,e0.2.2.2.2.1,e0.2.2.2.2.2.1,e0.2.2.2.2.2.2.1,())).bind fun e1=>bif e1.1==0 then (Xl e0.2.2.2.2.2.2.2).bind fun e2=>bif !decide (e0.2.2.1≤1100585369600) then some (8,()) else bif !e2.1==0 then some (8,()) else let k1:Option (Int×Unit):=let k3:=Ye n x0 (wrap .i64 (x1+1));bif x1>0 then ix x0 (wrap .i64 (x1 - 1)) fun e3=>(Zfy e3 e0).bind fun e4=>bif !e4.1 then some (8,()) else k3 else k3;bif e0.2.2.2.1==0 then bif e0.2.2.2.2.2.2.2.1==0 then some (8,()) else k1 else k1 else bif !decide (e0.2.2.1≤1100585369600) then some (8,()) else some (8,()) else (Xl (e0.2.2.2.1,e0.2.2.2.2.1,e0.2.2.2.2.2.1,e0.2.2.2.2.2.2.1,())).bind fun e1=>bif e1.1==0 then (Xl e0.2.2.2.2.2.2.2).bind fun e2=>some (8,()) else some (8,()) else (Xl (e0.2.2.2.1,e0.2.2.2.2.1,e0.2.2.2.2.2.1,e0.2.2.2.2.2.2.1,())).bind fun e1=>bif e1.1==0 then (Xl e0.2.2.2.2.2.2.2).bind fun e2=>some (8,()) else some (8,()) else some (0,()):=mkI (by kernel_rfl)
noncomputable def Yir:Tb:=[(102,Zt3)]
def F129:TFun:=⟨[],[],[.c di],[.c (.p db)],qc [qn 2,qb,qn 6],[],[],0⟩
noncomputable def Z4x:=mkC Yir prog 129 F129
theorem Yk8:Z4x.ok prog 129:=mkO ⟨Ybj,trivial⟩ (by kernel_rfl)
noncomputable def Zk3 (a0:Int):Option (Bool×Unit):=Z4x.fn (a0,())
theorem Zwh a0:Eq (Zk3 a0) <| bif a0==(-9223372036854775808) then some (true,()) else (Zfv a0).bind fun e0=>some (e0.1,()):=mkE (by kernel_rfl)
noncomputable def Yis:Tb:=[(102,Zt3),(101,Zt2)]
def F130:TFun:=⟨[],[],[.a Vq7],[.c (.p di)],qc [qn 2,qi,qn 28],[],[],0⟩
noncomputable def Z4y:=mkC Yis prog 130 F130
theorem Yk9:Z4y.ok prog 130:=mkO ⟨Ybj,Ybi,trivial⟩ (by kernel_rfl)
noncomputable def Zk4 (a0:(Bool×Int×Int×Int×Int×Unit)):Option (Int×Unit):=Z4y.fn (a0,())
theorem Zwi a0:Eq (Zk4 a0) <| bif a0.1 then (Zfv a0.2.1).bind fun e0=>let k1:Option (Int×Unit):=bif !a0.1 then bif a0.2.1==0 then (Zcc a0.2.2).bind fun e1=>bif e1.1 then some (0,()) else some (8,()) else some (8,()) else some (8,());bif e0.1 then bif a0.2.2.1==0&&(a0.2.2.2.1==0&&(a0.2.2.2.2.1==0&&true)) then some (0,()) else k1 else k1 else bif !a0.1 then bif a0.2.1==0 then (Zcc a0.2.2).bind fun e0=>bif e0.1 then some (0,()) else some (8,()) else some (8,()) else some (8,()):=mkE (by kernel_rfl)
noncomputable def Zk5:Tb:=[(129,Z4x),(130,Z4y),(103,Zz3),(101,Zt2)]
def F106:TFun:=⟨[1,10,19],[(1,qc [qn 1,[.boxN 73 9 [.any,.any,.any,.any,.any,.any,.p (.sl Vq7),.p (.sl Vq4),.p (.sl Vq8)]],qn 61]),(3,qc [qn 1,[.boxN 73 9 [.any,.any,.any,.any,.p (.sl Vq12),.any,.p (.sl Vq7),.p (.sl Vq4),.p (.sl Vq8)]],qn 1,qi,qn 59]),(10,qc [qn 1,[.boxN 73 9 [.any,.any,.any,.any,.any,.any,.any,.p (.sl Vq4),.p (.sl Vq8)]],qn 61]),(12,qc [qn 1,[.boxN 73 9 [.any,.any,.any,.any,.any,.any,.p (.sl Vq7),.p (.sl Vq4),.p (.sl Vq8)]],qn 2,qi,qn 58]),(19,qc [qn 1,[.boxN 73 9 [.any,.any,.any,.any,.any,.any,.any,.any,.p (.sl Vq8)]],qn 61]),(21,qc [qn 1,[.boxN 73 9 [.any,.any,.any,.any,.any,.any,.any,.p (.sl Vq4),.p (.sl Vq8)]],qn 3,qi,qn 57]),(30,qc [qn 1,[.boxN 73 9 [.any,.any,.any,.any,.any,.any,.any,.any,.p (.sl Vq8)]],qn 4,qi,qn 56])],[.a Vq1],[.c (.p db)],qc [qn 2,qb,qn 60],[],[],0⟩
noncomputable def Z4z:=mkC Zk5 prog 106 F106
theorem Yla:Z4z.ok prog 106:=mkO ⟨Yk8,Yk9,Yg1,Ybi,trivial⟩ (by kernel_rfl)
noncomputable def Zk6 (a0:Vy1):Option (Bool×Unit):=Z4z.fn (a0,())
noncomputable def Zk7 (n:Nat)(x0:Vy5)(x1:(List Vy2))(x2:Vy6):Option (Bool×Unit):=itr Zk5 prog 106 F106 n 1 (x0,x1,x2,())
noncomputable def Zba (n:Nat)(x0:Vy9)(x1:Vy5)(x2:(List Vy2))(x3:Vy6)(x4:Int):Option (Bool×Unit):=itr Zk5 prog 106 F106 n 3 (x0,x1,x2,x3,x4,())
noncomputable def Zin (n:Nat)(x0:(List Vy2))(x1:Vy6):Option (Bool×Unit):=itr Zk5 prog 106 F106 n 10 (x0,x1,())
noncomputable def Zam (n:Nat)(x0:Vy5)(x1:(List Vy2))(x2:Vy6)(x3:Int):Option (Bool×Unit):=itr Zk5 prog 106 F106 n 12 (x0,x1,x2,x3,())
noncomputable def Zio (n:Nat)(x0:Vy6):Option (Bool×Unit):=itr Zk5 prog 106 F106 n 19 (x0,())
noncomputable def Zan (n:Nat)(x0:(List Vy2))(x1:Vy6)(x2:Int):Option (Bool×Unit):=itr Zk5 prog 106 F106 n 21 (x0,x1,x2,())
noncomputable def Zao (n:Nat)(x0:Vy6)(x1:Int):Option (Bool×Unit):=itr Zk5 prog 106 F106 n 30 (x0,x1,())
theorem Zwj a0:Eq (Zk6 a0) <| Zba fuel a0.2.2.2.2.1 a0.2.2.2.2.2.2.1 a0.2.2.2.2.2.2.2.1 a0.2.2.2.2.2.2.2.2.1 0:=mkE (by kernel_rfl)
theorem Zt6 n x0 x1 x2:Eq (Zk7 (n+1) x0 x1 x2) <| Zam n x0 x1 x2 0:=mkI (by kernel_rfl)
theorem Zk8 n x0 x1 x2 x3 x4:Eq (Zba (n+1) x0 x1 x2 x3 x4) <| bif x4<ofNat x0.length then ix x0 x4 fun e0=>(Zk3 e0.1).bind fun e1=>bif !e1.1 then some (false,()) else Zba n x0 x1 x2 x3 (wrap .i64 (x4+1)) else Zk7 n x1 x2 x3:=mkI (by kernel_rfl)
theorem Zrk n x0 x1:Eq (Zin (n+1) x0 x1) <| Zan n x0 x1 0:=mkI (by kernel_rfl)
theorem Zip n x0 x1 x2 x3:Eq (Zam (n+1) x0 x1 x2 x3) <| bif x3<ofNat x0.length then ix x0 x3 fun e0=>(Zk4 e0).bind fun e1=>bif e1.1 !=0 then some (false,()) else Zam n x0 x1 x2 (wrap .i64 (x3+1)) else Zin n x1 x2:=mkI (by kernel_rfl)
theorem Zrl n x0:Eq (Zio (n+1) x0) <| Zao n x0 0:=mkI (by kernel_rfl)
theorem Ziq n x0 x1 x2:Eq (Zan (n+1) x0 x1 x2) <| bif x2<ofNat x0.length then ix x0 x2 fun e0=>(Zl1 e0).bind fun e1=>bif !e1.1 then some (false,()) else Zan n x0 x1 (wrap .i64 (x2+1)) else Zio n x1:=mkI (by kernel_rfl)
theorem Zir n x0 x1:Eq (Zao (n+1) x0 x1) <| bif x1<ofNat x0.length then ix x0 x1 fun e0=>(Zcc e0).bind fun e1=>bif !e1.1 then some (false,()) else Zao n x0 (wrap .i64 (x1+1)) else some (true,()):=mkI (by kernel_rfl)
noncomputable def Ybn:Tb:=[(66,Z63)]
def F105:TFun:=⟨[],[(3,qc [[.c (.p (.sl Vq6))],qn 2,qi,qn 29])],[.c (.sl Vq6)],[.c (.p db)],qc [qn 2,qb,qn 30],[],[],0⟩
noncomputable def Z40:=mkC Ybn prog 105 F105
theorem Ylb:Z40.ok prog 105:=mkO ⟨ok66,trivial⟩ (by kernel_rfl)
noncomputable def Zk9 (a0:Vy3):Option (Bool×Unit):=Z40.fn (a0,())
noncomputable def Zc4 (n:Nat)(x0:Vy3)(x1:Int):Option (Bool×Unit):=itr Ybn prog 105 F105 n 3 (x0,x1,())
theorem Zwk a0:Eq (Zk9 a0) <| Zc4 fuel a0 0:=mkE (by kernel_rfl)
theorem Zla n x0 x1:Eq (Zc4 (n+1) x0 x1) <| bif x1<ofNat x0.length then ix x0 x1 fun e0=>bif e0.1<0 then some (false,()) else ix x0 x1 fun e1=>bif e1.1≥3 then some (false,()) else ix x0 x1 fun e2=>(Zgj e2.2).bind fun e3=>bif !e3.1 then some (false,()) else Zc4 n x0 (wrap .i64 (x1+1)) else some (true,()):=mkI (by kernel_rfl)
noncomputable def Ybo:Tb:=[]
def F104:TFun:=⟨[2],[(2,qc [qn 1,[.boxN 73 9 [.any,.any,.any,.any,.p (.sl Vq12),.p (.sl Vq3),.p (.sl Vq7),.p (.sl Vq4),.p (.sl Vq8)]],qn 1,qi,qi,qi,qi,qi,qn 61])],[.a Vq1],[.c (.p db)],qc [qn 2,qb,qn 66],[],[],0⟩
noncomputable def Z41:=mkC Ybo prog 104 F104
theorem Ylc:Z41.ok prog 104:=mkO trivial (by kernel_rfl)
noncomputable def Znt (a0:Vy1):Option (Bool×Unit):=Z41.fn (a0,())
noncomputable def Xm (n:Nat)(x0:Vy9)(x1:Vy3)(x2:Vy5)(x3:(List Vy2))(x4:Vy6)(x5 x6 x7 x8 x9:Int):Option (Bool×Unit):=itr Ybo prog 104 F104 n 2 (x0,x1,x2,x3,x4,x5,x6,x7,x8,x9,())
theorem Zz5 a0:Eq (Znt a0) <| bif a0.1==1 then Xm fuel a0.2.2.2.2.1 a0.2.2.2.2.2.1 a0.2.2.2.2.2.2.1 a0.2.2.2.2.2.2.2.1 a0.2.2.2.2.2.2.2.2.1 0 0 60 0 0 else bif a0.1==2 then Xm fuel a0.2.2.2.2.1 a0.2.2.2.2.2.1 a0.2.2.2.2.2.2.1 a0.2.2.2.2.2.2.2.1 a0.2.2.2.2.2.2.2.2.1 1 0 0 0 0 else bif a0.1==3 then Xm fuel a0.2.2.2.2.1 a0.2.2.2.2.2.1 a0.2.2.2.2.2.2.1 a0.2.2.2.2.2.2.2.1 a0.2.2.2.2.2.2.2.2.1 0 0 0 0 0 else bif a0.1==4 then Xm fuel a0.2.2.2.2.1 a0.2.2.2.2.2.1 a0.2.2.2.2.2.2.1 a0.2.2.2.2.2.2.2.1 a0.2.2.2.2.2.2.2.2.1 (tmm false 4 (tmm true 1 (ofNat a0.2.2.2.2.1.length))) (ofNat a0.2.2.2.2.2.1.length) 0 0 0 else bif a0.1==5 then Xm fuel a0.2.2.2.2.1 a0.2.2.2.2.2.1 a0.2.2.2.2.2.2.1 a0.2.2.2.2.2.2.2.1 a0.2.2.2.2.2.2.2.2.1 2 (ofNat a0.2.2.2.2.2.1.length) 0 0 0 else bif a0.1==6 then Xm fuel a0.2.2.2.2.1 a0.2.2.2.2.2.1 a0.2.2.2.2.2.2.1 a0.2.2.2.2.2.2.2.1 a0.2.2.2.2.2.2.2.2.1 0 0 0 4000 0 else bif a0.1==7 then Xm fuel a0.2.2.2.2.1 a0.2.2.2.2.2.1 a0.2.2.2.2.2.2.1 a0.2.2.2.2.2.2.2.1 a0.2.2.2.2.2.2.2.2.1 0 0 0 0 4000 else some (false,()):=mkE (by kernel_rfl)
theorem Zwl n x0 x1 x2 x3 x4 x5 x6 x7 x8 x9:Eq (Xm (n+1) x0 x1 x2 x3 x4 x5 x6 x7 x8 x9) <| let k1:=some (false,());bif ofNat x0.length==x5 then bif ofNat x1.length≤x6 then bif ofNat x2.length≤x7 then bif ofNat x3.length≤x8 then some (decide (ofNat x4.length≤x9),()) else k1 else k1 else k1 else k1:=mkI (by kernel_rfl)
noncomputable def Yg4:Tb:=[(104,Z41),(105,Z40),(106,Z4z),(107,Z4w)]
def F67:TFun:=⟨[],[(13,qc [qn 1,[.boxN 73 9 [.p (.int .u8),.any,.any,.any,.any,.p (.sl Vq3),.any,.any,.any]],qn 1,qi,qn 68])],[.a Vq1],[.c (.p di)],qc [qn 2,qi,qn 69],[],[],0⟩
noncomputable def Ybp:=mkC Yg4 prog 67 F67
theorem ok67:Ybp.ok prog 67:=mkO ⟨Ylc,Ylb,Yla,Yk7,trivial⟩ (by kernel_rfl)
noncomputable def Zgk (a0:Vy1):Option (Int×Unit):=Ybp.fn (a0,())
noncomputable def Zb2 (n:Nat)(x0:Int)(x1:Vy3)(x2:Int):Option (Int×Unit):=itr Yg4 prog 67 F67 n 13 (x0,x1,x2,())
theorem Zwm a0:Eq (Zgk a0) <| let k1:Option (Int×Unit):=some (8,());bif a0.2.2.1<0 then k1 else bif a0.2.2.1≥20 then k1 else bif ofNat a0.2.2.2.1.length>4000 then k1 else bif a0.2.1<0 then k1 else bif a0.2.1≥4 then k1 else (Znt a0).bind fun e0=>bif !e0.1 then k1 else (Zk9 a0.2.2.2.1).bind fun e1=>bif !e1.1 then k1 else (Zk6 a0).bind fun e2=>bif !e2.1 then k1 else (Zk1 a0.2.2.2.2.2.1).bind fun e3=>bif e3.1 !=0 then k1 else Zb2 fuel a0.1 a0.2.2.2.2.2.1 0:=mkE (by kernel_rfl)
theorem Zis n x0 x1 x2:Eq (Zb2 (n+1) x0 x1 x2) <| bif x2<ofNat x1.length then let k1:=Zb2 n x0 x1 (wrap .i64 (x2+1));bif x0==4 then ix x1 x2 fun e0=>bif e0.2.2.2.2.2.2.2.1 !=0 then some (8,()) else k1 else k1 else some (0,()):=mkI (by kernel_rfl)
end Tg
