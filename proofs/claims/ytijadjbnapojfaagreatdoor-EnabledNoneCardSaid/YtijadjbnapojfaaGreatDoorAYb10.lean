import Derived.Test.YtijadjbnapojfaaGreatDoorAYb9
import Derived.Test.YtijadjbnapojfaaGreatDoorATA
/- Functions of the code, told plainly and checked by the kernel. -/
set_option linter.unusedVariables false
set_option linter.unusedSimpArgs false
set_option maxRecDepth 100000
namespace Tg
noncomputable section
open Go.Abs hiding fuel
open Go.Proofs.Tryz (prog)
open Int (ofNat toNat)
open Go.IntKind (wrap)
def Yns:Tb:=[(34,Z8h)]
def F65:TFun:=⟨[],[],[.a Yq3],[.c (.p di),.c (.p di)],qc [qn 2,qi,qi,qn 12],[],[],0⟩
def Ye7:=mkC Yns prog 65 F65
theorem ok65:Ye7.ok prog 65:=mkO ⟨ok34,trivial⟩
def Zhp (a0:Yy3):Option (Int×Int×Unit):=Ye7.fn (a0,())
theorem Zui a0:Eq (Zhp a0) <| (Xh a0).bind fun e0=>bif e0.1 !=0 then some (0,e0.1,()) else some (wrap .i64 (a0.1 - ofNat a0.2.1.length),0,()):=mkE
def Ye8:Tb:=[]
def F44:TFun:=⟨[1],[(1,qc [qi,[.c (.p (.sl Yq3))],qn 29]),(5,qc [qi,[.c (.p (.sl Yq3))],qn 10,qi,qi,qn 17])],[.c di,.c (.sl Yq3)],[.c (.p di)],qc [qn 4,qi,qn 26],[],[],0⟩
def Ye9:=mkC Ye8 prog 44 F44
theorem ok44:Ye9.ok prog 44:=mkO trivial
def Zmx (a0:Int)(a1:(List Yy3)):Option (Int×Unit):=Ye9.fn (a0,a1,())
def Zac (n:Nat)(x0:Int)(x1:(List Yy3)):Option (Int×Unit):=itr Ye8 prog 44 F44 n 1 (x0,x1,())
def Zdn (n:Nat)(x0:Int)(x1:(List Yy3))(x2 x3:Int):Option (Int×Unit):=itr Ye8 prog 44 F44 n 5 (x0,x1,x2,x3,())
theorem Z0o a0 a1:Eq (Zmx a0 a1) <| bif a0≥ofNat a1.length then Zac fuel 0 a1 else Zac fuel a0 a1:=mkE
theorem Zwc n x0 x1:Eq (Zac (n+1) x0 x1) <| Zdn n x0 x1 (ofNat x1.length) 0:=mkI
theorem Zl8 n x0 x1 x2 x3:Eq (Zdn (n+1) x0 x1 x2 x3) <| bif x3<x2 then bif ofNat x1.length=0 then none else ix x1 (Int.tmod (wrap .i64 (x0+x3)) (ofNat x1.length)) fun e0=>bif ofNat e0.2.1.length>0 then some ((Int.tmod (wrap .i64 (x0+x3)) (ofNat x1.length),())) else Zdn n x0 x1 x2 (wrap .i64 (x3+1)) else some ((-1),()):=mkI
def Yfa:Tb:=[(43,Yis),(65,Ye7),(44,Ye9)]
def F36:TFun:=⟨[6],[(6,qc [qn 1,[.c (.p (.sl Yq3))],[.c (.p (.sl Yq3))],[.boxN 66 9 [.p (.int .u8),.any,.any,.p (.sl Yq6),.any,.any,.p (.sl [.bool,.int .i64,.int .i64,.int .i64,.int .i64]),.any,.any]],qn 60]),(8,qc [qn 1,[.c (.p (.sl Yq3))],[.c (.p (.sl Yq3))],[.boxN 66 9 [.p (.int .u8),.any,.any,.p (.sl Yq6),.any,.any,.p (.sl [.bool,.int .i64,.int .i64,.int .i64,.int .i64]),.any,.any]],qn 17,[.c (.p (.sl Yq6))],qi,qi,qn 40])],[.a Yq2,.c (.sl Yq3),.c (.sl Yq3)],[.c (.p db),.c (.p di)],qc [qn 6,qb,qi,qn 56],[],[],0⟩
def Yfb:=mkC Yfa prog 36 F36
theorem ok36:Yfb.ok prog 36:=mkO ⟨ok43,ok65,ok44,trivial⟩
def Zhq (a0:Yy2)(a1 a2:(List Yy3)):Option (Bool×Int×Unit):=Yfb.fn (a0,a1,a2,())
def Zd5 (n:Nat)(x0 x1:(List Yy3))(x2:Int)(x3:Yy5)(x4:(List (Bool×Int×Int×Int×Int×Unit))):Option (Bool×Int×Unit):=itr Yfa prog 36 F36 n 6 (x0,x1,x2,x3,x4,())
def Zbn (n:Nat)(x0 x1:(List Yy3))(x2:Int)(x3:Yy5)(x4:(List (Bool×Int×Int×Int×Int×Unit)))(x5:Yy5)(x6 x7:Int):Option (Bool×Int×Unit):=itr Yfa prog 36 F36 n 8 (x0,x1,x2,x3,x4,x5,x6,x7,())
theorem Zuj a0 a1 a2:Eq (Zhq a0 a1 a2) <| (Zdc a0 a1 a2).bind fun e0=>bif e0.1 !=0 then some (false,e0.1,()) else Zbn fuel a1 a2 a0.1 a0.2.2.2.1 a0.2.2.2.2.2.2.1 a0.2.2.2.1 (ofNat a0.2.2.2.1.length) 0:=mkE
theorem Zqs n x0 x1 x2 x3 x4:Eq (Zd5 (n+1) x0 x1 x2 x3 x4) <| bif ofNat x3.length>0 then (x3[0]?).bind fun e0=>ix x1 e0.1 fun e1=>(Zhp e1).bind fun e2=>some (decide (e2.1>0),0,()) else bif x2==1 then some (decide (ofNat x4.length>0),0,()) else (Zmx 0 x0).bind fun e0=>some (decide (e0.1≥0),0,()):=mkI
theorem Zie n x0 x1 x2 x3 x4 x5 x6 x7:Eq (Zbn (n+1) x0 x1 x2 x3 x4 x5 x6 x7) <| bif x7<x6 then ix x5 x7 fun e0=>bif e0.1≥ofNat x1.length then some (false,2,()) else Zbn n x0 x1 x2 x3 x4 x5 x6 (wrap .i64 (x7+1)) else Zd5 n x0 x1 x2 x3 x4:=mkI
def Ynt:Tb:=[(23,Z6f),(22,Ye1),(37,Z6g),(36,Yfb)]
def F18:TFun:=⟨[],[],[.a Yq1,.c di],[.c (.p db)],qc [qn 4,qb,qn 24],[],[],0⟩
def Yfc:=mkC Ynt prog 18 F18
theorem ok18:Yfc.ok prog 18:=mkO ⟨Yip,Ynq,Yiq,ok36,trivial⟩
def Zhr (a0:Yy1)(a1:Int):Option (Bool×Unit):=Yfc.fn (a0,a1,())
theorem Zuk a0 a1:Eq (Zhr a0 a1) <| ix a0.2.2.2.2.2.2.2.2.2.2.2.2.1 a1 fun e0=>(Xm (a0.2.2.2.2.2.2.2.2.2.2.1,a0.2.2.2.2.2.2.2.2.2.2.2.1,()) a1).bind fun e1=>(Zf1 a0 e1.1).bind fun e2=>(Yu (a0.2.2.2.2.2.2.2.2.2.2.1,a0.2.2.2.2.2.2.2.2.2.2.2.1,()) a1).bind fun e3=>(Zf1 a0 e3.1).bind fun e4=>(Zhq e0 e2.1 e4.1).bind fun e5=>some (e5.1,()):=mkE
def Ynu:Tb:=[(17,Ye4),(18,Yfc)]
def F10:TFun:=⟨[],[],[.a Yq1,.c di],[.c (.p db),.c (.p di)],qc [qn 4,qb,qi,qn 10],[],[],0⟩
def Z3i:=mkC Ynu prog 10 F10
theorem ok10:Z3i.ok prog 10:=mkO ⟨ok17,ok18,trivial⟩
def Q5 (a0:Yy1)(a1:Int):Option (Bool×Int×Unit):=Z3i.fn (a0,a1,())
theorem Zul a0 a1:Eq (Q5 a0 a1) <| (Zug a0 a1).bind fun e0=>bif e0.1 !=0 then some (false,e0.1,()) else (Zhr a0 a1).bind fun e1=>some (e1.1,0,()):=mkE
def tab7:Tb:=[(16,Z3h),(10,Z3i)]
def F7:TFun:=⟨[],[(9,qc [qn 1,[.boxN 35 14 [.p (.int .u8),.p (.sl Yq4),.p (.sl Yq7),.p db,.p (.sl Yq4),.p (.int .u8),.p di,.p di,.p db,.p (.int .u8),.p (.sl Yq8),.p (.sl Yq5),.p (.sl Yq2),.p (.sl Yq3)]],qn 3,[.c (.rowN 3 1 Yq7)],qn 10,qi,qi,qn 18])],[.a Yq1],[.c (.s 3 1 Yq7),.c (.p di)],qc [qn 2,[.c (.rowN 3 1 Yq7)],qi,qn 32],[],[],0⟩
def con7:=mkC tab7 prog 7 F7
theorem ok7:con7.ok prog 7:=mkO ⟨ok16,ok10,trivial⟩
def Z82:TCon:=⟨con7.args,[.c (.p (.sl Yq7)),.c (.p di)],con7.fn⟩
theorem ok7p:Z82.ok prog 7:=TCon.frz (c:=con7) ok7 rfl
def Zax (a0:Yy1):Option (List (Int×Unit)×Int×Unit):=con7.fn (a0,())
def Zay (n:Nat)(x0:Int)(x1:Yy4)(x2:Yy6)(x3:Bool)(x4:Yy4)(x5 x6 x7:Int)(x8:Bool)(x9:Int)(x10:Yy7)(x11:Yy4)(x12:(List Yy2))(x13:(List Yy3))(x14:Yy6)(x15 x16:Int):Option (List (Int×Unit)×Int×Unit):=itr tab7 prog 7 F7 n 9 (x0,x1,x2,x3,x4,x5,x6,x7,x8,x9,x10,x11,x12,x13,x14,x15,x16,())
theorem Zwd a0:Eq (Zax a0) <| (Zfg a0).bind fun e0=>bif e0.1 !=0 then some ([],e0.1,()) else Zay fuel a0.1 a0.2.1 a0.2.2.1 a0.2.2.2.1 a0.2.2.2.2.1 a0.2.2.2.2.2.1 a0.2.2.2.2.2.2.1 a0.2.2.2.2.2.2.2.1 a0.2.2.2.2.2.2.2.2.1 a0.2.2.2.2.2.2.2.2.2.1 a0.2.2.2.2.2.2.2.2.2.2.1 a0.2.2.2.2.2.2.2.2.2.2.2.1 a0.2.2.2.2.2.2.2.2.2.2.2.2.1 a0.2.2.2.2.2.2.2.2.2.2.2.2.2.1 ([]) (ofNat a0.2.2.2.2.2.2.2.2.2.2.2.2.1.length) 0:=mkE
theorem Zkv n x0 x1 x2 x3 x4 x5 x6 x7 x8 x9 x10 x11 x12 x13 x14 x15 x16:Eq (Zay (n+1) x0 x1 x2 x3 x4 x5 x6 x7 x8 x9 x10 x11 x12 x13 x14 x15 x16) <| bif x16<x15 then (Q5 (x0,x1,x2,x3,x4,x5,x6,x7,x8,x9,x10,x11,x12,x13,()) x16).bind fun e0=>bif e0.2.1 !=0 then some ([],e0.2.1,()) else bif e0.1 then bif Zl (x14.length+List.length [(x16,())]) 8 then Zay n x0 x1 x2 x3 x4 x5 x6 x7 x8 x9 x10 x11 x12 x13 (x14++[(x16,())]) x15 (wrap .i64 (x16+1)) else none else Zay n x0 x1 x2 x3 x4 x5 x6 x7 x8 x9 x10 x11 x12 x13 x14 x15 (wrap .i64 (x16+1)) else some (x14,0,()):=mkI
def tab9:Tb:=[(7,Z82)]
def F9:TFun:=⟨[],[(16,qc [qn 1,qi,qn 6,qi,qn 25,[.c (.p (.sl Yq7))],qi,qi,qn 9])],[.a Yq1,.c di],[.c (.p di),.c (.p di)],qc [qn 4,qi,qi,qn 40],[],[],0⟩
def con9:=mkC tab9 prog 9 F9
theorem ok9:con9.ok prog 9:=mkO ⟨ok7p,trivial⟩
def Zbc (a0:Yy1)(a1:Int):Option (Int×Int×Unit):=con9.fn (a0,a1,())
def Zaj (n:Nat)(x0 x1:Int)(x2:Yy6)(x3 x4:Int):Option (Int×Int×Unit):=itr tab9 prog 9 F9 n 16 (x0,x1,x2,x3,x4,())
theorem Zqt a0 a1:Eq (Zbc a0 a1) <| (Zax a0).bind fun e0=>bif e0.2.1 !=0 then some (0,e0.2.1,()) else bif a1<0 then some (0,51,()) else bif a1>ofNat a0.2.2.2.2.2.2.2.2.2.2.2.2.1.length then some (0,51,()) else bif ofNat e0.1.length==0 then some (0,6,()) else (e0.1[0]?).bind fun e1=>Zaj fuel a1 e1.1 e0.1 (ofNat e0.1.length) 0:=mkE
theorem Zf2 n x0 x1 x2 x3 x4:Eq (Zaj (n+1) x0 x1 x2 x3 x4) <| bif x4<x3 then ix x2 x4 fun e0=>bif e0.1≥x0 then some (e0.1,0,()) else Zaj n x0 x1 x2 x3 (wrap .i64 (x4+1)) else some (x1,0,()):=mkI
end
end Tg
