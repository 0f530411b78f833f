import Derived.Test.YtmkhomfchbmkfaaGreatDoorVVb3
import Derived.Test.YtmkhomfchbmkfaaGreatDoorVXb6
/- Functions of the code, told plainly and checked by the kernel. -/
set_option linter.unusedVariables false
set_option linter.unusedSimpArgs false
set_option maxRecDepth 100000
namespace Tg
noncomputable section
open Go.Abs hiding fuel
open Go.Proofs.Tryz (prog)
open Int (ofNat toNat)
open Go.IntKind (wrap)
def Yv2:Tb:=[]
def F63:TFun:=⟨[],[],[.c di],[.c (.p db)],qc [qn 2,qb,qn 6],[],[],0⟩
def Ylh:=mkC Yv2 prog 63 F63
theorem ok63:Ylh.ok prog 63:=mkO trivial
def Zgd (a0:Int):Option (Bool×Unit):=Ylh.fn (a0,())
theorem Z8j a0:Eq (Zgd a0) <| bif a0>=(-1099511627776) then some (decide (a0<=1099511627776),()) else some (false,()):=mkE
def Yp7:Tb:=[(63,Ylh)]
def F20:TFun:=⟨[],[(6,qc [qn 10,[.c (.p (.sl Qq4))],qi,qi,qn 42])],[.c (.sl Qq4)],[.c (.p di)],qc [qn 2,qi,qn 52],[],[],0⟩
def Yli:=mkC Yp7 prog 20 F20
theorem ok20:Yli.ok prog 20:=mkO ⟨ok63,trivial⟩
def Zpt (a0:(List Qy6)):Option (Int×Unit):=Yli.fn (a0,())
def Zcd (n:Nat)(x0:(List Qy6))(x1 x2:Int):Option (Int×Unit):=itr Yp7 prog 20 F20 n 6 (x0,x1,x2,())
theorem Z4q a0:Eq (Zpt a0) <| bif ofNat a0.length>60 then some (4,()) else Zcd fuel a0 (ofNat a0.length) 0:=mkE
theorem Zo2 n x0 x1 x2:Eq (Zcd (n+1) x0 x1 x2) <| bif x2<x1 then bif 0<=x2 then match x0[x2.toNat]? with | none=>none | some e0=>let k2:Option (Int×Unit):=bif !e0.1 then some (8,()) else Zcd n x0 x1 (wrap .i64 (x2+1));let k4:=Zcd n x0 x1 (wrap .i64 (x2+1));let k6:Option (Int×Unit):=some (8,());bif e0.2.2.1==0&&(e0.2.2.2.1==0&&(e0.2.2.2.2.1==0&&true)) then match Zgd e0.2.1 with | none=>none | some e1=>bif e1.1 then bif e0.2.1==0 then match Zgd e0.2.2.2.1 with | none=>none | some e2=>bif e0.1 then bif !e0.1 then bif !e2.1 then k6 else k4 else k4 else bif !e0.1 then bif !e2.1 then k6 else k4 else k4 else bif e0.1 then k2 else k2 else bif e0.2.1==0 then match Zgd e0.2.2.2.1 with | none=>none | some e2=>bif e0.1 then bif !e0.2.1==9223372036854775807 then k6 else bif !e0.1 then bif !e2.1 then k6 else k4 else k4 else bif !e0.1 then bif !e2.1 then k6 else k4 else k4 else bif e0.1 then bif !e0.2.1==9223372036854775807 then k6 else k2 else k2 else bif e0.2.1==0 then match Zgd e0.2.2.2.1 with | none=>none | some e1=>bif e0.1 then k6 else bif !e0.1 then bif !e1.1 then k6 else k4 else k4 else bif e0.1 then k6 else k2 else none else some (0,()):=mkI
def Ylj:TCon:=Zqr 80 5 40 Qq13
theorem ok21:Ylj.ok prog 21:=Zlr (zero:=[.p (.int .u8 0),.p (.int .i64 0),.p (.int .i64 0),.p (.int .i64 0),.p (.int .i64 0)]) (by kernel_rfl) rfl (by decide) rfl
def Yb1:TCon:=⟨[.c (.sl Qq13)],[.c (.p (.sl Qq13))],Ylj.fn⟩
theorem Yp8:Yb1.ok prog 21:=fun a r h=>TCon.frz (c:=Ylj) ok21 rfl a r h
def Ylk:TCon:=Zqr 3 1 8 Qq10
theorem ok22:Ylk.ok prog 22:=Zlr (zero:=[.p (.int .i64 0)]) (by kernel_rfl) rfl (by decide) rfl
def Yb2:TCon:=⟨[.c (.sl Qq10)],[.c (.p (.sl Qq10))],Ylk.fn⟩
theorem Yp9:Yb2.ok prog 22:=fun a r h=>TCon.frz (c:=Ylk) ok22 rfl a r h
def Yeo:Tb:=[]
def F34:TFun:=⟨[2,5,8],[(2,qc [qn 1,[.boxN 27 10 [.any,.any,.any,.p db,.any,.any,.any,.any,.p db,.p (.int .u8)]],qn 1,[.c (.rowN 5 1 [.int .u8])],qn 37]),(5,qc [qn 1,[.boxN 27 10 [.any,.any,.any,.p db,.any,.any,.any,.any,.any,.p (.int .u8)]],qn 1,[.c (.rowN 5 1 [.int .u8])],qn 37]),(8,qc [qn 1,[.boxN 27 10 [.any,.any,.any,.any,.any,.any,.any,.any,.any,.p (.int .u8)]],qn 1,[.c (.rowN 5 1 [.int .u8])],qn 37])],[.a Qq11],[.c (.s 5 1 [.int .u8])],qc [qn 2,[.c (.rowN 5 1 [.int .u8])],qn 38],[],[],0⟩
def Z8k:=mkC Yeo prog 34 F34
theorem ok34:Z8k.ok prog 34:=mkO trivial
def Yb3:TCon:=⟨Z8k.args,[.c (.p (.sl [.int .u8]))],Z8k.fn⟩
theorem Yqa:Yb3.ok prog 34:=TCon.frz (c:=Z8k) ok34 rfl
def Zju (a0:Qy7):Option Qy11:=Z8k.fn (a0,())
def Ze1 (n:Nat)(x0 x1:Bool)(x2:Int)(x3:Qy9):Option Qy11:=itr Yeo prog 34 F34 n 2 (x0,x1,x2,x3,())
def Zid (n:Nat)(x0:Bool)(x1:Int)(x2:Qy9):Option Qy11:=itr Yeo prog 34 F34 n 5 (x0,x1,x2,())
def Zie (n:Nat)(x0:Int)(x1:Qy9):Option Qy11:=itr Yeo prog 34 F34 n 8 (x0,x1,())
theorem Z4r a0:Eq (Zju a0) <| bif ofNat a0.2.2.2.2.1.length>0 then Ze1 fuel a0.2.2.2.1 a0.2.2.2.2.2.2.2.2.1 a0.2.2.2.2.2.2.2.2.2.1 ([(1,()),(2,())]++[(3,())]) else Ze1 fuel a0.2.2.2.1 a0.2.2.2.2.2.2.2.2.1 a0.2.2.2.2.2.2.2.2.2.1 ([(1,()),(2,())]):=mkE
theorem Zzw n x0 x1 x2 x3:Eq (Ze1 (n+1) x0 x1 x2 x3) <| bif Zb (x3.length+1) 1 then bif x1 then bif Zb (List.length (x3++[(4,())])+1) 1 then Zid n x0 x2 (x3++[(4,())]++[(5,())]) else none else Zid n x0 x2 (x3++[(4,())]) else none:=mkI
theorem Zzx n x0 x1 x2:Eq (Zid (n+1) x0 x1 x2) <| bif Zb (x2.length+1) 1 then bif x0 then bif Zb (List.length (x2++[(6,())])+1) 1 then Zie n x1 (x2++[(6,())]++[(8,())]) else none else bif Zb (List.length (x2++[(6,())])+1) 1 then Zie n x1 (x2++[(6,())]++[(7,())]) else none else none:=mkI
theorem Zzy n x0 x1:Eq (Zie (n+1) x0 x1) <| bif Zb (x1.length+1) 1 then bif x0==2 then bif Zb (List.length (x1++[(9,())])+1) 1 then some ((x1++[(9,())]++[(10,())],())) else none else some ((x1++[(9,())],())) else none:=mkI
def tab7:Tb:=[(19,Z10),(21,Yb1),(22,Yb2),(34,Yb3)]
def F7:TFun:=⟨[],[],[.a Qq11],[.a [.p (.sl [.int .u8]),.p (.int .u8),.p (.sl Qq5),.p (.sl Qq10),.p db,.p (.sl Qq5),.p (.int .u8),.p di,.p di,.p db,.p (.int .u8)],.c (.p di)],qc [qn 2,[.boxN 44 11 [.p (.sl [.int .u8]),.p (.int .u8),.p (.sl Qq5),.p (.sl Qq10),.p db,.p (.sl Qq5),.p (.int .u8),.p di,.p di,.p db,.p (.int .u8)]],qi,qn 27],[],[],0⟩
def con7:=mkC tab7 prog 7 F7
theorem ok7:con7.ok prog 7:=mkO ⟨ok19,Yp8,Yp9,Yqa,trivial⟩
def Zra (a0:Qy7):Option (Qy8×Int×Unit):=con7.fn (a0,())
theorem Ygf a0:Eq (Zra a0) <| match Q7 a0 with | none=>none | some e0=>bif e0.2.1 !=0 then some ((([],0,[],[],false,[],0,0,0,false,0,()),e0.2.1,())) else match Zf 40 a0.2.1 with | none=>none | some e1=>match Zf 8 a0.2.2.1 with | none=>none | some e2=>match Zf 40 a0.2.2.2.2.1 with | none=>none | some e3=>match Zju (a0.1,e1.1,e2.1,a0.2.2.2.1,e3.1,a0.2.2.2.2.2) with | none=>none | some e4=>some ((e4.1,a0.1,e1.1,e2.1,a0.2.2.2.1,e3.1,a0.2.2.2.2.2),0,()):=mkE
def Yqb:Tb:=[]
def F69:TFun:=⟨[],[(6,qc [[.c (.p (.sl [.int .u8]))],[.c (.p (.sl [.int .u8]))],qn 10,qi,qi,qn 12])],[.c (.sl [.int .u8]),.c (.sl [.int .u8])],[.c (.p db)],qc [qn 4,qb,qn 21],[],[],0⟩
def Yll:=mkC Yqb prog 69 F69
theorem ok69:Yll.ok prog 69:=mkO trivial
def X5 (a0 a1:Qy9):Option (Bool×Unit):=Yll.fn (a0,a1,())
def Yf (n:Nat)(x0 x1:Qy9)(x2 x3:Int):Option (Bool×Unit):=itr Yqb prog 69 F69 n 6 (x0,x1,x2,x3,())
theorem Zfe a0 a1:Eq (X5 a0 a1) <| bif ofNat a0.length !=ofNat a1.length then some (false,()) else Yf fuel a0 a1 (ofNat a0.length) 0:=mkE
theorem Zax n x0 x1 x2 x3:Eq (Yf (n+1) x0 x1 x2 x3) <| bif x3<x2 then bif 0<=x3 then match x0[x3.toNat]? with | none=>none | some e0=>bif 0<=x3 then match x1[x3.toNat]? with | none=>none | some e1=>bif e0.1 !=e1.1 then some (false,()) else Yf n x0 x1 x2 (wrap .i64 (x3+1)) else none else none else some (true,()):=mkI
def Yv3:Tb:=[(19,Z10),(34,Yb3),(69,Yll)]
def F35:TFun:=⟨[],[],[.a Qq12],[.c (.p di)],qc [qn 2,qi,qn 18],[],[],0⟩
def Ylm:=mkC Yv3 prog 35 F35
theorem ok35:Ylm.ok prog 35:=mkO ⟨ok19,Yqa,ok69,trivial⟩
def Zhb (a0:Qy8):Option (Int×Unit):=Ylm.fn (a0,())
theorem Z4s a0:Eq (Zhb a0) <| match Q7 a0.2 with | none=>none | some e0=>bif e0.2.1 !=0 then some (e0.2.1,()) else match Zju a0.2 with | none=>none | some e1=>match X5 a0.1 e1.1 with | none=>none | some e2=>bif !e2.1 then some (8,()) else some (0,()):=mkE
def tab8:Tb:=[(35,Ylm)]
def F8:TFun:=⟨[13,25,38,52,54,66,78,93,86,99,114],[(13,qc [qn 1,qi,qn 1,[.boxN 44 11 [.any,.any,.any,.any,.p db,.any,.any,.any,.any,.p db,.p (.int .u8)]],qn 1,[.boxN 3 1 [.p di]],[.boxN 34 2 [.nil,.nil]],qn 2,qi,[.boxN 34 2 [.rowN 61 2 Qq7,.nil]],[.fnS 36 [.ptr 3 0]],[.fnS 37 [.ptr 3 0,.ptr 1 0]],qn 147]),(19,qc [[.c (.p (.int .u8))],qn 1,[.boxN 34 2 [.rowN 61 2 Qq7,.nil]],qn 5,[.c (.ptr 0 0)],qn 2,qi,qi,qn 13,qi,qn 1,[.boxN 44 11 [.any,.any,.any,.any,.p db,.any,.any,.any,.any,.p db,.p (.int .u8)]],qn 1,[.boxN 3 1 [.p di]],[.boxN 34 2 [.nil,.nil]],qn 2,qi,[.c (.ptr 0 0)],[.fnS 36 [.ptr 0 0]],[.fnS 37 [.ptr 0 0,.ptr 3 0]],qn 147]),(25,qc [qn 1,qi,qn 1,[.boxN 44 11 [.any,.any,.any,.any,.p db,.any,.any,.any,.any,.p db,.p (.int .u8)]],qn 1,[.boxN 3 1 [.p di]],[.boxN 34 2 [.nil,.nil]],qn 2,qi,[.boxN 34 2 [.rowN 61 2 Qq7,.nil]],[.fnS 36 [.ptr 3 0]],[.fnS 37 [.ptr 3 0,.ptr 1 0]],qi,qn 146]),(31,qc [[.c (.p (.int .u8))],qn 1,[.boxN 34 2 [.rowN 61 2 Qq7,.nil]],qn 3,qi,qn 1,[.c (.ptr 0 0)],qn 2,qi,qi,qn 13,qi,qn 1,[.boxN 44 11 [.any,.any,.any,.any,.p db,.any,.any,.any,.any,.p db,.p (.int .u8)]],qn 1,[.boxN 3 1 [.p di]],[.boxN 34 2 [.nil,.nil]],qn 2,qi,[.c (.ptr 0 0)],[.fnS 36 [.ptr 0 0]],[.fnS 37 [.ptr 0 0,.ptr 3 0]],qn 147]),(38,qc [qn 1,qi,qn 1,[.boxN 44 11 [.any,.any,.any,.any,.p db,.any,.any,.any,.any,.p db,.p (.int .u8)]],qn 1,[.boxN 3 1 [.p di]],[.boxN 34 2 [.nil,.nil]],qn 2,qi,[.boxN 34 2 [.rowN 61 2 Qq7,.nil]],[.fnS 36 [.ptr 3 0]],[.fnS 37 [.ptr 3 0,.ptr 1 0]],qi,qi,qn 145]),(45,qc [[.c (.p (.int .u8))],qn 1,[.boxN 34 2 [.rowN 61 2 Qq7,.nil]],qn 3,qi,qn 1,[.c (.ptr 0 0)],qn 2,qi,qi,qn 13,qi,qn 1,[.boxN 44 11 [.any,.any,.any,.any,.p db,.any,.any,.any,.any,.p db,.p (.int .u8)]],qn 1,[.boxN 3 1 [.p di]],[.boxN 34 2 [.nil,.nil]],qn 2,qi,[.c (.ptr 0 0)],[.fnS 36 [.ptr 0 0]],[.fnS 37 [.ptr 0 0,.ptr 3 0]],qi,qn 146]),(52,qc [qn 1,qi,qn 1,[.boxN 44 11 [.any,.any,.any,.any,.any,.any,.any,.any,.any,.p db,.p (.int .u8)]],qn 1,[.boxN 3 1 [.p di]],[.boxN 34 2 [.nil,.nil]],qn 2,qi,[.boxN 34 2 [.rowN 61 2 Qq7,.nil]],[.fnS 36 [.ptr 3 0]],[.fnS 37 [.ptr 3 0,.ptr 1 0]],qi,qi,[.c (.p (.int .u8))],qn 144]),(54,qc [qn 1,qi,qn 1,[.boxN 44 11 [.any,.any,.any,.any,.any,.any,.any,.any,.any,.p db,.p (.int .u8)]],qn 1,[.boxN 3 1 [.p di]],[.boxN 34 2 [.nil,.nil]],qn 2,qi,[.boxN 34 2 [.rowN 61 2 Qq7,.nil]],[.fnS 36 [.ptr 3 0]],[.fnS 37 [.ptr 3 0,.ptr 1 0]],qi,qi,qn 1,qi,qn 143]),(60,qc [[.c (.p (.int .u8))],qn 1,[.boxN 34 2 [.rowN 61 2 Qq7,.nil]],qn 3,qi,qn 1,[.c (.ptr 0 0)],qn 2,qi,qi,qn 13,qi,qn 1,[.boxN 44 11 [.any,.any,.any,.any,.any,.any,.any,.any,.any,.p db,.p (.int .u8)]],qn 1,[.boxN 3 1 [.p di]],[.boxN 34 2 [.nil,.nil]],qn 2,qi,[.c (.ptr 0 0)],[.fnS 36 [.ptr 0 0]],[.fnS 37 [.ptr 0 0,.ptr 3 0]],qi,qi,qn 145]),(66,qc [qn 1,qi,qn 1,[.boxN 44 11 [.any,.any,.any,.any,.any,.any,.any,.any,.any,.p db,.p (.int .u8)]],qn 1,[.boxN 3 1 [.p di]],[.boxN 34 2 [.nil,.nil]],qn 2,qi,[.boxN 34 2 [.rowN 61 2 Qq7,.nil]],[.fnS 36 [.ptr 3 0]],[.fnS 37 [.ptr 3 0,.ptr 1 0]],qi,qi,qn 1,qi,qi,qn 142]),(72,qc [[.c (.p (.int .u8))],qn 1,[.boxN 34 2 [.rowN 61 2 Qq7,.nil]],qn 3,qi,qn 1,[.c (.ptr 0 0)],qn 2,qi,qi,qn 13,qi,qn 1,[.boxN 44 11 [.any,.any,.any,.any,.any,.any,.any,.any,.any,.p db,.p (.int .u8)]],qn 1,[.boxN 3 1 [.p di]],[.boxN 34 2 [.nil,.nil]],qn 2,qi,[.c (.ptr 0 0)],[.fnS 36 [.ptr 0 0]],[.fnS 37 [.ptr 0 0,.ptr 3 0]],qi,qi,qn 1,qi,qn 143]),(78,qc [qn 1,qi,qn 1,[.boxN 44 11 [.any,.any,.any,.any,.any,.any,.any,.any,.any,.p db,.p (.int .u8)]],qn 1,[.boxN 3 1 [.p di]],[.boxN 34 2 [.nil,.nil]],qn 2,qi,[.boxN 34 2 [.rowN 61 2 Qq7,.rowN 89 5 Qq3]],[.fnS 36 [.ptr 3 0]],[.fnS 37 [.ptr 3 0,.ptr 1 0]],qi,qi,qn 1,qi,qi,qn 142]),(80,qc [qn 1,qi,qn 1,[.boxN 44 11 [.any,.any,.any,.any,.any,.any,.any,.any,.any,.p db,.p (.int .u8)]],qn 1,[.boxN 3 1 [.p di]],[.boxN 34 2 [.nil,.nil]],qn 2,qi,[.boxN 34 2 [.rowN 61 2 Qq7,.rowN 89 5 Qq3]],[.fnS 36 [.ptr 3 0]],[.fnS 37 [.ptr 3 0,.ptr 1 0]],qi,qi,qn 1,qi,qi,qn 54,qi,qi,qn 86]),(86,qc [qn 1,qi,qn 1,[.boxN 44 11 [.any,.any,.any,.any,.any,.any,.any,.any,.any,.p db,.p (.int .u8)]],qn 1,[.boxN 3 1 [.p di]],[.boxN 34 2 [.nil,.nil]],qn 2,qi,[.boxN 34 2 [.rowN 61 2 Qq7,.rowN 89 5 Qq3]],[.fnS 36 [.ptr 3 0]],[.fnS 37 [.ptr 3 0,.ptr 1 0]],qn 1,qi,qn 1,qi,qi,qn 142]),(88,qc [qn 1,qi,qn 1,[.boxN 44 11 [.any,.any,.any,.any,.any,.any,.any,.any,.any,.p db,.p (.int .u8)]],qn 1,[.boxN 3 1 [.p di]],[.boxN 34 2 [.nil,.nil]],qn 2,qi,[.boxN 34 2 [.rowN 61 2 Qq7,.rowN 89 5 Qq3]],[.fnS 36 [.ptr 3 0]],[.fnS 37 [.ptr 3 0,.ptr 1 0]],qi,qi,qn 1,qi,qi,qn 65,qi,qi,qn 75]),(93,qc [qn 1,qi,qn 1,[.boxN 44 11 [.any,.any,.any,.any,.any,.any,.any,.any,.any,.p db,.p (.int .u8)]],qn 1,[.boxN 3 1 [.p di]],[.boxN 34 2 [.nil,.nil]],qn 2,qi,[.boxN 34 2 [.rowN 61 2 Qq7,.rowN 89 5 Qq3]],[.fnS 36 [.ptr 3 0]],[.fnS 37 [.ptr 3 0,.ptr 1 0]],qi,qi,qn 1,qi,qi,qn 1,qi,qn 63,qi,qi,qn 75]),(99,qc [qn 1,qi,qn 1,[.boxN 44 11 [.any,.any,.any,.any,.any,.any,.any,.any,.any,.any,.p (.int .u8)]],qn 1,[.boxN 3 1 [.p di]],[.boxN 34 2 [.nil,.nil]],qn 3,[.boxN 34 2 [.rowN 61 2 Qq7,.rowN 89 5 Qq3]],[.fnS 36 [.ptr 3 0]],[.fnS 37 [.ptr 3 0,.ptr 1 0]],qn 3,qi,qi,qn 142]),(101,qc [qn 1,qi,qn 1,[.boxN 44 11 [.any,.any,.any,.any,.any,.any,.any,.any,.any,.p db,.p (.int .u8)]],qn 1,[.boxN 3 1 [.p di]],[.boxN 34 2 [.nil,.nil]],qn 3,[.boxN 34 2 [.rowN 61 2 Qq7,.rowN 89 5 Qq3]],[.fnS 36 [.ptr 3 0]],[.fnS 37 [.ptr 3 0,.ptr 1 0]],qn 1,qi,qn 1,qi,qi,qn 100,qi,qi,qn 40]),(107,qc [qn 1,qi,qn 1,[.boxN 44 11 [.any,.any,.any,.any,.any,.any,.any,.any,.any,.p db,.p (.int .u8)]],qn 1,[.boxN 3 1 [.p di]],[.boxN 34 2 [.nil,.nil]],qn 3,[.boxN 34 2 [.rowN 61 2 Qq7,.rowN 89 5 Qq3]],[.fnS 36 [.ptr 3 0]],[.fnS 37 [.ptr 3 0,.ptr 1 0]],qn 1,qi,qn 1,qi,qi,qn 2,qi,qn 97,qi,qi,qn 2,qi,qi,qn 36]),(114,qc [qn 3,[.boxN 44 11 [.any,.any,.any,.any,.any,.any,.any,.any,.any,.any,.p (.int .u8)]],qn 2,[.boxN 34 2 [.nil,.nil]],qn 3,[.boxN 34 2 [.rowN 61 2 Qq7,.rowN 89 5 Qq3]],[.fnS 36 [.ptr 2 0]],qn 148]),(116,qc [qn 3,[.boxN 44 11 [.any,.any,.any,.any,.any,.any,.any,.any,.any,.any,.p (.int .u8)]],qn 1,[.boxN 3 1 [.p di]],[.boxN 34 2 [.nil,.nil]],qn 3,[.boxN 34 2 [.rowN 61 2 Qq7,.rowN 89 5 Qq3]],[.fnS 36 [.ptr 3 0]],[.fnS 37 [.ptr 3 0,.ptr 1 0]],qn 3,qi,qi,qn 123,qi,qi,qn 17]),(129,qc [[.c (.p (.int .u8))],qn 1,[.boxN 34 2 [.rowN 61 2 Qq7,.rowN 89 5 Qq3]],qn 8,qi,qi,qn 18,[.boxN 34 2 [.nil,.nil]],qn 3,[.c (.ptr 0 0)],qn 149])],[.a Qq12,.c di,.c di],[.a [.s 61 2 Qq7,.s 89 5 Qq3],.c (.p di)],qc [qn 6,[.boxN 34 2 [.rowN 61 2 Qq7,.rowN 89 5 Qq3]],qi,qn 152],[(124,[36]),(121,[37]),(113,[37]),(98,[37]),(96,[37]),(95,[37]),(85,[37]),(67,[36]),(55,[36]),(40,[36]),(26,[36]),(14,[36])],[(19,[160]),(31,[160]),(45,[160]),(60,[160]),(72,[160]),(129,[160])],8⟩
def con8:=mkC tab8 prog 8 F8
theorem ok8:con8.ok prog 8:=mkO ⟨ok35,trivial⟩
def Yln:TCon:=⟨con8.args,[.a [.p (.sl Qq7),.p (.sl Qq3)],.c (.p di)],con8.fn⟩
theorem ok8p:Yln.ok prog 8:=TCon.frz (c:=con8) ok8 rfl
def Ziv (a0:Qy8)(a1 a2:Int):Option Qy4:=con8.fn (a0,a1,a2,())
def Zjv (n:Nat)(x0:Int)(x1 x2:Bool)(x3 x4 x5:Int)(x6:Qy5):Option Qy4:=itr tab8 prog 8 F8 n 13 (x0,x1,x2,x3,x4,x5,x6,())
def Q8 (n:Nat)(x0:Int)(x1:Qy5)(x2 x3 x4:Int)(x5 x6:Bool)(x7 x8 x9:Int):Option Qy4:=itr tab8 prog 8 F8 n 19 (x0,x1,x2,x3,x4,x5,x6,x7,x8,x9,())
def Zjw (n:Nat)(x0:Int)(x1 x2:Bool)(x3 x4 x5:Int)(x6:Qy5)(x7:Int):Option Qy4:=itr tab8 prog 8 F8 n 25 (x0,x1,x2,x3,x4,x5,x6,x7,())
def Zf2 (n:Nat)(x0:Int)(x1:Qy5)(x2 x3 x4 x5:Int)(x6 x7:Bool)(x8 x9 x10:Int):Option Qy4:=itr tab8 prog 8 F8 n 31 (x0,x1,x2,x3,x4,x5,x6,x7,x8,x9,x10,())
def Zf3 (n:Nat)(x0:Int)(x1 x2:Bool)(x3 x4 x5:Int)(x6:Qy5)(x7 x8:Int):Option Qy4:=itr tab8 prog 8 F8 n 38 (x0,x1,x2,x3,x4,x5,x6,x7,x8,())
def Zf4 (n:Nat)(x0:Int)(x1:Qy5)(x2 x3 x4 x5:Int)(x6 x7:Bool)(x8 x9 x10 x11:Int):Option Qy4:=itr tab8 prog 8 F8 n 45 (x0,x1,x2,x3,x4,x5,x6,x7,x8,x9,x10,x11,())
def Zf5 (n:Nat)(x0:Int)(x1:Bool)(x2 x3 x4:Int)(x5:Qy5)(x6 x7 x8:Int):Option Qy4:=itr tab8 prog 8 F8 n 52 (x0,x1,x2,x3,x4,x5,x6,x7,x8,())
def Zjx (n:Nat)(x0:Int)(x1:Bool)(x2 x3 x4:Int)(x5:Qy5)(x6 x7 x8:Int):Option Qy4:=itr tab8 prog 8 F8 n 54 (x0,x1,x2,x3,x4,x5,x6,x7,x8,())
def Zf6 (n:Nat)(x0:Int)(x1:Qy5)(x2 x3 x4 x5:Int)(x6:Bool)(x7 x8 x9 x10 x11:Int):Option Qy4:=itr tab8 prog 8 F8 n 60 (x0,x1,x2,x3,x4,x5,x6,x7,x8,x9,x10,x11,())
def Zjy (n:Nat)(x0:Int)(x1:Bool)(x2 x3 x4:Int)(x5:Qy5)(x6 x7 x8 x9:Int):Option Qy4:=itr tab8 prog 8 F8 n 66 (x0,x1,x2,x3,x4,x5,x6,x7,x8,x9,())
def Zf7 (n:Nat)(x0:Int)(x1:Qy5)(x2 x3 x4 x5:Int)(x6:Bool)(x7 x8 x9 x10 x11 x12:Int):Option Qy4:=itr tab8 prog 8 F8 n 72 (x0,x1,x2,x3,x4,x5,x6,x7,x8,x9,x10,x11,x12,())
def Zjz (n:Nat)(x0:Int)(x1:Bool)(x2 x3 x4:Int)(x5:Qy5)(x6:(List Qy2))(x7 x8 x9 x10:Int):Option Qy4:=itr tab8 prog 8 F8 n 78 (x0,x1,x2,x3,x4,x5,x6,x7,x8,x9,x10,())
def Zf8 (n:Nat)(x0:Int)(x1:Bool)(x2 x3 x4:Int)(x5:Qy5)(x6:(List Qy2))(x7 x8 x9 x10 x11 x12:Int):Option Qy4:=itr tab8 prog 8 F8 n 80 (x0,x1,x2,x3,x4,x5,x6,x7,x8,x9,x10,x11,x12,())
def Zj0 (n:Nat)(x0:Int)(x1:Bool)(x2 x3 x4:Int)(x5:Qy5)(x6:(List Qy2))(x7 x8 x9:Int):Option Qy4:=itr tab8 prog 8 F8 n 86 (x0,x1,x2,x3,x4,x5,x6,x7,x8,x9,())
def Zdz (n:Nat)(x0:Int)(x1:Bool)(x2 x3 x4:Int)(x5:Qy5)(x6:(List Qy2))(x7 x8 x9 x10 x11 x12:Int):Option Qy4:=itr tab8 prog 8 F8 n 88 (x0,x1,x2,x3,x4,x5,x6,x7,x8,x9,x10,x11,x12,())
def Zf9 (n:Nat)(x0:Int)(x1:Bool)(x2 x3 x4:Int)(x5:Qy5)(x6:(List Qy2))(x7 x8 x9 x10 x11 x12 x13:Int):Option Qy4:=itr tab8 prog 8 F8 n 93 (x0,x1,x2,x3,x4,x5,x6,x7,x8,x9,x10,x11,x12,x13,())
def Zj1 (n:Nat)(x0 x1 x2:Int)(x3:Qy5)(x4:(List Qy2))(x5 x6:Int):Option Qy4:=itr tab8 prog 8 F8 n 99 (x0,x1,x2,x3,x4,x5,x6,())
def Ze2 (n:Nat)(x0:Int)(x1:Bool)(x2 x3:Int)(x4:Qy5)(x5:(List Qy2))(x6 x7 x8 x9 x10:Int):Option Qy4:=itr tab8 prog 8 F8 n 101 (x0,x1,x2,x3,x4,x5,x6,x7,x8,x9,x10,())
def Zce (n:Nat)(x0:Int)(x1:Bool)(x2 x3:Int)(x4:Qy5)(x5:(List Qy2))(x6 x7 x8 x9 x10 x11 x12 x13:Int):Option Qy4:=itr tab8 prog 8 F8 n 107 (x0,x1,x2,x3,x4,x5,x6,x7,x8,x9,x10,x11,x12,x13,())
def Zif (n:Nat)(x0:Int)(x1:Qy5)(x2:(List Qy2)):Option Qy4:=itr tab8 prog 8 F8 n 114 (x0,x1,x2,())
def Ze3 (n:Nat)(x0 x1:Int)(x2:Qy5)(x3:(List Qy2))(x4 x5 x6 x7:Int):Option Qy4:=itr tab8 prog 8 F8 n 116 (x0,x1,x2,x3,x4,x5,x6,x7,())
def Ze4 (n:Nat)(x0:Int)(x1:Qy5)(x2:(List Qy2))(x3 x4:Int):Option Qy4:=itr tab8 prog 8 F8 n 129 (x0,x1,x2,x3,x4,())
theorem Yb4 a0 a1 a2:Eq (Ziv a0 a1 a2) <| match Zhb a0 with | none=>none | some e0=>bif e0.1 !=0 then some ((([],[],()),e0.1,())) else let k1:=some ((([],[],()),2,()));bif a1<1 then k1 else bif a1>3 then k1 else bif a2<1 then k1 else bif a2>8 then k1 else Q8 fuel 1 ([]) (ofNat a0.2.2.2.1.length) 0 a1 a0.2.2.2.2.1 a0.2.2.2.2.2.2.2.2.2.1 a0.2.2.2.2.2.2.2.2.2.2.1 a2 (ofNat a0.2.2.2.1.length):=mkE
theorem Z4t n x0 x1 x2 x3 x4 x5 x6:Eq (Zjv (n+1) x0 x1 x2 x3 x4 x5 x6) <| Zf2 n 2 x6 (ofNat x6.length) x5 0 x0 x1 x2 x3 x4 x5:=mkI
theorem Z4u n x0 x1 x2 x3 x4 x5 x6 x7 x8 x9:Eq (Q8 (n+1) x0 x1 x2 x3 x4 x5 x6 x7 x8 x9) <| bif x3<x2 then bif Zb (x1.length+List.length [(x0,x3,())]) 16 then Q8 n x0 (x1++[(x0,x3,())]) x2 (wrap .i64 (x3+1)) x4 x5 x6 x7 x8 x9 else none else Zjv n x4 x5 x6 x7 x8 x9 x1:=mkI
theorem Z4v n x0 x1 x2 x3 x4 x5 x6 x7:Eq (Zjw (n+1) x0 x1 x2 x3 x4 x5 x6 x7) <| bif x2 then Zf4 n 3 x6 (ofNat x6.length) x5 0 x0 x1 x2 x3 x4 x5 x7 else Zf3 n 1 x1 x2 x3 x4 x5 x6 x7 x7:=mkI
theorem Z4w n x0 x1 x2 x3 x4 x5 x6 x7 x8 x9 x10:Eq (Zf2 (n+1) x0 x1 x2 x3 x4 x5 x6 x7 x8 x9 x10) <| bif x4<x3 then bif Zb (x1.length+List.length [(x0,x4,())]) 16 then Zf2 n x0 (x1++[(x0,x4,())]) x2 x3 (wrap .i64 (x4+1)) x5 x6 x7 x8 x9 x10 else none else Zjw n x5 x6 x7 x8 x9 x10 x1 x2:=mkI
theorem Z4x n x0 x1 x2 x3 x4 x5 x6 x7 x8:Eq (Zf3 (n+1) x0 x1 x2 x3 x4 x5 x6 x7 x8) <| bif x1 then Zf5 n x0 x2 x3 x4 x5 x6 x7 x8 5 else Zf5 n x0 x2 x3 x4 x5 x6 x7 x8 4:=mkI
theorem Z4y n x0 x1 x2 x3 x4 x5 x6 x7 x8 x9 x10 x11:Eq (Zf4 (n+1) x0 x1 x2 x3 x4 x5 x6 x7 x8 x9 x10 x11) <| bif x4<x3 then bif Zb (x1.length+List.length [(x0,x4,())]) 16 then Zf4 n x0 (x1++[(x0,x4,())]) x2 x3 (wrap .i64 (x4+1)) x5 x6 x7 x8 x9 x10 x11 else none else Zf3 n x5 x6 x7 x8 x9 x10 x1 x11 x2:=mkI
theorem Z4z n x0 x1 x2 x3 x4 x5 x6 x7 x8:Eq (Zf5 (n+1) x0 x1 x2 x3 x4 x5 x6 x7 x8) <| Zf6 n x8 x5 (ofNat x5.length) x0 0 x0 x1 x2 x3 x4 x6 x7:=mkI
theorem Z40 n x0 x1 x2 x3 x4 x5 x6 x7 x8:Eq (Zjx (n+1) x0 x1 x2 x3 x4 x5 x6 x7 x8) <| Zf7 n 6 x5 (ofNat x5.length) 1 0 x0 x1 x2 x3 x4 x6 x7 x8:=mkI
theorem Z41 n x0 x1 x2 x3 x4 x5 x6 x7 x8 x9 x10 x11:Eq (Zf6 (n+1) x0 x1 x2 x3 x4 x5 x6 x7 x8 x9 x10 x11) <| bif x4<x3 then bif Zb (x1.length+List.length [(x0,x4,())]) 16 then Zf6 n x0 (x1++[(x0,x4,())]) x2 x3 (wrap .i64 (x4+1)) x5 x6 x7 x8 x9 x10 x11 else none else Zjx n x5 x6 x7 x8 x9 x1 x10 x11 x2:=mkI
theorem Z42 n x0 x1 x2 x3 x4 x5 x6 x7 x8 x9:Eq (Zjy (n+1) x0 x1 x2 x3 x4 x5 x6 x7 x8 x9) <| Zf8 n x0 x1 x2 x3 x4 x5 ([]) x6 x7 x8 x9 x4 0:=mkI
theorem Z43 n x0 x1 x2 x3 x4 x5 x6 x7 x8 x9 x10 x11 x12:Eq (Zf7 (n+1) x0 x1 x2 x3 x4 x5 x6 x7 x8 x9 x10 x11 x12) <| bif x4<x3 then bif Zb (x1.length+List.length [(x0,x4,())]) 16 then Zf7 n x0 (x1++[(x0,x4,())]) x2 x3 (wrap .i64 (x4+1)) x5 x6 x7 x8 x9 x10 x11 x12 else none else Zjy n x5 x6 x7 x8 x9 x1 x10 x11 x12 x2:=mkI
theorem Z44 n x0 x1 x2 x3 x4 x5 x6 x7 x8 x9 x10:Eq (Zjz (n+1) x0 x1 x2 x3 x4 x5 x6 x7 x8 x9 x10) <| Zdz n x0 x1 x2 x3 x4 x5 x6 x7 x8 x9 x10 x4 0:=mkI
theorem Z45 n x0 x1 x2 x3 x4 x5 x6 x7 x8 x9 x10 x11 x12:Eq (Zf8 (n+1) x0 x1 x2 x3 x4 x5 x6 x7 x8 x9 x10 x11 x12) <| bif x12<x11 then bif Zb (x6.length+List.length [(x12,0,wrap .i64 (x7+x12),0,x3,())]) 40 then Zf8 n x0 x1 x2 x3 x4 x5 (x6++[(x12,0,wrap .i64 (x7+x12),0,x3,())]) x7 x8 x9 x10 x11 (wrap .i64 (x12+1)) else none else Zjz n x0 x1 x2 x3 x4 x5 x6 x7 x8 x9 x10:=mkI
theorem Z46 n x0 x1 x2 x3 x4 x5 x6 x7 x8 x9:Eq (Zj0 (n+1) x0 x1 x2 x3 x4 x5 x6 x7 x8 x9) <| Ze2 n x0 x1 x2 x3 x5 x6 x7 x8 x9 x4 0:=mkI
theorem Z47 n x0 x1 x2 x3 x4 x5 x6 x7 x8 x9 x10 x11 x12:Eq (Zdz (n+1) x0 x1 x2 x3 x4 x5 x6 x7 x8 x9 x10 x11 x12) <| bif x12<x11 then bif x1 then bif Zb (x6.length+List.length [(wrap .i64 (x7+x12),0,wrap .i64 (x8+x12),0,x3,())]) 40 then Zf9 n x0 x1 x2 x3 x4 x5 (x6++[(wrap .i64 (x7+x12),0,wrap .i64 (x8+x12),0,x3,())]) x7 x8 x9 x10 x12 x11 x12 else none else bif Zb (x6.length+List.length [(wrap .i64 (x7+x12),0,x9,x12,x3,())]) 40 then Zf9 n x0 x1 x2 x3 x4 x5 (x6++[(wrap .i64 (x7+x12),0,x9,x12,x3,())]) x7 x8 x9 x10 x12 x11 x12 else none else Zj0 n x0 x1 x2 x3 x4 x5 x6 x8 x9 x10:=mkI
theorem Z48 n x0 x1 x2 x3 x4 x5 x6 x7 x8 x9 x10 x11 x12 x13:Eq (Zf9 (n+1) x0 x1 x2 x3 x4 x5 x6 x7 x8 x9 x10 x11 x12 x13) <| bif x2==2 then bif Zb (x6.length+List.length [(wrap .i64 (x7+x11),1,wrap .i64 (x10+1),x11,x3,())]) 40 then Zdz n x0 x1 x2 x3 x4 x5 (x6++[(wrap .i64 (x7+x11),1,wrap .i64 (x10+1),x11,x3,())]) x7 x8 x9 x10 x12 (wrap .i64 (x13+1)) else none else Zdz n x0 x1 x2 x3 x4 x5 x6 x7 x8 x9 x10 x12 (wrap .i64 (x13+1)):=mkI
theorem Z49 n x0 x1 x2 x3 x4 x5 x6:Eq (Zj1 (n+1) x0 x1 x2 x3 x4 x5 x6) <| Ze3 n x1 x2 x3 x4 x5 x6 x0 0:=mkI
theorem Zzz n x0 x1 x2 x3 x4 x5 x6 x7 x8 x9 x10:Eq (Ze2 (n+1) x0 x1 x2 x3 x4 x5 x6 x7 x8 x9 x10) <| bif x10<x9 then Zce n x0 x1 x2 x3 x4 x5 x6 x7 x8 x10 x9 x10 x0 0 else Zj1 n x0 x2 x3 x4 x5 x7 x8:=mkI
theorem Zz0 n x0 x1 x2 x3 x4 x5 x6 x7 x8 x9 x10 x11 x12 x13:Eq (Zce (n+1) x0 x1 x2 x3 x4 x5 x6 x7 x8 x9 x10 x11 x12 x13) <| bif x13<x12 then bif x1 then bif Zb (x5.length+List.length [(wrap .i64 (x6+x9),x13,wrap .i64 (x7+x13),x9,x3,())]) 40 then Zce n x0 x1 x2 x3 x4 (x5++[(wrap .i64 (x6+x9),x13,wrap .i64 (x7+x13),x9,x3,())]) x6 x7 x8 x9 x10 x11 x12 (wrap .i64 (x13+1)) else none else Zce n x0 x1 x2 x3 x4 x5 x6 x7 x8 x9 x10 x11 x12 (wrap .i64 (x13+1)) else Ze2 n x0 x1 x2 x3 x4 x5 x6 x7 x8 x10 (wrap .i64 (x11+1)):=mkI
theorem Zz1 n x0 x1 x2:Eq (Zif (n+1) x0 x1 x2) <| bif x0==2 then Ze4 n 7 x1 x2 1 0 else some (((x1,x2,()),0,())):=mkI
theorem Zz2 n x0 x1 x2 x3 x4 x5 x6 x7:Eq (Ze3 (n+1) x0 x1 x2 x3 x4 x5 x6 x7) <| bif x7<x6 then bif Zb (x3.length+List.length [(wrap .i64 (x4+x7),0,x5,x7,x1,())]) 40 then Ze3 n x0 x1 x2 (x3++[(wrap .i64 (x4+x7),0,x5,x7,x1,())]) x4 x5 x6 (wrap .i64 (x7+1)) else none else Zif n x0 x2 x3:=mkI
theorem Zz3 n x0 x1 x2 x3 x4:Eq (Ze4 (n+1) x0 x1 x2 x3 x4) <| bif x4<x3 then bif Zb (x1.length+List.length [(x0,x4,())]) 16 then Ze4 n x0 (x1++[(x0,x4,())]) x2 x3 (wrap .i64 (x4+1)) else none else some (((x1,x2,()),0,())):=mkI
def Yep:TCon:=Zqr 112 5 40 Qq14
theorem ok67:Yep.ok prog 67:=Zlr (zero:=[.p (.bool false),.p (.int .i64 0),.p (.int .i64 0),.p (.int .i64 0),.p (.int .i64 0)]) (by kernel_rfl) rfl (by decide) rfl
def Ylo:TCon:=⟨[.c (.sl Qq14)],[.c (.p (.sl Qq14))],Yep.fn⟩
theorem Yv4:Ylo.ok prog 67:=fun a r h=>TCon.frz (c:=Yep) ok67 rfl a r h
def Yqc:Tb:=[(65,Ydx),(67,Yep)]
def F24:TFun:=⟨[],[(17,qc [[.c (.p (.sl Qq4))],[.c (.fn 64 [])],qn 5,qi,qi,qn 19,qi,[.c (.p (.sl Qq4))],qn 2,[.boxN 69 9 [.any,.any,.any,.nil,.nil,.nil,.nil,.nil,.nil]],qn 22])],[.c di,.c (.sl Qq4)],[.a [.p (.int .u8),.p di,.p di,.p (.sl Qq2),.p (.sl Qq10),.p (.sl Qq1),.s 112 5 Qq4,.p (.sl Qq3),.p (.sl Qq6)],.c (.p di)],qc [qn 4,[.boxN 69 9 [.p (.int .u8),.p di,.p di,.p (.sl Qq2),.p (.sl Qq10),.p (.sl Qq1),.rowN 112 5 Qq4,.p (.sl Qq3),.p (.sl Qq6)]],qi,qn 21],[(23,[64]),(13,[96]),(10,[66])],[(17,[9,27])],8⟩
def Ylp:=mkC Yqc prog 24 F24
theorem ok24:Ylp.ok prog 24:=mkO ⟨ok65,ok67,trivial⟩
def Zpu (a0:Int)(a1:(List Qy6)):Option Qy10:=Ylp.fn (a0,a1,())
def Zd0 (n:Nat)(x0:(List Qy6))(x1 x2 x3:Int)(x4:(List Qy6)):Option Qy10:=itr Yqc prog 24 F24 n 17 (x0,x1,x2,x3,x4,())
theorem Z5a a0 a1:Eq (Zpu a0 a1) <| let k1:Option Qy10:=some (((0,0,0,[],[],[],[],[],[],()),2,()));bif a0<0 then k1 else bif a0>=4 then k1 else bif ofNat a1.length>60 then some (((0,0,0,[],[],[],[],[],[],()),4,())) else Zd0 fuel a1 (ofNat a1.length) 0 a0 a1:=mkE
theorem Zne n x0 x1 x2 x3 x4:Eq (Zd0 (n+1) x0 x1 x2 x3 x4) <| bif x2<x1 then bif 0<=x2 then match x0[x2.toNat]? with | none=>none | some e0=>match Zcb e0 with | none=>none | some e1=>bif e1.1 !=0 then bif x2>=0 then some (((0,0,0,[],[],[],[],[],[],()),8,())) else match Zf 40 x4 with | none=>none | some e2=>some (((1,x3,0,[],[],[],e2.1,[],[],()),0,())) else Zd0 n x0 x1 (wrap .i64 (x2+1)) x3 x4 else none else match Zf 40 x4 with | none=>none | some e0=>some (((1,x3,0,[],[],[],e0.1,[],[],()),0,())):=mkI
def Ys2:Tb:=[]
def F166:TFun:=⟨[],[],[.c (.int .u32),.c (.int .u32)],[.c (.p (.int .u32)),.c (.p (.int .u32))],qc [qn 4,[.c (.p (.int .u32))],[.c (.p (.int .u32))],qn 11],[],[],0⟩
def Ylq:=mkC Ys2 prog 166 F166
theorem Yv5:Ylq.ok prog 166:=mkO trivial
def Ys3:Tb:=[]
def F167:TFun:=⟨[],[],[.c (.int .u64),.c (.int .u64)],[.c (.p (.int .u64)),.c (.p (.int .u64))],qc [qn 4,[.c (.p (.int .u64))],[.c (.p (.int .u64))],qn 45],[],[],0⟩
def Yb5:=mkC Ys3 prog 167 F167
theorem Yv6:Yb5.ok prog 167:=mkO trivial
def Zku (a0 a1:Int):Option (Int×Int×Unit):=Yb5.fn (a0,a1,())
theorem Zrb a0 a1:Eq (Zku a0 a1) <| some ((wrap .u64 (wrap .u64 (wrap .u64 (Int.fdiv a0 4294967296*Int.fdiv a1 4294967296)+Int.fdiv (wrap .u64 (wrap .u64 (Int.fdiv a0 4294967296*Go.bits Go.BinOp.and Go.IntKind.u64 a1 4294967295)+Int.fdiv (wrap .u64 (Go.bits Go.BinOp.and Go.IntKind.u64 a0 4294967295*Go.bits Go.BinOp.and Go.IntKind.u64 a1 4294967295)) 4294967296)) 4294967296)+Int.fdiv (wrap .u64 (Go.bits Go.BinOp.and Go.IntKind.u64 (wrap .u64 (wrap .u64 (Int.fdiv a0 4294967296*Go.bits Go.BinOp.and Go.IntKind.u64 a1 4294967295)+Int.fdiv (wrap .u64 (Go.bits Go.BinOp.and Go.IntKind.u64 a0 4294967295*Go.bits Go.BinOp.and Go.IntKind.u64 a1 4294967295)) 4294967296)) 4294967295+wrap .u64 (Go.bits Go.BinOp.and Go.IntKind.u64 a0 4294967295*Int.fdiv a1 4294967296))) 4294967296),wrap .u64 (a0*a1),())):=mkE
def Ys4:Tb:=[(166,Ylq),(167,Yb5)]
def F139:TFun:=⟨[],[],[.c (.int .u64),.c (.int .u64)],[.c (.p (.int .u64)),.c (.p (.int .u64))],qc [qn 4,[.c (.p (.int .u64))],[.c (.p (.int .u64))],qn 24],[],[],0⟩
def Yb6:=mkC Ys4 prog 139 F139
theorem Yv7:Yb6.ok prog 139:=mkO ⟨Yv5,Yv6,trivial⟩
def Zig (a0 a1:Int):Option (Int×Int×Unit):=Yb6.fn (a0,a1,())
theorem Ztw a0 a1:Eq (Zig a0 a1) <| match Zku a0 a1 with | none=>none | some e0=>some e0:=mkE
def Yeq:Tb:=[(139,Yb6)]
def F97:TFun:=⟨[1,5],[(1,qc [[.c (.p (.sl Qq10))],qi,qn 46]),(5,qc [[.c (.p (.sl Qq10))],qn 5,[.c (.p (.int .u64))],qn 41]),(10,qc [qn 7,[.c (.rowN 2 1 Qq10)],qi,qn 39])],[.c (.sl Qq10),.c di],[.c (.s 2 1 Qq10)],qc [qn 4,[.c (.rowN 2 1 Qq10)],qn 43],[],[],0⟩
def Ylr:=mkC Yeq prog 97 F97
theorem ok97:Ylr.ok prog 97:=mkO ⟨Yv7,trivial⟩
def Za9 (a0:Qy9)(a1:Int):Option Qy11:=Ylr.fn (a0,a1,())
def Xd (n:Nat)(x0:Qy9)(x1:Int):Option Qy11:=itr Yeq prog 97 F97 n 1 (x0,x1,())
def Xe (n:Nat)(x0:Qy9)(x1:Int):Option Qy11:=itr Yeq prog 97 F97 n 5 (x0,x1,())
def Yc (n:Nat)(x0:Qy9)(x1:Int):Option Qy11:=itr Yeq prog 97 F97 n 10 (x0,x1,())
theorem Zeq a0 a1:Eq (Za9 a0 a1) <| bif a1<0 then none else Xd fuel a0 a1:=mkE
theorem Zd5 n x0 x1:Eq (Xd (n+1) x0 x1) <| match Zig (wrap .u64 (ofNat x0.length)) (wrap .u64 x1) with | none=>none | some e0=>bif e0.1>0 then none else bif e0.2.1>9223372036854775807 then none else Xe n x0 e0.2.1:=mkI
theorem Zd6 n x0 x1:Eq (Xe (n+1) x0 x1) <| bif 0<=wrap .i64 x1 then bif 0<=wrap .i64 x1 then bif decide (toNat (wrap .i64 x1)<=toNat (wrap .i64 x1))&&(decide (8*toNat (wrap .i64 x1)<=281474976710656)&&decide (toNat (wrap .i64 x1)<=9223372036854775807)) then Yc n (List.take (min x0.length (List.length (List.replicate (α:=Int×Unit) (toNat (wrap .i64 x1)) (0,())))) x0++List.drop (min x0.length (List.length (List.replicate (α:=Int×Unit) (toNat (wrap .i64 x1)) (0,())))) (List.replicate (toNat (wrap .i64 x1)) (0,()))) (ofNat (min x0.length (List.length (List.replicate (α:=Int×Unit) (toNat (wrap .i64 x1)) (0,()))))) else none else none else none:=mkI
theorem Zd1 n x0 x1:Eq (Yc (n+1) x0 x1) <| bif x1<ofNat x0.length then bif 0<=x1 then bif x1.toNat<=x0.length then bif x1.toNat=x0.length then bif 0<=x1 then bif decide (0<=x1.toNat)&&decide (x1.toNat<=x0.length) then none else none else none else bif 0<=x1 then bif decide (0<=x1.toNat)&&decide (x1.toNat<=x0.length) then bif x1.toNat+(x0.length - x1.toNat)<=x0.length then Yc n (List.take x1.toNat x0++(List.take (min (List.length (List.take x1.toNat (List.drop 0 x0))) (x0.length - x1.toNat)) (List.take x1.toNat (List.drop 0 x0))++List.drop (x1.toNat+min (List.length (List.take x1.toNat (List.drop 0 x0))) (x0.length - x1.toNat)) x0)) (wrap .i64 (x1+ofNat (min (List.length (List.take x1.toNat (List.drop 0 x0))) (x0.length - x1.toNat)))) else none else none else none else none else none else some (x0,()):=mkI
def Yv8:Tb:=[(97,Ylr)]
def F68:TFun:=⟨[],[],[.c di],[.c (.s 2 1 Qq10),.c (.p di)],qc [qn 2,[.c (.rowN 2 1 Qq10)],qi,qn 9],[],[],0⟩
def Yer:=mkC Yv8 prog 68 F68
theorem ok68:Yer.ok prog 68:=mkO ⟨ok97,trivial⟩
def Ziw (a0:Int):Option (List (Int×Unit)×Int×Unit):=Yer.fn (a0,())
theorem Z8l a0:Eq (Ziw a0) <| bif a0<1 then some ([],2,()) else bif a0>4 then some ([],2,()) else match Za9 [((-9223372036854775808),())] a0 with | none=>none | some e0=>some (e0.1,0,()):=mkE
def Yv9:Tb:=[(68,Yer)]
def F28:TFun:=⟨[],[],[.c di,.c di],[.a [.p (.int .u8),.p di,.p di,.p (.sl Qq2),.s 2 1 Qq10,.p (.sl Qq1),.p (.sl Qq4),.p (.sl Qq3),.p (.sl Qq6)],.c (.p di)],qc [qn 4,[.boxN 69 9 [.p (.int .u8),.p di,.p di,.p (.sl Qq2),.rowN 2 1 Qq10,.p (.sl Qq1),.p (.sl Qq4),.p (.sl Qq3),.p (.sl Qq6)]],qi,qn 22],[],[],0⟩
def Yls:=mkC Yv9 prog 28 F28
theorem ok28:Yls.ok prog 28:=mkO ⟨ok68,trivial⟩
def Z5b (a0 a1:Int):Option Qy10:=Yls.fn (a0,a1,())
theorem Ygg a0 a1:Eq (Z5b a0 a1) <| match Ziw a1 with | none=>none | some e0=>let k1:Option Qy10:=some (((0,0,0,[],[],[],[],[],[],()),2,()));bif e0.2.1 !=0 then k1 else bif a0<0 then k1 else bif a0>=3 then k1 else some (((4,a0,0,[],e0.1,[],[],[],[],()),0,())):=mkE
def Ywa:Tb:=[]
def F25:TFun:=⟨[],[],[.c di],[.a [.p (.int .u8),.p di,.p di,.p (.sl Qq2),.s 2 1 Qq10,.p (.sl Qq1),.p (.sl Qq4),.p (.sl Qq3),.p (.sl Qq6)],.c (.p di)],qc [qn 2,[.boxN 69 9 [.p (.int .u8),.p di,.p di,.p (.sl Qq2),.rowN 2 1 Qq10,.p (.sl Qq1),.p (.sl Qq4),.p (.sl Qq3),.p (.sl Qq6)]],qi,qn 11],[],[],0⟩
def Z8m:=mkC Ywa prog 25 F25
theorem ok25:Z8m.ok prog 25:=mkO trivial
def Ylt:TCon:=⟨Z8m.args,[.a [.p (.int .u8),.p di,.p di,.p (.sl Qq2),.p (.sl Qq10),.p (.sl Qq1),.p (.sl Qq4),.p (.sl Qq3),.p (.sl Qq6)],.c (.p di)],Z8m.fn⟩
theorem Ywb:Ylt.ok prog 25:=TCon.frz (c:=Z8m) ok25 rfl
def Zpv (a0:Int):Option Qy10:=Z8m.fn (a0,())
theorem Z5c a0:Eq (Zpv a0) <| let k1:Option Qy10:=some (((0,0,0,[],[],[],[],[],[],()),2,()));bif a0<0 then k1 else bif a0>=4 then k1 else some (((2,a0,0,[],[((-9223372036854775808),())],[],[],[],[],()),0,())):=mkE
def Ywc:Tb:=[]
def F26:TFun:=⟨[],[],[.c di],[.a [.p (.int .u8),.p di,.p di,.p (.sl Qq2),.p (.sl Qq10),.p (.sl Qq1),.p (.sl Qq4),.p (.sl Qq3),.p (.sl Qq6)],.c (.p di)],qc [qn 2,[.boxN 69 9 [.p (.int .u8),.p di,.p di,.p (.sl Qq2),.p (.sl Qq10),.p (.sl Qq1),.p (.sl Qq4),.p (.sl Qq3),.p (.sl Qq6)]],qi,qn 10],[],[],0⟩
def Ylu:=mkC Ywc prog 26 F26
theorem ok26:Ylu.ok prog 26:=mkO trivial
def Zxw (a0:Int):Option Qy10:=Ylu.fn (a0,())
theorem Yb7 a0:Eq (Zxw a0) <| let k1:Option Qy10:=some (((0,0,0,[],[],[],[],[],[],()),2,()));bif a0<0 then k1 else bif a0>=4 then k1 else some (((3,a0,0,[],[],[],[],[],[],()),0,())):=mkE
def Ywd:Tb:=[(68,Yer)]
def F29:TFun:=⟨[],[],[.c di],[.a [.p (.int .u8),.p di,.p di,.p (.sl Qq2),.s 2 1 Qq10,.p (.sl Qq1),.p (.sl Qq4),.p (.sl Qq3),.p (.sl Qq6)],.c (.p di)],qc [qn 2,[.boxN 69 9 [.p (.int .u8),.p di,.p di,.p (.sl Qq2),.rowN 2 1 Qq10,.p (.sl Qq1),.p (.sl Qq4),.p (.sl Qq3),.p (.sl Qq6)]],qi,qn 17],[],[],0⟩
def Z8n:=mkC Ywd prog 29 F29
theorem ok29:Z8n.ok prog 29:=mkO ⟨ok68,trivial⟩
def Ylv:TCon:=⟨Z8n.args,[.a [.p (.int .u8),.p di,.p di,.p (.sl Qq2),.p (.sl Qq10),.p (.sl Qq1),.p (.sl Qq4),.p (.sl Qq3),.p (.sl Qq6)],.c (.p di)],Z8n.fn⟩
theorem Ywe:Ylv.ok prog 29:=TCon.frz (c:=Z8n) ok29 rfl
def Zxx (a0:Int):Option Qy10:=Z8n.fn (a0,())
theorem Yb8 a0:Eq (Zxx a0) <| let k1:Option Qy10:=some (((0,0,0,[],[],[],[],[],[],()),2,()));bif a0<0 then k1 else bif a0>=3 then k1 else match Ziw 2 with | none=>none | some e0=>some (((5,a0,0,[],e0.1,[],[],[],[],()),0,())):=mkE
def Ywf:Tb:=[]
def F31:TFun:=⟨[],[],[.c db],[.a [.p (.int .u8),.p di,.p di,.p (.sl Qq2),.p (.sl Qq10),.p (.sl Qq1),.p (.sl Qq4),.p (.sl Qq3),.p (.sl Qq6)]],qc [qn 2,[.boxN 69 9 [.p (.int .u8),.p di,.p di,.p (.sl Qq2),.p (.sl Qq10),.p (.sl Qq1),.p (.sl Qq4),.p (.sl Qq3),.p (.sl Qq6)]],qn 5],[],[],0⟩
def Yes:=mkC Ywf prog 31 F31
theorem ok31:Yes.ok prog 31:=mkO trivial
def Zxy (a0:Bool):Option (Qy1×Unit):=Yes.fn (a0,())
theorem Zxz a0:Eq (Zxy a0) <| bif a0 then some (((7,0,0,[],[],[],[],[],[],()),())) else some (((6,0,0,[],[],[],[],[],[],()),())):=mkE
def Ywg:Tb:=[]
def F33:TFun:=⟨[],[],[.c di],[.a [.p di,.p (.sl Qq8)],.c (.p di)],qc [qn 2,[.boxN 59 2 [.p di,.p (.sl Qq8)]],qi,qn 9],[],[],0⟩
def Ylw:=mkC Ywg prog 33 F33
theorem ok33:Ylw.ok prog 33:=mkO trivial
def Zh2 (a0:Int):Option ((Int×List (Int×Int×Int×Int×Int×Int×Int×Int×Int×Int×Unit)×Unit)×Int×Unit):=Ylw.fn (a0,())
theorem Zz4 a0:Eq (Zh2 a0) <| bif a0<1 then some (((0,[],()),2,())) else bif a0>8 then some (((0,[],()),2,())) else some (((a0,[],()),0,())):=mkE
def Yet:Tb:=[]
def F14:TFun:=⟨[4],[(4,qc [qn 2,[.boxN 34 2 [.any,.p (.sl Qq3)]],[.boxN 34 2 [.any,.p (.sl Qq3)]],qn 55]),(6,qc [qn 2,[.boxN 34 2 [.p (.sl Qq7),.p (.sl Qq3)]],[.boxN 34 2 [.p (.sl Qq7),.p (.sl Qq3)]],qn 1,qi,qn 53]),(14,qc [qn 2,[.boxN 34 2 [.any,.p (.sl Qq3)]],[.boxN 34 2 [.any,.p (.sl Qq3)]],qn 2,qi,qn 52])],[.a [.sl Qq7,.sl Qq3],.a [.sl Qq7,.sl Qq3]],[.c (.p db)],qc [qn 4,qb,qn 54],[],[],0⟩
def Ylx:=mkC Yet prog 14 F14
theorem ok14:Ylx.ok prog 14:=mkO trivial
def Zj2 (a0 a1:(List (Int×Int×Unit)×List Qy2×Unit)):Option (Bool×Unit):=Ylx.fn (a0,a1,())
def Zo3 (n:Nat)(x0 x1:(List Qy2)):Option (Bool×Unit):=itr Yet prog 14 F14 n 4 (x0,x1,())
def Ze5 (n:Nat)(x0:Qy5)(x1:(List Qy2))(x2:Qy5)(x3:(List Qy2))(x4:Int):Option (Bool×Unit):=itr Yet prog 14 F14 n 6 (x0,x1,x2,x3,x4,())
def Zbv (n:Nat)(x0 x1:(List Qy2))(x2:Int):Option (Bool×Unit):=itr Yet prog 14 F14 n 14 (x0,x1,x2,())
theorem Z5d a0 a1:Eq (Zj2 a0 a1) <| bif ofNat a0.1.length !=ofNat a1.1.length then some (false,()) else bif ofNat a0.2.1.length !=ofNat a1.2.1.length then some (false,()) else Ze5 fuel a0.1 a0.2.1 a1.1 a1.2.1 0:=mkE
theorem Zz5 n x0 x1:Eq (Zo3 (n+1) x0 x1) <| Zbv n x0 x1 0:=mkI
theorem Zo4 n x0 x1 x2 x3 x4:Eq (Ze5 (n+1) x0 x1 x2 x3 x4) <| bif x4<ofNat x0.length then bif 0<=x4 then match x0[x4.toNat]? with | none=>none | some e0=>bif 0<=x4 then match x2[x4.toNat]? with | none=>none | some e1=>bif !(e0.1==e1.1&&(e0.2.1==e1.2.1&&true)) then some (false,()) else Ze5 n x0 x1 x2 x3 (wrap .i64 (x4+1)) else none else none else Zo3 n x1 x3:=mkI
theorem Znf n x0 x1 x2:Eq (Zbv (n+1) x0 x1 x2) <| bif x2<ofNat x0.length then bif 0<=x2 then match x0[x2.toNat]? with | none=>none | some e0=>bif 0<=x2 then match x1[x2.toNat]? with | none=>none | some e1=>bif !(e0.1==e1.1&&(e0.2.1==e1.2.1&&(e0.2.2.1==e1.2.2.1&&(e0.2.2.2.1==e1.2.2.2.1&&(e0.2.2.2.2.1==e1.2.2.2.2.1&&true))))) then some (false,()) else Zbv n x0 x1 (wrap .i64 (x2+1)) else none else none else some (true,()):=mkI
def Ywh:Tb:=[(24,Ylp)]
def F23:TFun:=⟨[],[],[.c di,.q [.sl [.sl Qq4]]],[.a [.p (.int .u8),.p di,.p di,.p (.sl Qq2),.p (.sl Qq10),.p (.sl Qq1),.s 112 5 Qq4,.p (.sl Qq3),.p (.sl Qq6)],.c (.p di)],qc [qn 3,[.boxN 69 9 [.p (.int .u8),.p di,.p di,.p (.sl Qq2),.p (.sl Qq10),.p (.sl Qq1),.rowN 112 5 Qq4,.p (.sl Qq3),.p (.sl Qq6)]],qi,qn 8],[],[],0⟩
def Yly:=mkC Ywh prog 23 F23
theorem ok23:Yly.ok prog 23:=mkO ⟨ok24,trivial⟩
def Zj3 (a0:Int)(a1:(List (List Qy6×Unit)×Unit)):Option Qy10:=Yly.fn (a0,a1,())
theorem Zx0 a0 a1:Eq (Zj3 a0 a1) <| bif 0<=a0 then match a1.1[a0.toNat]? with | none=>none | some e0=>match Zpu a0 e0.1 with | none=>none | some e1=>some (e1.1,e1.2.1,()) else none:=mkE
def Ywi:Tb:=[(28,Yls)]
def F27:TFun:=⟨[],[],[.c di,.q Qq11],[.a [.p (.int .u8),.p di,.p di,.p (.sl Qq2),.s 2 1 Qq10,.p (.sl Qq1),.p (.sl Qq4),.p (.sl Qq3),.p (.sl Qq6)],.c (.p di)],qc [qn 3,[.boxN 69 9 [.p (.int .u8),.p di,.p di,.p (.sl Qq2),.rowN 2 1 Qq10,.p (.sl Qq1),.p (.sl Qq4),.p (.sl Qq3),.p (.sl Qq6)]],qi,qn 7],[],[],0⟩
def Ylz:=mkC Ywi prog 27 F27
theorem ok27:Ylz.ok prog 27:=mkO ⟨ok28,trivial⟩
def Zj4 (a0:Int)(a1:Qy7):Option Qy10:=Ylz.fn (a0,a1,())
theorem Zx1 a0 a1:Eq (Zj4 a0 a1) <| match Z5b a0 (ofNat a1.2.2.1.length) with | none=>none | some e0=>some (e0.1,e0.2.1,()):=mkE
def Ywj:Tb:=[(31,Yes)]
def F30:TFun:=⟨[],[],[.c di],[.a [.p (.int .u8),.p di,.p di,.p (.sl Qq2),.p (.sl Qq10),.p (.sl Qq1),.p (.sl Qq4),.p (.sl Qq3),.p (.sl Qq6)],.c (.p di)],qc [qn 2,[.boxN 69 9 [.p (.int .u8),.p di,.p di,.p (.sl Qq2),.p (.sl Qq10),.p (.sl Qq1),.p (.sl Qq4),.p (.sl Qq3),.p (.sl Qq6)]],qi,qn 1],[],[],0⟩
def Yl0:=mkC Ywj prog 30 F30
theorem ok30:Yl0.ok prog 30:=mkO ⟨ok31,trivial⟩
def Zj5 (a0:Int):Option Qy10:=Yl0.fn (a0,())
theorem Zx2 a0:Eq (Zj5 a0) <| match Zxy false with | none=>none | some e0=>some (e0.1,0,()):=mkE
def Ywk:Tb:=[(31,Yes)]
def F32:TFun:=⟨[],[],[.c di],[.a [.p (.int .u8),.p di,.p di,.p (.sl Qq2),.p (.sl Qq10),.p (.sl Qq1),.p (.sl Qq4),.p (.sl Qq3),.p (.sl Qq6)],.c (.p di)],qc [qn 2,[.boxN 69 9 [.p (.int .u8),.p di,.p di,.p (.sl Qq2),.p (.sl Qq10),.p (.sl Qq1),.p (.sl Qq4),.p (.sl Qq3),.p (.sl Qq6)]],qi,qn 1],[],[],0⟩
def Yl1:=mkC Ywk prog 32 F32
theorem ok32:Yl1.ok prog 32:=mkO ⟨ok31,trivial⟩
def Zj6 (a0:Int):Option Qy10:=Yl1.fn (a0,())
theorem Zx3 a0:Eq (Zj6 a0) <| match Zxy true with | none=>none | some e0=>some (e0.1,0,()):=mkE
def tab6:Tb:=[(19,Z10),(20,Yli),(7,con7),(8,Yln),(21,Yb1),(22,Yb2),(23,Yly),(27,Ylz),(25,Ylt),(26,Ylu),(29,Ylv),(30,Yl0),(32,Yl1),(33,Ylw)]
def F6:TFun:=⟨[9,11,33,35,41,46],[(9,qc [qn 2,qi,qi,[.boxN 27 10 [.p (.int .u8),.p (.sl Qq5),.p (.sl Qq10),.p db,.p (.sl Qq5),.p (.int .u8),.p di,.p di,.p db,.p (.int .u8)]],[.boxN 28 1 [.p (.sl [.sl Qq4])]],qn 2,[.boxN 38 14 [.any,.nil,.nil,.any,.nil,.any,.any,.any,.any,.any,.nil,.nil,.nil,.nil]],qn 140]),(11,qc [qn 2,qi,qi,[.boxN 27 10 [.p (.int .u8),.p (.sl Qq5),.p (.sl Qq10),.p db,.p (.sl Qq5),.p (.int .u8),.p di,.p di,.p db,.p (.int .u8)]],[.boxN 28 1 [.p (.sl [.sl Qq4])]],qn 2,[.boxN 38 14 [.any,.nil,.nil,.any,.nil,.any,.any,.any,.any,.any,.nil,.nil,.nil,.nil]],qn 35,[.c (.p (.sl [.sl Qq4]))],qi,qi,qn 102]),(33,qc [qn 8,[.boxN 38 14 [.any,.nil,.nil,.any,.nil,.any,.any,.any,.any,.any,.nil,.nil,.nil,.nil]],qn 8,[.boxN 34 2 [.any,.p (.sl Qq3)]],[.boxN 38 14 [.p (.int .u8),.p (.sl Qq5),.p (.sl Qq10),.p db,.p (.sl Qq5),.p (.int .u8),.p di,.p di,.p db,.p (.int .u8),.p (.sl Qq7),.p (.sl Qq3),.rowN 69 9 Qq9,.nil]],qn 130]),(35,qc [qn 4,[.boxN 27 10 [.p (.int .u8),.p (.sl Qq5),.p (.sl Qq10),.p db,.p (.sl Qq5),.p (.int .u8),.p di,.p di,.p db,.p (.int .u8)]],[.boxN 28 1 [.p (.sl [.sl Qq4])]],qn 2,[.boxN 38 14 [.any,.nil,.nil,.any,.nil,.any,.any,.any,.any,.any,.nil,.nil,.nil,.nil]],qn 8,[.boxN 34 2 [.any,.p (.sl Qq3)]],[.boxN 38 14 [.p (.int .u8),.p (.sl Qq5),.p (.sl Qq10),.p db,.p (.sl Qq5),.p (.int .u8),.p di,.p di,.p db,.p (.int .u8),.p (.sl Qq7),.p (.sl Qq3),.rowN 69 9 Qq9,.nil]],[.boxN 87 7 [.fnp 23 1 0,.fn 25 [],.fn 26 [],.fnp 27 0 0,.fn 29 [],.fn 30 [],.fn 32 []]],qn 76,[.c (.p (.sl Qq7))],qi,qi,qn 50]),(41,qc [qn 4,[.boxN 27 10 [.p (.int .u8),.p (.sl Qq5),.p (.sl Qq10),.p db,.p (.sl Qq5),.p (.int .u8),.p di,.p di,.p db,.p (.int .u8)]],[.boxN 28 1 [.p (.sl [.sl Qq4])]],qn 2,[.boxN 38 14 [.any,.nil,.nil,.any,.nil,.any,.any,.any,.any,.any,.nil,.nil,.nil,.nil]],qn 8,[.boxN 34 2 [.any,.p (.sl Qq3)]],[.boxN 38 14 [.p (.int .u8),.p (.sl Qq5),.p (.sl Qq10),.p db,.p (.sl Qq5),.p (.int .u8),.p di,.p di,.p db,.p (.int .u8),.p (.sl Qq7),.p (.sl Qq3),.rowN 69 9 Qq9,.nil]],[.boxN 87 7 [.fnp 23 1 0,.fn 25 [],.fn 26 [],.fnp 27 0 0,.fn 29 [],.fn 30 [],.fn 32 []]],qn 2,[.boxN 69 9 [.p (.int .u8),.p di,.p di,.p (.sl Qq2),.p (.sl Qq10),.p (.sl Qq1),.p (.sl Qq4),.p (.sl Qq3),.p (.sl Qq6)]],qn 73,[.c (.p (.sl Qq7))],qi,qi,qn 50]),(46,qc [qn 8,[.boxN 38 14 [.any,.nil,.nil,.any,.nil,.any,.any,.any,.any,.any,.nil,.nil,.nil,.nil]],qn 9,[.boxN 38 14 [.p (.int .u8),.p (.sl Qq5),.p (.sl Qq10),.p db,.p (.sl Qq5),.p (.int .u8),.p di,.p di,.p db,.p (.int .u8),.p (.sl Qq7),.p (.sl Qq3),.rowN 69 9 Qq9,.rowN 59 2 [.int .i64,.sl Qq8]]],qn 106,[.c (.p (.sl Qq3))],qi,qi,qn 21])],[.a Qq11,.c (.sl [.sl Qq4]),.c di,.c di],[.a [.p (.int .u8),.p (.sl Qq5),.p (.sl Qq10),.p db,.p (.sl Qq5),.p (.int .u8),.p di,.p di,.p db,.p (.int .u8),.p (.sl Qq7),.p (.sl Qq3),.s 69 9 Qq9,.s 59 2 [.int .i64,.sl Qq8]],.c (.p di)],qc [qn 8,[.boxN 38 14 [.p (.int .u8),.p (.sl Qq5),.p (.sl Qq10),.p db,.p (.sl Qq5),.p (.int .u8),.p di,.p di,.p db,.p (.int .u8),.p (.sl Qq7),.p (.sl Qq3),.rowN 69 9 Qq9,.rowN 59 2 [.int .i64,.sl Qq8]]],qi,qn 139],[],[],0⟩
def con6:=mkC tab6 prog 6 F6
theorem ok6:con6.ok prog 6:=mkO ⟨ok19,ok20,ok7,ok8p,Yp8,Yp9,ok23,ok27,Ywb,ok26,Ywe,ok30,ok32,ok33,trivial⟩
def Yl2:TCon:=⟨con6.args,[.a [.p (.int .u8),.p (.sl Qq5),.p (.sl Qq10),.p db,.p (.sl Qq5),.p (.int .u8),.p di,.p di,.p db,.p (.int .u8),.p (.sl Qq7),.p (.sl Qq3),.p (.sl Qq9),.p (.sl [.int .i64,.sl Qq8])],.c (.p di)],con6.fn⟩
theorem ok6p:Yl2.ok prog 6:=TCon.frz (c:=con6) ok6 rfl
def Zc5 (a0:Qy7)(a1:(List (List Qy6×Unit)))(a2 a3:Int):Option Qy3:=con6.fn (a0,a1,a2,a3,())
def Yn (n:Nat)(x0 x1 x2:Int)(x3:(List Qy2))(x4:Qy9)(x5:Bool)(x6:(List Qy2))(x7 x8 x9:Int)(x10:Bool)(x11:Int)(x12:(List (List Qy6×Unit))):Option Qy3:=itr tab6 prog 6 F6 n 9 (x0,x1,x2,x3,x4,x5,x6,x7,x8,x9,x10,x11,x12,())
def Xa (n:Nat)(x0 x1 x2:Int)(x3:(List Qy2))(x4:Qy9)(x5:Bool)(x6:(List Qy2))(x7 x8 x9:Int)(x10:Bool)(x11:Int)(x12 x13:(List (List Qy6×Unit)))(x14 x15:Int):Option Qy3:=itr tab6 prog 6 F6 n 11 (x0,x1,x2,x3,x4,x5,x6,x7,x8,x9,x10,x11,x12,x13,x14,x15,())
def Qz (n:Nat)(x0:(List Qy2))(x1:Int)(x2:(List Qy2))(x3:Qy9)(x4:Bool)(x5:(List Qy2))(x6 x7 x8:Int)(x9:Bool)(x10:Int)(x11:Qy5)(x12:(List Qy2))(x13:(List Qy1)):Option Qy3:=itr tab6 prog 6 F6 n 33 (x0,x1,x2,x3,x4,x5,x6,x7,x8,x9,x10,x11,x12,x13,())
def Zz (n:Nat)(x0:Int)(x1:(List Qy2))(x2:Qy9)(x3:Bool)(x4:(List Qy2))(x5 x6 x7:Int)(x8:Bool)(x9:Int)(x10:(List (List Qy6×Unit)))(x11:(List Qy2))(x12:Int)(x13:(List Qy2))(x14:Qy9)(x15:Bool)(x16:(List Qy2))(x17 x18 x19:Int)(x20:Bool)(x21:Int)(x22:Qy5)(x23:(List Qy2))(x24:(List Qy1))(x25:Qy5)(x26 x27:Int):Option Qy3:=itr tab6 prog 6 F6 n 35 (x0,x1,x2,x3,x4,x5,x6,x7,x8,x9,x10,x11,x12,x13,x14,x15,x16,x17,x18,x19,x20,x21,x22,x23,x24,x25,x26,x27,())
def Zt (n:Nat)(x0:Int)(x1:(List Qy2))(x2:Qy9)(x3:Bool)(x4:(List Qy2))(x5 x6 x7:Int)(x8:Bool)(x9:Int)(x10:(List (List Qy6×Unit)))(x11:(List Qy2))(x12:Int)(x13:(List Qy2))(x14:Qy9)(x15:Bool)(x16:(List Qy2))(x17 x18 x19:Int)(x20:Bool)(x21:Int)(x22:Qy5)(x23:(List Qy2))(x24:(List Qy1))(x25 x26 x27:Int)(x28:(List (Int×Int×Int×Int×Int×Int×Int×Int×Int×Int×Int×Unit)))(x29:Qy9)(x30:(List (Int×Int×Int×Int×Int×Int×Int×Int×Int×Int×Int×Unit)))(x31:(List Qy6))(x32:(List Qy2))(x33:(List (Int×Int×Int×Unit)))(x34:Qy5)(x35 x36:Int):Option Qy3:=itr tab6 prog 6 F6 n 41 (x0,x1,x2,x3,x4,x5,x6,x7,x8,x9,x10,x11,x12,x13,x14,x15,x16,x17,x18,x19,x20,x21,x22,x23,x24,x25,x26,x27,x28,x29,x30,x31,x32,x33,x34,x35,x36,())
def Xb (n:Nat)(x0:Int)(x1:(List Qy2))(x2:Qy9)(x3:Bool)(x4:(List Qy2))(x5 x6 x7:Int)(x8:Bool)(x9:Int)(x10:Qy5)(x11:(List Qy2))(x12:(List Qy1))(x13:(List (Int×List (Int×Int×Int×Int×Int×Int×Int×Int×Int×Int×Unit)×Unit)))(x14:(List Qy2))(x15 x16:Int):Option Qy3:=itr tab6 prog 6 F6 n 46 (x0,x1,x2,x3,x4,x5,x6,x7,x8,x9,x10,x11,x12,x13,x14,x15,x16,())
theorem Zz6 a0 a1 a2 a3:Eq (Zc5 a0 a1 a2 a3) <| match Q7 a0 with | none=>none | some e0=>bif e0.2.1 !=0 then some (((0,[],[],false,[],0,0,0,false,0,[],[],[],[],()),e0.2.1,())) else bif ofNat a1.length !=ofNat a0.2.2.1.length then some (((0,[],[],false,[],0,0,0,false,0,[],[],[],[],()),2,())) else Xa fuel a2 a3 a0.1 a0.2.1 a0.2.2.1 a0.2.2.2.1 a0.2.2.2.2.1 a0.2.2.2.2.2.1 a0.2.2.2.2.2.2.1 a0.2.2.2.2.2.2.2.1 a0.2.2.2.2.2.2.2.2.1 a0.2.2.2.2.2.2.2.2.2.1 a1 a1 (ofNat a1.length) 0:=mkE
theorem Zx4 n x0 x1 x2 x3 x4 x5 x6 x7 x8 x9 x10 x11 x12:Eq (Yn (n+1) x0 x1 x2 x3 x4 x5 x6 x7 x8 x9 x10 x11 x12) <| match Zra (x2,x3,x4,x5,x6,x7,x8,x9,x10,x11,()) with | none=>none | some e0=>bif e0.2.1 !=0 then some (((0,[],[],false,[],0,0,0,false,0,[],[],[],[],()),e0.2.1,())) else match Ziv e0.1 x0 x1 with | none=>none | some e1=>bif e1.2.1 !=0 then some (((0,[],[],false,[],0,0,0,false,0,[],[],[],[],()),e1.2.1,())) else match Zf 40 x3 with | none=>none | some e2=>match Zf 40 x6 with | none=>none | some e3=>match Zf 8 x4 with | none=>none | some e4=>Zz n x2 e2.1 e4.1 x5 e3.1 x7 x8 x9 x10 x11 x12 e1.1.2.1 x2 e2.1 e4.1 x5 e3.1 x7 x8 x9 x10 x11 e1.1.1 e1.1.2.1 ([]) e1.1.1 (ofNat e1.1.1.length) 0:=mkI
theorem Zkv n x0 x1 x2 x3 x4 x5 x6 x7 x8 x9 x10 x11 x12 x13 x14 x15:Eq (Xa (n+1) x0 x1 x2 x3 x4 x5 x6 x7 x8 x9 x10 x11 x12 x13 x14 x15) <| bif x15<x14 then bif 0<=x15 then match x13[x15.toNat]? with | none=>none | some e0=>match Zpt e0.1 with | none=>none | some e1=>bif e1.1 !=0 then some (((0,[],[],false,[],0,0,0,false,0,[],[],[],[],()),e1.1,())) else Xa n x0 x1 x2 x3 x4 x5 x6 x7 x8 x9 x10 x11 x12 x13 x14 (wrap .i64 (x15+1)) else none else Yn n x0 x1 x2 x3 x4 x5 x6 x7 x8 x9 x10 x11 x12:=mkI
theorem Ztx n x0 x1 x2 x3 x4 x5 x6 x7 x8 x9 x10 x11 x12 x13:Eq (Qz (n+1) x0 x1 x2 x3 x4 x5 x6 x7 x8 x9 x10 x11 x12 x13) <| Xb n x1 x2 x3 x4 x5 x6 x7 x8 x9 x10 x11 x12 x13 ([]) x0 (ofNat x0.length) 0:=mkI
theorem Zkw n x0 x1 x2 x3 x4 x5 x6 x7 x8 x9 x10 x11 x12 x13 x14 x15 x16 x17 x18 x19 x20 x21 x22 x23 x24 x25 x26 x27:Eq (Zz (n+1) x0 x1 x2 x3 x4 x5 x6 x7 x8 x9 x10 x11 x12 x13 x14 x15 x16 x17 x18 x19 x20 x21 x22 x23 x24 x25 x26 x27) <| bif x27<x26 then bif 0<=x27 then match x25[x27.toNat]? with | none=>none | some e0=>bif 0<=wrap .u8 (e0.1 - 1) then bif toNat (wrap .u8 (e0.1 - 1))=nat_lit 6 then match Zj6 e0.2.1 with | none=>none | some e1=>bif e1.2.1 !=0 then some (((0,[],[],false,[],0,0,0,false,0,[],[],[],[],()),e1.2.1,())) else Zt n x0 x1 x2 x3 x4 x5 x6 x7 x8 x9 x10 x11 x12 x13 x14 x15 x16 x17 x18 x19 x20 x21 x22 x23 x24 e1.1.1 e1.1.2.1 e1.1.2.2.1 e1.1.2.2.2.1 e1.1.2.2.2.2.1 e1.1.2.2.2.2.2.1 e1.1.2.2.2.2.2.2.1 e1.1.2.2.2.2.2.2.2.1 e1.1.2.2.2.2.2.2.2.2.1 x25 x26 x27 else bif toNat (wrap .u8 (e0.1 - 1))=nat_lit 5 then match Zj5 e0.2.1 with | none=>none | some e1=>bif e1.2.1 !=0 then some (((0,[],[],false,[],0,0,0,false,0,[],[],[],[],()),e1.2.1,())) else Zt n x0 x1 x2 x3 x4 x5 x6 x7 x8 x9 x10 x11 x12 x13 x14 x15 x16 x17 x18 x19 x20 x21 x22 x23 x24 e1.1.1 e1.1.2.1 e1.1.2.2.1 e1.1.2.2.2.1 e1.1.2.2.2.2.1 e1.1.2.2.2.2.2.1 e1.1.2.2.2.2.2.2.1 e1.1.2.2.2.2.2.2.2.1 e1.1.2.2.2.2.2.2.2.2.1 x25 x26 x27 else bif toNat (wrap .u8 (e0.1 - 1))=nat_lit 4 then match Zxx e0.2.1 with | none=>none | some e1=>bif e1.2.1 !=0 then some (((0,[],[],false,[],0,0,0,false,0,[],[],[],[],()),e1.2.1,())) else Zt n x0 x1 x2 x3 x4 x5 x6 x7 x8 x9 x10 x11 x12 x13 x14 x15 x16 x17 x18 x19 x20 x21 x22 x23 x24 e1.1.1 e1.1.2.1 e1.1.2.2.1 e1.1.2.2.2.1 e1.1.2.2.2.2.1 e1.1.2.2.2.2.2.1 e1.1.2.2.2.2.2.2.1 e1.1.2.2.2.2.2.2.2.1 e1.1.2.2.2.2.2.2.2.2.1 x25 x26 x27 else bif toNat (wrap .u8 (e0.1 - 1))=nat_lit 3 then match Zj4 e0.2.1 (x0,x1,x2,x3,x4,x5,x6,x7,x8,x9,()) with | none=>none | some e1=>bif List.isEmpty e1.1.2.2.2.1 then bif List.isEmpty e1.1.2.2.2.2.2.1 then bif List.isEmpty e1.1.2.2.2.2.2.2.1 then bif List.isEmpty e1.1.2.2.2.2.2.2.2.1 then bif List.isEmpty e1.1.2.2.2.2.2.2.2.2.1 then bif e1.2.1 !=0 then some (((0,[],[],false,[],0,0,0,false,0,[],[],[],[],()),e1.2.1,())) else Zt n x0 x1 x2 x3 x4 x5 x6 x7 x8 x9 x10 x11 x12 x13 x14 x15 x16 x17 x18 x19 x20 x21 x22 x23 x24 e1.1.1 e1.1.2.1 e1.1.2.2.1 e1.1.2.2.2.1 e1.1.2.2.2.2.1 e1.1.2.2.2.2.2.1 e1.1.2.2.2.2.2.2.1 e1.1.2.2.2.2.2.2.2.1 e1.1.2.2.2.2.2.2.2.2.1 x25 x26 x27 else none else none else none else none else none else bif toNat (wrap .u8 (e0.1 - 1))=nat_lit 2 then match Zxw e0.2.1 with | none=>none | some e1=>bif e1.2.1 !=0 then some (((0,[],[],false,[],0,0,0,false,0,[],[],[],[],()),e1.2.1,())) else Zt n x0 x1 x2 x3 x4 x5 x6 x7 x8 x9 x10 x11 x12 x13 x14 x15 x16 x17 x18 x19 x20 x21 x22 x23 x24 e1.1.1 e1.1.2.1 e1.1.2.2.1 e1.1.2.2.2.1 e1.1.2.2.2.2.1 e1.1.2.2.2.2.2.1 e1.1.2.2.2.2.2.2.1 e1.1.2.2.2.2.2.2.2.1 e1.1.2.2.2.2.2.2.2.2.1 x25 x26 x27 else bif toNat (wrap .u8 (e0.1 - 1))=nat_lit 1 then match Zpv e0.2.1 with | none=>none | some e1=>bif e1.2.1 !=0 then some (((0,[],[],false,[],0,0,0,false,0,[],[],[],[],()),e1.2.1,())) else Zt n x0 x1 x2 x3 x4 x5 x6 x7 x8 x9 x10 x11 x12 x13 x14 x15 x16 x17 x18 x19 x20 x21 x22 x23 x24 e1.1.1 e1.1.2.1 e1.1.2.2.1 e1.1.2.2.2.1 e1.1.2.2.2.2.1 e1.1.2.2.2.2.2.1 e1.1.2.2.2.2.2.2.1 e1.1.2.2.2.2.2.2.2.1 e1.1.2.2.2.2.2.2.2.2.1 x25 x26 x27 else bif toNat (wrap .u8 (e0.1 - 1))=nat_lit 0 then match Zj3 e0.2.1 (x10,()) with | none=>none | some e1=>bif List.isEmpty e1.1.2.2.2.1 then bif List.isEmpty e1.1.2.2.2.2.1 then bif List.isEmpty e1.1.2.2.2.2.2.1 then bif List.isEmpty e1.1.2.2.2.2.2.2.2.1 then bif List.isEmpty e1.1.2.2.2.2.2.2.2.2.1 then bif e1.2.1 !=0 then some (((0,[],[],false,[],0,0,0,false,0,[],[],[],[],()),e1.2.1,())) else Zt n x0 x1 x2 x3 x4 x5 x6 x7 x8 x9 x10 x11 x12 x13 x14 x15 x16 x17 x18 x19 x20 x21 x22 x23 x24 e1.1.1 e1.1.2.1 e1.1.2.2.1 e1.1.2.2.2.1 e1.1.2.2.2.2.1 e1.1.2.2.2.2.2.1 e1.1.2.2.2.2.2.2.1 e1.1.2.2.2.2.2.2.2.1 e1.1.2.2.2.2.2.2.2.2.1 x25 x26 x27 else none else none else none else none else none else none else none else none else Qz n x11 x12 x13 x14 x15 x16 x17 x18 x19 x20 x21 x22 x23 x24:=mkI
theorem Zty n x0 x1 x2 x3 x4 x5 x6 x7 x8 x9 x10 x11 x12 x13 x14 x15 x16 x17 x18 x19 x20 x21 x22 x23 x24 x25 x26 x27 x28 x29 x30 x31 x32 x33 x34 x35 x36:Eq (Zt (n+1) x0 x1 x2 x3 x4 x5 x6 x7 x8 x9 x10 x11 x12 x13 x14 x15 x16 x17 x18 x19 x20 x21 x22 x23 x24 x25 x26 x27 x28 x29 x30 x31 x32 x33 x34 x35 x36) <| bif Zb (x24.length+List.length [(x25,x26,x27,x28,x29,x30,x31,x32,x33,())]) 168 then Zz n x0 x1 x2 x3 x4 x5 x6 x7 x8 x9 x10 x11 x12 x13 x14 x15 x16 x17 x18 x19 x20 x21 x22 x23 (x24++[(x25,x26,x27,x28,x29,x30,x31,x32,x33,())]) x34 x35 (wrap .i64 (x36+1)) else none:=mkI
theorem Zkx n x0 x1 x2 x3 x4 x5 x6 x7 x8 x9 x10 x11 x12 x13 x14 x15 x16:Eq (Xb (n+1) x0 x1 x2 x3 x4 x5 x6 x7 x8 x9 x10 x11 x12 x13 x14 x15 x16) <| bif x16<x15 then bif 0<=x16 then match x14[x16.toNat]? with | none=>none | some e0=>match Zh2 e0.2.2.2.2.1 with | none=>none | some e1=>bif e1.2.1 !=0 then some (((0,[],[],false,[],0,0,0,false,0,[],[],[],[],()),e1.2.1,())) else bif Zb (x13.length+List.length [e1.1]) 32 then Xb n x0 x1 x2 x3 x4 x5 x6 x7 x8 x9 x10 x11 x12 (x13++[e1.1]) x14 x15 (wrap .i64 (x16+1)) else none else none else some (((x0,x1,x2,x3,x4,x5,x6,x7,x8,x9,x10,x11,x12,x13,()),0,())):=mkI
end
end Tg
