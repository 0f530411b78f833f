import Derived.Test.YtenldcjkpgmpnaaGreatDoorTVb3
import Derived.Test.YtenldcjkpgmpnaaGreatDoorTXb6
/- Functions of the code, told plainly and checked by the kernel. -/
set_option linter.unusedVariables false
set_option linter.unusedSimpArgs false
set_option maxRecDepth 100000
namespace Tg
noncomputable section
open Go.Abs hiding fuel
open Go.Proofs.Tryz (prog)
open Int (ofNat toNat)
open Go.IntKind (wrap)
def Ys7:Tb:=[]
def F61:TFun:=⟨[],[],[.c di],[.c (.p db)],qc [qn 2,qb,qn 6],[],[],0⟩
def Yii:=mkC Ys7 prog 61 F61
theorem ok61:Yii.ok prog 61:=mkO trivial
def Zft (a0:Int):Option (Bool×Unit):=Yii.fn (a0,())
theorem Z6p a0:Eq (Zft a0) <| bif a0>=(-1099511627776) then some (decide (a0<=1099511627776),()) else some (false,()):=mkE
def Ynp:Tb:=[(61,Yii)]
def F16:TFun:=⟨[],[(6,qc [qn 10,[.c (.p (.sl Qq4))],qi,qi,qn 42])],[.c (.sl Qq4)],[.c (.p di)],qc [qn 2,qi,qn 52],[],[],0⟩
def Yij:=mkC Ynp prog 16 F16
theorem ok16:Yij.ok prog 16:=mkO ⟨ok61,trivial⟩
def Zom (a0:(List Qy6)):Option (Int×Unit):=Yij.fn (a0,())
def Zb6 (n:Nat)(x0:(List Qy6))(x1 x2:Int):Option (Int×Unit):=itr Ynp prog 16 F16 n 6 (x0,x1,x2,())
theorem Z2v a0:Eq (Zom a0) <| bif ofNat a0.length>60 then some (4,()) else Zb6 fuel a0 (ofNat a0.length) 0:=mkE
theorem Znv n x0 x1 x2:Eq (Zb6 (n+1) x0 x1 x2) <| bif x2<x1 then bif 0<=x2 then match x0[x2.toNat]? with | none=>none | some e0=>let k2:Option (Int×Unit):=bif !e0.1 then some (8,()) else Zb6 n x0 x1 (wrap .i64 (x2+1));let k4:=Zb6 n x0 x1 (wrap .i64 (x2+1));let k6:Option (Int×Unit):=some (8,());bif e0.2.2.1==0&&(e0.2.2.2.1==0&&(e0.2.2.2.2.1==0&&true)) then match Zft e0.2.1 with | none=>none | some e1=>bif e1.1 then bif e0.2.1==0 then match Zft e0.2.2.2.1 with | none=>none | some e2=>bif e0.1 then bif !e0.1 then bif !e2.1 then k6 else k4 else k4 else bif !e0.1 then bif !e2.1 then k6 else k4 else k4 else bif e0.1 then k2 else k2 else bif e0.2.1==0 then match Zft e0.2.2.2.1 with | none=>none | some e2=>bif e0.1 then bif !e0.2.1==9223372036854775807 then k6 else bif !e0.1 then bif !e2.1 then k6 else k4 else k4 else bif !e0.1 then bif !e2.1 then k6 else k4 else k4 else bif e0.1 then bif !e0.2.1==9223372036854775807 then k6 else k2 else k2 else bif e0.2.1==0 then match Zft e0.2.2.2.1 with | none=>none | some e1=>bif e0.1 then k6 else bif !e0.1 then bif !e1.1 then k6 else k4 else k4 else bif e0.1 then k6 else k2 else none else some (0,()):=mkI
def Yik:TCon:=Zau 76 5 40 Qq13
theorem ok19:Yik.ok prog 19:=Xk (zero:=[.p (.int .u8 0),.p (.int .i64 0),.p (.int .i64 0),.p (.int .i64 0),.p (.int .i64 0)]) (by kernel_rfl) rfl (by decide) rfl
def Z9u:TCon:=⟨[.c (.sl Qq13)],[.c (.p (.sl Qq13))],Yik.fn⟩
theorem Ynq:Z9u.ok prog 19:=fun a r h=>TCon.frz (c:=Yik) ok19 rfl a r h
def Yil:TCon:=Zau 3 1 8 Qq10
theorem ok20:Yil.ok prog 20:=Xk (zero:=[.p (.int .i64 0)]) (by kernel_rfl) rfl (by decide) rfl
def Z9v:TCon:=⟨[.c (.sl Qq10)],[.c (.p (.sl Qq10))],Yil.fn⟩
theorem Ynr:Z9v.ok prog 20:=fun a r h=>TCon.frz (c:=Yil) ok20 rfl a r h
def Ycf:Tb:=[]
def F62:TFun:=⟨[2,5,8],[(2,qc [qn 1,[.boxN 27 10 [.any,.any,.any,.p db,.any,.any,.any,.any,.p db,.p (.int .u8)]],qn 1,[.c (.rowN 5 1 [.int .u8])],qn 37]),(5,qc [qn 1,[.boxN 27 10 [.any,.any,.any,.p db,.any,.any,.any,.any,.any,.p (.int .u8)]],qn 1,[.c (.rowN 5 1 [.int .u8])],qn 37]),(8,qc [qn 1,[.boxN 27 10 [.any,.any,.any,.any,.any,.any,.any,.any,.any,.p (.int .u8)]],qn 1,[.c (.rowN 5 1 [.int .u8])],qn 37])],[.a Qq11],[.c (.s 5 1 [.int .u8])],qc [qn 2,[.c (.rowN 5 1 [.int .u8])],qn 38],[],[],0⟩
def Z6q:=mkC Ycf prog 62 F62
theorem ok62:Z6q.ok prog 62:=mkO trivial
def Z9w:TCon:=⟨Z6q.args,[.c (.p (.sl [.int .u8]))],Z6q.fn⟩
theorem Yns:Z9w.ok prog 62:=TCon.frz (c:=Z6q) ok62 rfl
def Zi3 (a0:Qy7):Option Qy11:=Z6q.fn (a0,())
def Zel (n:Nat)(x0 x1:Bool)(x2:Int)(x3:Qy9):Option Qy11:=itr Ycf prog 62 F62 n 2 (x0,x1,x2,x3,())
def Zhl (n:Nat)(x0:Bool)(x1:Int)(x2:Qy9):Option Qy11:=itr Ycf prog 62 F62 n 5 (x0,x1,x2,())
def Zhm (n:Nat)(x0:Int)(x1:Qy9):Option Qy11:=itr Ycf prog 62 F62 n 8 (x0,x1,())
theorem Z2w a0:Eq (Zi3 a0) <| bif ofNat a0.2.2.2.2.1.length>0 then Zel fuel a0.2.2.2.1 a0.2.2.2.2.2.2.2.2.1 a0.2.2.2.2.2.2.2.2.2.1 ([(1,()),(2,())]++[(3,())]) else Zel fuel a0.2.2.2.1 a0.2.2.2.2.2.2.2.2.1 a0.2.2.2.2.2.2.2.2.2.1 ([(1,()),(2,())]):=mkE
theorem Zx3 n x0 x1 x2 x3:Eq (Zel (n+1) x0 x1 x2 x3) <| bif Zb (x3.length+1) 1 then bif x1 then bif Zb (List.length (x3++[(4,())])+1) 1 then Zhl n x0 x2 (x3++[(4,())]++[(5,())]) else none else Zhl n x0 x2 (x3++[(4,())]) else none:=mkI
theorem Zx4 n x0 x1 x2:Eq (Zhl (n+1) x0 x1 x2) <| bif Zb (x2.length+1) 1 then bif x0 then bif Zb (List.length (x2++[(6,())])+1) 1 then Zhm n x1 (x2++[(6,())]++[(8,())]) else none else bif Zb (List.length (x2++[(6,())])+1) 1 then Zhm n x1 (x2++[(6,())]++[(7,())]) else none else none:=mkI
theorem Zx5 n x0 x1:Eq (Zhm (n+1) x0 x1) <| bif Zb (x1.length+1) 1 then bif x0==2 then bif Zb (List.length (x1++[(9,())])+1) 1 then some ((x1++[(9,())]++[(10,())],())) else none else some ((x1++[(9,())],())) else none:=mkI
def Ys8:Tb:=[(15,Zz6),(19,Z9u),(20,Z9v),(62,Z9w)]
def F17:TFun:=⟨[],[],[.a Qq11],[.a [.p (.sl [.int .u8]),.p (.int .u8),.p (.sl Qq5),.p (.sl Qq10),.p db,.p (.sl Qq5),.p (.int .u8),.p di,.p di,.p db,.p (.int .u8)],.c (.p di)],qc [qn 2,[.boxN 69 11 [.p (.sl [.int .u8]),.p (.int .u8),.p (.sl Qq5),.p (.sl Qq10),.p db,.p (.sl Qq5),.p (.int .u8),.p di,.p di,.p db,.p (.int .u8)]],qi,qn 27],[],[],0⟩
def Yim:=mkC Ys8 prog 17 F17
theorem ok17:Yim.ok prog 17:=mkO ⟨ok15,Ynq,Ynr,Yns,trivial⟩
def Ztf (a0:Qy7):Option (Qy8×Int×Unit):=Yim.fn (a0,())
theorem Yd2 a0:Eq (Ztf a0) <| match Qv a0 with | none=>none | some e0=>bif e0.2.1 !=0 then some ((([],0,[],[],false,[],0,0,0,false,0,()),e0.2.1,())) else match Zf 40 a0.2.1 with | none=>none | some e1=>match Zf 8 a0.2.2.1 with | none=>none | some e2=>match Zf 40 a0.2.2.2.2.1 with | none=>none | some e3=>match Zi3 (a0.1,e1.1,e2.1,a0.2.2.2.1,e3.1,a0.2.2.2.2.2) with | none=>none | some e4=>some ((e4.1,a0.1,e1.1,e2.1,a0.2.2.2.1,e3.1,a0.2.2.2.2.2),0,()):=mkE
def Yin:Tb:=[]
def F104:TFun:=⟨[],[(6,qc [[.c (.p (.sl [.int .u8]))],[.c (.p (.sl [.int .u8]))],qn 10,qi,qi,qn 12])],[.c (.sl [.int .u8]),.c (.sl [.int .u8])],[.c (.p db)],qc [qn 4,qb,qn 21],[],[],0⟩
def Z9x:=mkC Yin prog 104 F104
theorem Ys9:Z9x.ok prog 104:=mkO trivial
def Xx (a0 a1:Qy9):Option (Bool×Unit):=Z9x.fn (a0,a1,())
def Ye (n:Nat)(x0 x1:Qy9)(x2 x3:Int):Option (Bool×Unit):=itr Yin prog 104 F104 n 6 (x0,x1,x2,x3,())
theorem Zez a0 a1:Eq (Xx a0 a1) <| bif ofNat a0.length !=ofNat a1.length then some (false,()) else Ye fuel a0 a1 (ofNat a0.length) 0:=mkE
theorem Zak n x0 x1 x2 x3:Eq (Ye (n+1) x0 x1 x2 x3) <| bif x3<x2 then bif 0<=x3 then match x0[x3.toNat]? with | none=>none | some e0=>bif 0<=x3 then match x1[x3.toNat]? with | none=>none | some e1=>bif e0.1 !=e1.1 then some (false,()) else Ye n x0 x1 x2 (wrap .i64 (x3+1)) else none else none else some (true,()):=mkI
def Yta:Tb:=[(15,Zz6),(62,Z9w),(104,Z9x)]
def F63:TFun:=⟨[],[],[.a Qq12],[.c (.p di)],qc [qn 2,qi,qn 18],[],[],0⟩
def Yio:=mkC Yta prog 63 F63
theorem ok63:Yio.ok prog 63:=mkO ⟨ok15,Yns,Ys9,trivial⟩
def Zgo (a0:Qy8):Option (Int×Unit):=Yio.fn (a0,())
theorem Z2x a0:Eq (Zgo a0) <| match Qv a0.2 with | none=>none | some e0=>bif e0.2.1 !=0 then some (e0.2.1,()) else match Zi3 a0.2 with | none=>none | some e1=>match Xx a0.1 e1.1 with | none=>none | some e2=>bif !e2.1 then some (8,()) else some (0,()):=mkE
def Zbl:Tb:=[(63,Yio)]
def F18:TFun:=⟨[13,25,38,52,54,66,78,93,86,99,114],[(13,qc [qn 1,qi,qn 1,[.boxN 69 11 [.any,.any,.any,.any,.p db,.any,.any,.any,.any,.p db,.p (.int .u8)]],qn 1,[.boxN 3 1 [.p di]],[.boxN 34 2 [.nil,.nil]],qn 2,qi,[.boxN 34 2 [.rowN 53 2 Qq7,.nil]],[.fnS 64 [.ptr 3 0]],[.fnS 65 [.ptr 3 0,.ptr 1 0]],qn 147]),(19,qc [[.c (.p (.int .u8))],qn 1,[.boxN 34 2 [.rowN 53 2 Qq7,.nil]],qn 5,[.c (.ptr 0 0)],qn 2,qi,qi,qn 13,qi,qn 1,[.boxN 69 11 [.any,.any,.any,.any,.p db,.any,.any,.any,.any,.p db,.p (.int .u8)]],qn 1,[.boxN 3 1 [.p di]],[.boxN 34 2 [.nil,.nil]],qn 2,qi,[.c (.ptr 0 0)],[.fnS 64 [.ptr 0 0]],[.fnS 65 [.ptr 0 0,.ptr 3 0]],qn 147]),(25,qc [qn 1,qi,qn 1,[.boxN 69 11 [.any,.any,.any,.any,.p db,.any,.any,.any,.any,.p db,.p (.int .u8)]],qn 1,[.boxN 3 1 [.p di]],[.boxN 34 2 [.nil,.nil]],qn 2,qi,[.boxN 34 2 [.rowN 53 2 Qq7,.nil]],[.fnS 64 [.ptr 3 0]],[.fnS 65 [.ptr 3 0,.ptr 1 0]],qi,qn 146]),(31,qc [[.c (.p (.int .u8))],qn 1,[.boxN 34 2 [.rowN 53 2 Qq7,.nil]],qn 3,qi,qn 1,[.c (.ptr 0 0)],qn 2,qi,qi,qn 13,qi,qn 1,[.boxN 69 11 [.any,.any,.any,.any,.p db,.any,.any,.any,.any,.p db,.p (.int .u8)]],qn 1,[.boxN 3 1 [.p di]],[.boxN 34 2 [.nil,.nil]],qn 2,qi,[.c (.ptr 0 0)],[.fnS 64 [.ptr 0 0]],[.fnS 65 [.ptr 0 0,.ptr 3 0]],qn 147]),(38,qc [qn 1,qi,qn 1,[.boxN 69 11 [.any,.any,.any,.any,.p db,.any,.any,.any,.any,.p db,.p (.int .u8)]],qn 1,[.boxN 3 1 [.p di]],[.boxN 34 2 [.nil,.nil]],qn 2,qi,[.boxN 34 2 [.rowN 53 2 Qq7,.nil]],[.fnS 64 [.ptr 3 0]],[.fnS 65 [.ptr 3 0,.ptr 1 0]],qi,qi,qn 145]),(45,qc [[.c (.p (.int .u8))],qn 1,[.boxN 34 2 [.rowN 53 2 Qq7,.nil]],qn 3,qi,qn 1,[.c (.ptr 0 0)],qn 2,qi,qi,qn 13,qi,qn 1,[.boxN 69 11 [.any,.any,.any,.any,.p db,.any,.any,.any,.any,.p db,.p (.int .u8)]],qn 1,[.boxN 3 1 [.p di]],[.boxN 34 2 [.nil,.nil]],qn 2,qi,[.c (.ptr 0 0)],[.fnS 64 [.ptr 0 0]],[.fnS 65 [.ptr 0 0,.ptr 3 0]],qi,qn 146]),(52,qc [qn 1,qi,qn 1,[.boxN 69 11 [.any,.any,.any,.any,.any,.any,.any,.any,.any,.p db,.p (.int .u8)]],qn 1,[.boxN 3 1 [.p di]],[.boxN 34 2 [.nil,.nil]],qn 2,qi,[.boxN 34 2 [.rowN 53 2 Qq7,.nil]],[.fnS 64 [.ptr 3 0]],[.fnS 65 [.ptr 3 0,.ptr 1 0]],qi,qi,[.c (.p (.int .u8))],qn 144]),(54,qc [qn 1,qi,qn 1,[.boxN 69 11 [.any,.any,.any,.any,.any,.any,.any,.any,.any,.p db,.p (.int .u8)]],qn 1,[.boxN 3 1 [.p di]],[.boxN 34 2 [.nil,.nil]],qn 2,qi,[.boxN 34 2 [.rowN 53 2 Qq7,.nil]],[.fnS 64 [.ptr 3 0]],[.fnS 65 [.ptr 3 0,.ptr 1 0]],qi,qi,qn 1,qi,qn 143]),(60,qc [[.c (.p (.int .u8))],qn 1,[.boxN 34 2 [.rowN 53 2 Qq7,.nil]],qn 3,qi,qn 1,[.c (.ptr 0 0)],qn 2,qi,qi,qn 13,qi,qn 1,[.boxN 69 11 [.any,.any,.any,.any,.any,.any,.any,.any,.any,.p db,.p (.int .u8)]],qn 1,[.boxN 3 1 [.p di]],[.boxN 34 2 [.nil,.nil]],qn 2,qi,[.c (.ptr 0 0)],[.fnS 64 [.ptr 0 0]],[.fnS 65 [.ptr 0 0,.ptr 3 0]],qi,qi,qn 145]),(66,qc [qn 1,qi,qn 1,[.boxN 69 11 [.any,.any,.any,.any,.any,.any,.any,.any,.any,.p db,.p (.int .u8)]],qn 1,[.boxN 3 1 [.p di]],[.boxN 34 2 [.nil,.nil]],qn 2,qi,[.boxN 34 2 [.rowN 53 2 Qq7,.nil]],[.fnS 64 [.ptr 3 0]],[.fnS 65 [.ptr 3 0,.ptr 1 0]],qi,qi,qn 1,qi,qi,qn 142]),(72,qc [[.c (.p (.int .u8))],qn 1,[.boxN 34 2 [.rowN 53 2 Qq7,.nil]],qn 3,qi,qn 1,[.c (.ptr 0 0)],qn 2,qi,qi,qn 13,qi,qn 1,[.boxN 69 11 [.any,.any,.any,.any,.any,.any,.any,.any,.any,.p db,.p (.int .u8)]],qn 1,[.boxN 3 1 [.p di]],[.boxN 34 2 [.nil,.nil]],qn 2,qi,[.c (.ptr 0 0)],[.fnS 64 [.ptr 0 0]],[.fnS 65 [.ptr 0 0,.ptr 3 0]],qi,qi,qn 1,qi,qn 143]),(78,qc [qn 1,qi,qn 1,[.boxN 69 11 [.any,.any,.any,.any,.any,.any,.any,.any,.any,.p db,.p (.int .u8)]],qn 1,[.boxN 3 1 [.p di]],[.boxN 34 2 [.nil,.nil]],qn 2,qi,[.boxN 34 2 [.rowN 53 2 Qq7,.rowN 85 5 Qq3]],[.fnS 64 [.ptr 3 0]],[.fnS 65 [.ptr 3 0,.ptr 1 0]],qi,qi,qn 1,qi,qi,qn 142]),(80,qc [qn 1,qi,qn 1,[.boxN 69 11 [.any,.any,.any,.any,.any,.any,.any,.any,.any,.p db,.p (.int .u8)]],qn 1,[.boxN 3 1 [.p di]],[.boxN 34 2 [.nil,.nil]],qn 2,qi,[.boxN 34 2 [.rowN 53 2 Qq7,.rowN 85 5 Qq3]],[.fnS 64 [.ptr 3 0]],[.fnS 65 [.ptr 3 0,.ptr 1 0]],qi,qi,qn 1,qi,qi,qn 54,qi,qi,qn 86]),(86,qc [qn 1,qi,qn 1,[.boxN 69 11 [.any,.any,.any,.any,.any,.any,.any,.any,.any,.p db,.p (.int .u8)]],qn 1,[.boxN 3 1 [.p di]],[.boxN 34 2 [.nil,.nil]],qn 2,qi,[.boxN 34 2 [.rowN 53 2 Qq7,.rowN 85 5 Qq3]],[.fnS 64 [.ptr 3 0]],[.fnS 65 [.ptr 3 0,.ptr 1 0]],qn 1,qi,qn 1,qi,qi,qn 142]),(88,qc [qn 1,qi,qn 1,[.boxN 69 11 [.any,.any,.any,.any,.any,.any,.any,.any,.any,.p db,.p (.int .u8)]],qn 1,[.boxN 3 1 [.p di]],[.boxN 34 2 [.nil,.nil]],qn 2,qi,[.boxN 34 2 [.rowN 53 2 Qq7,.rowN 85 5 Qq3]],[.fnS 64 [.ptr 3 0]],[.fnS 65 [.ptr 3 0,.ptr 1 0]],qi,qi,qn 1,qi,qi,qn 65,qi,qi,qn 75]),(93,qc [qn 1,qi,qn 1,[.boxN 69 11 [.any,.any,.any,.any,.any,.any,.any,.any,.any,.p db,.p (.int .u8)]],qn 1,[.boxN 3 1 [.p di]],[.boxN 34 2 [.nil,.nil]],qn 2,qi,[.boxN 34 2 [.rowN 53 2 Qq7,.rowN 85 5 Qq3]],[.fnS 64 [.ptr 3 0]],[.fnS 65 [.ptr 3 0,.ptr 1 0]],qi,qi,qn 1,qi,qi,qn 1,qi,qn 63,qi,qi,qn 75]),(99,qc [qn 1,qi,qn 1,[.boxN 69 11 [.any,.any,.any,.any,.any,.any,.any,.any,.any,.any,.p (.int .u8)]],qn 1,[.boxN 3 1 [.p di]],[.boxN 34 2 [.nil,.nil]],qn 3,[.boxN 34 2 [.rowN 53 2 Qq7,.rowN 85 5 Qq3]],[.fnS 64 [.ptr 3 0]],[.fnS 65 [.ptr 3 0,.ptr 1 0]],qn 3,qi,qi,qn 142]),(101,qc [qn 1,qi,qn 1,[.boxN 69 11 [.any,.any,.any,.any,.any,.any,.any,.any,.any,.p db,.p (.int .u8)]],qn 1,[.boxN 3 1 [.p di]],[.boxN 34 2 [.nil,.nil]],qn 3,[.boxN 34 2 [.rowN 53 2 Qq7,.rowN 85 5 Qq3]],[.fnS 64 [.ptr 3 0]],[.fnS 65 [.ptr 3 0,.ptr 1 0]],qn 1,qi,qn 1,qi,qi,qn 100,qi,qi,qn 40]),(107,qc [qn 1,qi,qn 1,[.boxN 69 11 [.any,.any,.any,.any,.any,.any,.any,.any,.any,.p db,.p (.int .u8)]],qn 1,[.boxN 3 1 [.p di]],[.boxN 34 2 [.nil,.nil]],qn 3,[.boxN 34 2 [.rowN 53 2 Qq7,.rowN 85 5 Qq3]],[.fnS 64 [.ptr 3 0]],[.fnS 65 [.ptr 3 0,.ptr 1 0]],qn 1,qi,qn 1,qi,qi,qn 2,qi,qn 97,qi,qi,qn 2,qi,qi,qn 36]),(114,qc [qn 3,[.boxN 69 11 [.any,.any,.any,.any,.any,.any,.any,.any,.any,.any,.p (.int .u8)]],qn 2,[.boxN 34 2 [.nil,.nil]],qn 3,[.boxN 34 2 [.rowN 53 2 Qq7,.rowN 85 5 Qq3]],[.fnS 64 [.ptr 2 0]],qn 148]),(116,qc [qn 3,[.boxN 69 11 [.any,.any,.any,.any,.any,.any,.any,.any,.any,.any,.p (.int .u8)]],qn 1,[.boxN 3 1 [.p di]],[.boxN 34 2 [.nil,.nil]],qn 3,[.boxN 34 2 [.rowN 53 2 Qq7,.rowN 85 5 Qq3]],[.fnS 64 [.ptr 3 0]],[.fnS 65 [.ptr 3 0,.ptr 1 0]],qn 3,qi,qi,qn 123,qi,qi,qn 17]),(129,qc [[.c (.p (.int .u8))],qn 1,[.boxN 34 2 [.rowN 53 2 Qq7,.rowN 85 5 Qq3]],qn 8,qi,qi,qn 18,[.boxN 34 2 [.nil,.nil]],qn 3,[.c (.ptr 0 0)],qn 149])],[.a Qq12,.c di,.c di],[.a [.s 53 2 Qq7,.s 85 5 Qq3],.c (.p di)],qc [qn 6,[.boxN 34 2 [.rowN 53 2 Qq7,.rowN 85 5 Qq3]],qi,qn 152],[(124,[64]),(121,[65]),(113,[65]),(98,[65]),(96,[65]),(95,[65]),(85,[65]),(67,[64]),(55,[64]),(40,[64]),(26,[64]),(14,[64])],[(19,[160]),(31,[160]),(45,[160]),(60,[160]),(72,[160]),(129,[160])],8⟩
def Z6r:=mkC Zbl prog 18 F18
theorem ok18:Z6r.ok prog 18:=mkO ⟨ok63,trivial⟩
def Yip:TCon:=⟨Z6r.args,[.a [.p (.sl Qq7),.p (.sl Qq3)],.c (.p di)],Z6r.fn⟩
theorem Ytb:Yip.ok prog 18:=TCon.frz (c:=Z6r) ok18 rfl
def Zqa (a0:Qy8)(a1 a2:Int):Option Qy4:=Z6r.fn (a0,a1,a2,())
def Zi4 (n:Nat)(x0:Int)(x1 x2:Bool)(x3 x4 x5:Int)(x6:Qy5):Option Qy4:=itr Zbl prog 18 F18 n 13 (x0,x1,x2,x3,x4,x5,x6,())
def Qw (n:Nat)(x0:Int)(x1:Qy5)(x2 x3 x4:Int)(x5 x6:Bool)(x7 x8 x9:Int):Option Qy4:=itr Zbl prog 18 F18 n 19 (x0,x1,x2,x3,x4,x5,x6,x7,x8,x9,())
def Zi5 (n:Nat)(x0:Int)(x1 x2:Bool)(x3 x4 x5:Int)(x6:Qy5)(x7:Int):Option Qy4:=itr Zbl prog 18 F18 n 25 (x0,x1,x2,x3,x4,x5,x6,x7,())
def Zfj (n:Nat)(x0:Int)(x1:Qy5)(x2 x3 x4 x5:Int)(x6 x7:Bool)(x8 x9 x10:Int):Option Qy4:=itr Zbl prog 18 F18 n 31 (x0,x1,x2,x3,x4,x5,x6,x7,x8,x9,x10,())
def Zfk (n:Nat)(x0:Int)(x1 x2:Bool)(x3 x4 x5:Int)(x6:Qy5)(x7 x8:Int):Option Qy4:=itr Zbl prog 18 F18 n 38 (x0,x1,x2,x3,x4,x5,x6,x7,x8,())
def Zfl (n:Nat)(x0:Int)(x1:Qy5)(x2 x3 x4 x5:Int)(x6 x7:Bool)(x8 x9 x10 x11:Int):Option Qy4:=itr Zbl prog 18 F18 n 45 (x0,x1,x2,x3,x4,x5,x6,x7,x8,x9,x10,x11,())
def Zfm (n:Nat)(x0:Int)(x1:Bool)(x2 x3 x4:Int)(x5:Qy5)(x6 x7 x8:Int):Option Qy4:=itr Zbl prog 18 F18 n 52 (x0,x1,x2,x3,x4,x5,x6,x7,x8,())
def Zi6 (n:Nat)(x0:Int)(x1:Bool)(x2 x3 x4:Int)(x5:Qy5)(x6 x7 x8:Int):Option Qy4:=itr Zbl prog 18 F18 n 54 (x0,x1,x2,x3,x4,x5,x6,x7,x8,())
def Zfn (n:Nat)(x0:Int)(x1:Qy5)(x2 x3 x4 x5:Int)(x6:Bool)(x7 x8 x9 x10 x11:Int):Option Qy4:=itr Zbl prog 18 F18 n 60 (x0,x1,x2,x3,x4,x5,x6,x7,x8,x9,x10,x11,())
def Zi7 (n:Nat)(x0:Int)(x1:Bool)(x2 x3 x4:Int)(x5:Qy5)(x6 x7 x8 x9:Int):Option Qy4:=itr Zbl prog 18 F18 n 66 (x0,x1,x2,x3,x4,x5,x6,x7,x8,x9,())
def Zfo (n:Nat)(x0:Int)(x1:Qy5)(x2 x3 x4 x5:Int)(x6:Bool)(x7 x8 x9 x10 x11 x12:Int):Option Qy4:=itr Zbl prog 18 F18 n 72 (x0,x1,x2,x3,x4,x5,x6,x7,x8,x9,x10,x11,x12,())
def Zi8 (n:Nat)(x0:Int)(x1:Bool)(x2 x3 x4:Int)(x5:Qy5)(x6:(List Qy2))(x7 x8 x9 x10:Int):Option Qy4:=itr Zbl prog 18 F18 n 78 (x0,x1,x2,x3,x4,x5,x6,x7,x8,x9,x10,())
def Zfp (n:Nat)(x0:Int)(x1:Bool)(x2 x3 x4:Int)(x5:Qy5)(x6:(List Qy2))(x7 x8 x9 x10 x11 x12:Int):Option Qy4:=itr Zbl prog 18 F18 n 80 (x0,x1,x2,x3,x4,x5,x6,x7,x8,x9,x10,x11,x12,())
def Zi9 (n:Nat)(x0:Int)(x1:Bool)(x2 x3 x4:Int)(x5:Qy5)(x6:(List Qy2))(x7 x8 x9:Int):Option Qy4:=itr Zbl prog 18 F18 n 86 (x0,x1,x2,x3,x4,x5,x6,x7,x8,x9,())
def Zdg (n:Nat)(x0:Int)(x1:Bool)(x2 x3 x4:Int)(x5:Qy5)(x6:(List Qy2))(x7 x8 x9 x10 x11 x12:Int):Option Qy4:=itr Zbl prog 18 F18 n 88 (x0,x1,x2,x3,x4,x5,x6,x7,x8,x9,x10,x11,x12,())
def Zfq (n:Nat)(x0:Int)(x1:Bool)(x2 x3 x4:Int)(x5:Qy5)(x6:(List Qy2))(x7 x8 x9 x10 x11 x12 x13:Int):Option Qy4:=itr Zbl prog 18 F18 n 93 (x0,x1,x2,x3,x4,x5,x6,x7,x8,x9,x10,x11,x12,x13,())
def Zja (n:Nat)(x0 x1 x2:Int)(x3:Qy5)(x4:(List Qy2))(x5 x6:Int):Option Qy4:=itr Zbl prog 18 F18 n 99 (x0,x1,x2,x3,x4,x5,x6,())
def Zem (n:Nat)(x0:Int)(x1:Bool)(x2 x3:Int)(x4:Qy5)(x5:(List Qy2))(x6 x7 x8 x9 x10:Int):Option Qy4:=itr Zbl prog 18 F18 n 101 (x0,x1,x2,x3,x4,x5,x6,x7,x8,x9,x10,())
def Zb7 (n:Nat)(x0:Int)(x1:Bool)(x2 x3:Int)(x4:Qy5)(x5:(List Qy2))(x6 x7 x8 x9 x10 x11 x12 x13:Int):Option Qy4:=itr Zbl prog 18 F18 n 107 (x0,x1,x2,x3,x4,x5,x6,x7,x8,x9,x10,x11,x12,x13,())
def Zhn (n:Nat)(x0:Int)(x1:Qy5)(x2:(List Qy2)):Option Qy4:=itr Zbl prog 18 F18 n 114 (x0,x1,x2,())
def Zen (n:Nat)(x0 x1:Int)(x2:Qy5)(x3:(List Qy2))(x4 x5 x6 x7:Int):Option Qy4:=itr Zbl prog 18 F18 n 116 (x0,x1,x2,x3,x4,x5,x6,x7,())
def Zeo (n:Nat)(x0:Int)(x1:Qy5)(x2:(List Qy2))(x3 x4:Int):Option Qy4:=itr Zbl prog 18 F18 n 129 (x0,x1,x2,x3,x4,())
theorem Z9y a0 a1 a2:Eq (Zqa a0 a1 a2) <| match Zgo a0 with | none=>none | some e0=>bif e0.1 !=0 then some ((([],[],()),e0.1,())) else let k1:=some ((([],[],()),2,()));bif a1<1 then k1 else bif a1>3 then k1 else bif a2<1 then k1 else bif a2>8 then k1 else Qw fuel 1 ([]) (ofNat a0.2.2.2.1.length) 0 a1 a0.2.2.2.2.1 a0.2.2.2.2.2.2.2.2.2.1 a0.2.2.2.2.2.2.2.2.2.2.1 a2 (ofNat a0.2.2.2.1.length):=mkE
theorem Z2y n x0 x1 x2 x3 x4 x5 x6:Eq (Zi4 (n+1) x0 x1 x2 x3 x4 x5 x6) <| Zfj n 2 x6 (ofNat x6.length) x5 0 x0 x1 x2 x3 x4 x5:=mkI
theorem Z2z n x0 x1 x2 x3 x4 x5 x6 x7 x8 x9:Eq (Qw (n+1) x0 x1 x2 x3 x4 x5 x6 x7 x8 x9) <| bif x3<x2 then bif Zb (x1.length+List.length [(x0,x3,())]) 16 then Qw n x0 (x1++[(x0,x3,())]) x2 (wrap .i64 (x3+1)) x4 x5 x6 x7 x8 x9 else none else Zi4 n x4 x5 x6 x7 x8 x9 x1:=mkI
theorem Z20 n x0 x1 x2 x3 x4 x5 x6 x7:Eq (Zi5 (n+1) x0 x1 x2 x3 x4 x5 x6 x7) <| bif x2 then Zfl n 3 x6 (ofNat x6.length) x5 0 x0 x1 x2 x3 x4 x5 x7 else Zfk n 1 x1 x2 x3 x4 x5 x6 x7 x7:=mkI
theorem Z21 n x0 x1 x2 x3 x4 x5 x6 x7 x8 x9 x10:Eq (Zfj (n+1) x0 x1 x2 x3 x4 x5 x6 x7 x8 x9 x10) <| bif x4<x3 then bif Zb (x1.length+List.length [(x0,x4,())]) 16 then Zfj n x0 (x1++[(x0,x4,())]) x2 x3 (wrap .i64 (x4+1)) x5 x6 x7 x8 x9 x10 else none else Zi5 n x5 x6 x7 x8 x9 x10 x1 x2:=mkI
theorem Z22 n x0 x1 x2 x3 x4 x5 x6 x7 x8:Eq (Zfk (n+1) x0 x1 x2 x3 x4 x5 x6 x7 x8) <| bif x1 then Zfm n x0 x2 x3 x4 x5 x6 x7 x8 5 else Zfm n x0 x2 x3 x4 x5 x6 x7 x8 4:=mkI
theorem Z23 n x0 x1 x2 x3 x4 x5 x6 x7 x8 x9 x10 x11:Eq (Zfl (n+1) x0 x1 x2 x3 x4 x5 x6 x7 x8 x9 x10 x11) <| bif x4<x3 then bif Zb (x1.length+List.length [(x0,x4,())]) 16 then Zfl n x0 (x1++[(x0,x4,())]) x2 x3 (wrap .i64 (x4+1)) x5 x6 x7 x8 x9 x10 x11 else none else Zfk n x5 x6 x7 x8 x9 x10 x1 x11 x2:=mkI
theorem Z24 n x0 x1 x2 x3 x4 x5 x6 x7 x8:Eq (Zfm (n+1) x0 x1 x2 x3 x4 x5 x6 x7 x8) <| Zfn n x8 x5 (ofNat x5.length) x0 0 x0 x1 x2 x3 x4 x6 x7:=mkI
theorem Z25 n x0 x1 x2 x3 x4 x5 x6 x7 x8:Eq (Zi6 (n+1) x0 x1 x2 x3 x4 x5 x6 x7 x8) <| Zfo n 6 x5 (ofNat x5.length) 1 0 x0 x1 x2 x3 x4 x6 x7 x8:=mkI
theorem Z26 n x0 x1 x2 x3 x4 x5 x6 x7 x8 x9 x10 x11:Eq (Zfn (n+1) x0 x1 x2 x3 x4 x5 x6 x7 x8 x9 x10 x11) <| bif x4<x3 then bif Zb (x1.length+List.length [(x0,x4,())]) 16 then Zfn n x0 (x1++[(x0,x4,())]) x2 x3 (wrap .i64 (x4+1)) x5 x6 x7 x8 x9 x10 x11 else none else Zi6 n x5 x6 x7 x8 x9 x1 x10 x11 x2:=mkI
theorem Z27 n x0 x1 x2 x3 x4 x5 x6 x7 x8 x9:Eq (Zi7 (n+1) x0 x1 x2 x3 x4 x5 x6 x7 x8 x9) <| Zfp n x0 x1 x2 x3 x4 x5 ([]) x6 x7 x8 x9 x4 0:=mkI
theorem Z28 n x0 x1 x2 x3 x4 x5 x6 x7 x8 x9 x10 x11 x12:Eq (Zfo (n+1) x0 x1 x2 x3 x4 x5 x6 x7 x8 x9 x10 x11 x12) <| bif x4<x3 then bif Zb (x1.length+List.length [(x0,x4,())]) 16 then Zfo n x0 (x1++[(x0,x4,())]) x2 x3 (wrap .i64 (x4+1)) x5 x6 x7 x8 x9 x10 x11 x12 else none else Zi7 n x5 x6 x7 x8 x9 x1 x10 x11 x12 x2:=mkI
theorem Z29 n x0 x1 x2 x3 x4 x5 x6 x7 x8 x9 x10:Eq (Zi8 (n+1) x0 x1 x2 x3 x4 x5 x6 x7 x8 x9 x10) <| Zdg n x0 x1 x2 x3 x4 x5 x6 x7 x8 x9 x10 x4 0:=mkI
theorem Z3a n x0 x1 x2 x3 x4 x5 x6 x7 x8 x9 x10 x11 x12:Eq (Zfp (n+1) x0 x1 x2 x3 x4 x5 x6 x7 x8 x9 x10 x11 x12) <| bif x12<x11 then bif Zb (x6.length+List.length [(x12,0,wrap .i64 (x7+x12),0,x3,())]) 40 then Zfp n x0 x1 x2 x3 x4 x5 (x6++[(x12,0,wrap .i64 (x7+x12),0,x3,())]) x7 x8 x9 x10 x11 (wrap .i64 (x12+1)) else none else Zi8 n x0 x1 x2 x3 x4 x5 x6 x7 x8 x9 x10:=mkI
theorem Z3b n x0 x1 x2 x3 x4 x5 x6 x7 x8 x9:Eq (Zi9 (n+1) x0 x1 x2 x3 x4 x5 x6 x7 x8 x9) <| Zem n x0 x1 x2 x3 x5 x6 x7 x8 x9 x4 0:=mkI
theorem Z3c n x0 x1 x2 x3 x4 x5 x6 x7 x8 x9 x10 x11 x12:Eq (Zdg (n+1) x0 x1 x2 x3 x4 x5 x6 x7 x8 x9 x10 x11 x12) <| bif x12<x11 then bif x1 then bif Zb (x6.length+List.length [(wrap .i64 (x7+x12),0,wrap .i64 (x8+x12),0,x3,())]) 40 then Zfq n x0 x1 x2 x3 x4 x5 (x6++[(wrap .i64 (x7+x12),0,wrap .i64 (x8+x12),0,x3,())]) x7 x8 x9 x10 x12 x11 x12 else none else bif Zb (x6.length+List.length [(wrap .i64 (x7+x12),0,x9,x12,x3,())]) 40 then Zfq n x0 x1 x2 x3 x4 x5 (x6++[(wrap .i64 (x7+x12),0,x9,x12,x3,())]) x7 x8 x9 x10 x12 x11 x12 else none else Zi9 n x0 x1 x2 x3 x4 x5 x6 x8 x9 x10:=mkI
theorem Z3d n x0 x1 x2 x3 x4 x5 x6 x7 x8 x9 x10 x11 x12 x13:Eq (Zfq (n+1) x0 x1 x2 x3 x4 x5 x6 x7 x8 x9 x10 x11 x12 x13) <| bif x2==2 then bif Zb (x6.length+List.length [(wrap .i64 (x7+x11),1,wrap .i64 (x10+1),x11,x3,())]) 40 then Zdg n x0 x1 x2 x3 x4 x5 (x6++[(wrap .i64 (x7+x11),1,wrap .i64 (x10+1),x11,x3,())]) x7 x8 x9 x10 x12 (wrap .i64 (x13+1)) else none else Zdg n x0 x1 x2 x3 x4 x5 x6 x7 x8 x9 x10 x12 (wrap .i64 (x13+1)):=mkI
theorem Z3e n x0 x1 x2 x3 x4 x5 x6:Eq (Zja (n+1) x0 x1 x2 x3 x4 x5 x6) <| Zen n x1 x2 x3 x4 x5 x6 x0 0:=mkI
theorem Zx6 n x0 x1 x2 x3 x4 x5 x6 x7 x8 x9 x10:Eq (Zem (n+1) x0 x1 x2 x3 x4 x5 x6 x7 x8 x9 x10) <| bif x10<x9 then Zb7 n x0 x1 x2 x3 x4 x5 x6 x7 x8 x10 x9 x10 x0 0 else Zja n x0 x2 x3 x4 x5 x7 x8:=mkI
theorem Zx7 n x0 x1 x2 x3 x4 x5 x6 x7 x8 x9 x10 x11 x12 x13:Eq (Zb7 (n+1) x0 x1 x2 x3 x4 x5 x6 x7 x8 x9 x10 x11 x12 x13) <| bif x13<x12 then bif x1 then bif Zb (x5.length+List.length [(wrap .i64 (x6+x9),x13,wrap .i64 (x7+x13),x9,x3,())]) 40 then Zb7 n x0 x1 x2 x3 x4 (x5++[(wrap .i64 (x6+x9),x13,wrap .i64 (x7+x13),x9,x3,())]) x6 x7 x8 x9 x10 x11 x12 (wrap .i64 (x13+1)) else none else Zb7 n x0 x1 x2 x3 x4 x5 x6 x7 x8 x9 x10 x11 x12 (wrap .i64 (x13+1)) else Zem n x0 x1 x2 x3 x4 x5 x6 x7 x8 x10 (wrap .i64 (x11+1)):=mkI
theorem Zx8 n x0 x1 x2:Eq (Zhn (n+1) x0 x1 x2) <| bif x0==2 then Zeo n 7 x1 x2 1 0 else some (((x1,x2,()),0,())):=mkI
theorem Zx9 n x0 x1 x2 x3 x4 x5 x6 x7:Eq (Zen (n+1) x0 x1 x2 x3 x4 x5 x6 x7) <| bif x7<x6 then bif Zb (x3.length+List.length [(wrap .i64 (x4+x7),0,x5,x7,x1,())]) 40 then Zen n x0 x1 x2 (x3++[(wrap .i64 (x4+x7),0,x5,x7,x1,())]) x4 x5 x6 (wrap .i64 (x7+1)) else none else Zhn n x0 x2 x3:=mkI
theorem Zya n x0 x1 x2 x3 x4:Eq (Zeo (n+1) x0 x1 x2 x3 x4) <| bif x4<x3 then bif Zb (x1.length+List.length [(x0,x4,())]) 16 then Zeo n x0 (x1++[(x0,x4,())]) x2 x3 (wrap .i64 (x4+1)) else none else some (((x1,x2,()),0,())):=mkI
def Z6s:TCon:=Zau 125 5 40 Qq14
theorem ok69:Z6s.ok prog 69:=Xk (zero:=[.p (.bool false),.p (.int .i64 0),.p (.int .i64 0),.p (.int .i64 0),.p (.int .i64 0)]) (by kernel_rfl) rfl (by decide) rfl
def Z9z:TCon:=⟨[.c (.sl Qq14)],[.c (.p (.sl Qq14))],Z6s.fn⟩
theorem Ynt:Z9z.ok prog 69:=fun a r h=>TCon.frz (c:=Z6s) ok69 rfl a r h
def Ynu:Tb:=[(67,Yby),(69,Z6s)]
def F22:TFun:=⟨[],[(17,qc [[.c (.p (.sl Qq4))],[.c (.fn 66 [])],qn 5,qi,qi,qn 19,qi,[.c (.p (.sl Qq4))],qn 2,[.boxN 61 9 [.any,.any,.any,.nil,.nil,.nil,.nil,.nil,.nil]],qn 22])],[.c di,.c (.sl Qq4)],[.a [.p (.int .u8),.p di,.p di,.p (.sl Qq2),.p (.sl Qq10),.p (.sl Qq1),.s 125 5 Qq4,.p (.sl Qq3),.p (.sl Qq6)],.c (.p di)],qc [qn 4,[.boxN 61 9 [.p (.int .u8),.p di,.p di,.p (.sl Qq2),.p (.sl Qq10),.p (.sl Qq1),.rowN 125 5 Qq4,.p (.sl Qq3),.p (.sl Qq6)]],qi,qn 21],[(23,[66]),(13,[106]),(10,[68])],[(17,[9,27])],8⟩
def Yiq:=mkC Ynu prog 22 F22
theorem ok22:Yiq.ok prog 22:=mkO ⟨ok67,ok69,trivial⟩
def Zon (a0:Int)(a1:(List Qy6)):Option Qy10:=Yiq.fn (a0,a1,())
def Zdh (n:Nat)(x0:(List Qy6))(x1 x2 x3:Int)(x4:(List Qy6)):Option Qy10:=itr Ynu prog 22 F22 n 17 (x0,x1,x2,x3,x4,())
theorem Z3f a0 a1:Eq (Zon a0 a1) <| let k1:Option Qy10:=some (((0,0,0,[],[],[],[],[],[],()),2,()));bif a0<0 then k1 else bif a0>=4 then k1 else bif ofNat a1.length>60 then some (((0,0,0,[],[],[],[],[],[],()),4,())) else Zdh fuel a1 (ofNat a1.length) 0 a0 a1:=mkE
theorem Zlz n x0 x1 x2 x3 x4:Eq (Zdh (n+1) x0 x1 x2 x3 x4) <| bif x2<x1 then bif 0<=x2 then match x0[x2.toNat]? with | none=>none | some e0=>match Zb3 e0 with | none=>none | some e1=>bif e1.1 !=0 then bif x2>=0 then some (((0,0,0,[],[],[],[],[],[],()),8,())) else match Zf 40 x4 with | none=>none | some e2=>some (((1,x3,0,[],[],[],e2.1,[],[],()),0,())) else Zdh n x0 x1 (wrap .i64 (x2+1)) x3 x4 else none else match Zf 40 x4 with | none=>none | some e0=>some (((1,x3,0,[],[],[],e0.1,[],[],()),0,())):=mkI
def Yqh:Tb:=[]
def F196:TFun:=⟨[],[],[.c (.int .u32),.c (.int .u32)],[.c (.p (.int .u32)),.c (.p (.int .u32))],qc [qn 4,[.c (.p (.int .u32))],[.c (.p (.int .u32))],qn 11],[],[],0⟩
def Yir:=mkC Yqh prog 196 F196
theorem Ytc:Yir.ok prog 196:=mkO trivial
def Yqi:Tb:=[]
def F197:TFun:=⟨[],[],[.c (.int .u64),.c (.int .u64)],[.c (.p (.int .u64)),.c (.p (.int .u64))],qc [qn 4,[.c (.p (.int .u64))],[.c (.p (.int .u64))],qn 45],[],[],0⟩
def Z90:=mkC Yqi prog 197 F197
theorem Ytd:Z90.ok prog 197:=mkO trivial
def Zjr (a0 a1:Int):Option (Int×Int×Unit):=Z90.fn (a0,a1,())
theorem Zqb a0 a1:Eq (Zjr a0 a1) <| some ((wrap .u64 (wrap .u64 (wrap .u64 (Int.fdiv a0 4294967296*Int.fdiv a1 4294967296)+Int.fdiv (wrap .u64 (wrap .u64 (Int.fdiv a0 4294967296*Go.bits Go.BinOp.and Go.IntKind.u64 a1 4294967295)+Int.fdiv (wrap .u64 (Go.bits Go.BinOp.and Go.IntKind.u64 a0 4294967295*Go.bits Go.BinOp.and Go.IntKind.u64 a1 4294967295)) 4294967296)) 4294967296)+Int.fdiv (wrap .u64 (Go.bits Go.BinOp.and Go.IntKind.u64 (wrap .u64 (wrap .u64 (Int.fdiv a0 4294967296*Go.bits Go.BinOp.and Go.IntKind.u64 a1 4294967295)+Int.fdiv (wrap .u64 (Go.bits Go.BinOp.and Go.IntKind.u64 a0 4294967295*Go.bits Go.BinOp.and Go.IntKind.u64 a1 4294967295)) 4294967296)) 4294967295+wrap .u64 (Go.bits Go.BinOp.and Go.IntKind.u64 a0 4294967295*Int.fdiv a1 4294967296))) 4294967296),wrap .u64 (a0*a1),())):=mkE
def Yqj:Tb:=[(196,Yir),(197,Z90)]
def F153:TFun:=⟨[],[],[.c (.int .u64),.c (.int .u64)],[.c (.p (.int .u64)),.c (.p (.int .u64))],qc [qn 4,[.c (.p (.int .u64))],[.c (.p (.int .u64))],qn 24],[],[],0⟩
def Z91:=mkC Yqj prog 153 F153
theorem Yte:Z91.ok prog 153:=mkO ⟨Ytc,Ytd,trivial⟩
def Zho (a0 a1:Int):Option (Int×Int×Unit):=Z91.fn (a0,a1,())
theorem Zst a0 a1:Eq (Zho a0 a1) <| match Zjr a0 a1 with | none=>none | some e0=>some e0:=mkE
def Z3g:Tb:=[(153,Z91)]
def F107:TFun:=⟨[1,5],[(1,qc [[.c (.p (.sl Qq10))],qi,qn 46]),(5,qc [[.c (.p (.sl Qq10))],qn 5,[.c (.p (.int .u64))],qn 41]),(10,qc [qn 7,[.c (.rowN 2 1 Qq10)],qi,qn 39])],[.c (.sl Qq10),.c di],[.c (.s 2 1 Qq10)],qc [qn 4,[.c (.rowN 2 1 Qq10)],qn 43],[],[],0⟩
def Z92:=mkC Z3g prog 107 F107
theorem Ytf:Z92.ok prog 107:=mkO ⟨Yte,trivial⟩
def Zav (a0:Qy9)(a1:Int):Option Qy11:=Z92.fn (a0,a1,())
def Xc (n:Nat)(x0:Qy9)(x1:Int):Option Qy11:=itr Z3g prog 107 F107 n 1 (x0,x1,())
def Xd (n:Nat)(x0:Qy9)(x1:Int):Option Qy11:=itr Z3g prog 107 F107 n 5 (x0,x1,())
def Yb (n:Nat)(x0:Qy9)(x1:Int):Option Qy11:=itr Z3g prog 107 F107 n 10 (x0,x1,())
theorem Zd8 a0 a1:Eq (Zav a0 a1) <| bif a1<0 then none else Xc fuel a0 a1:=mkE
theorem Zdo n x0 x1:Eq (Xc (n+1) x0 x1) <| match Zho (wrap .u64 (ofNat x0.length)) (wrap .u64 x1) with | none=>none | some e0=>bif e0.1>0 then none else bif e0.2.1>9223372036854775807 then none else Xd n x0 e0.2.1:=mkI
theorem Zdp n x0 x1:Eq (Xd (n+1) x0 x1) <| bif 0<=wrap .i64 x1 then bif 0<=wrap .i64 x1 then bif decide (toNat (wrap .i64 x1)<=toNat (wrap .i64 x1))&&(decide (8*toNat (wrap .i64 x1)<=281474976710656)&&decide (toNat (wrap .i64 x1)<=9223372036854775807)) then Yb n (List.take (min x0.length (List.length (List.replicate (α:=Int×Unit) (toNat (wrap .i64 x1)) (0,())))) x0++List.drop (min x0.length (List.length (List.replicate (α:=Int×Unit) (toNat (wrap .i64 x1)) (0,())))) (List.replicate (toNat (wrap .i64 x1)) (0,()))) (ofNat (min x0.length (List.length (List.replicate (α:=Int×Unit) (toNat (wrap .i64 x1)) (0,()))))) else none else none else none:=mkI
theorem Zdi n x0 x1:Eq (Yb (n+1) x0 x1) <| bif x1<ofNat x0.length then bif 0<=x1 then bif x1.toNat<=x0.length then bif x1.toNat=x0.length then bif 0<=x1 then bif decide (0<=x1.toNat)&&decide (x1.toNat<=x0.length) then none else none else none else bif 0<=x1 then bif decide (0<=x1.toNat)&&decide (x1.toNat<=x0.length) then bif x1.toNat+(x0.length - x1.toNat)<=x0.length then Yb n (List.take x1.toNat x0++(List.take (min (List.length (List.take x1.toNat (List.drop 0 x0))) (x0.length - x1.toNat)) (List.take x1.toNat (List.drop 0 x0))++List.drop (x1.toNat+min (List.length (List.take x1.toNat (List.drop 0 x0))) (x0.length - x1.toNat)) x0)) (wrap .i64 (x1+ofNat (min (List.length (List.take x1.toNat (List.drop 0 x0))) (x0.length - x1.toNat)))) else none else none else none else none else none else some (x0,()):=mkI
def Ytg:Tb:=[(107,Z92)]
def F70:TFun:=⟨[],[],[.c di],[.c (.s 2 1 Qq10),.c (.p di)],qc [qn 2,[.c (.rowN 2 1 Qq10)],qi,qn 9],[],[],0⟩
def Ycg:=mkC Ytg prog 70 F70
theorem ok70:Ycg.ok prog 70:=mkO ⟨Ytf,trivial⟩
def Zh3 (a0:Int):Option (List (Int×Unit)×Int×Unit):=Ycg.fn (a0,())
theorem Z6t a0:Eq (Zh3 a0) <| bif a0<1 then some ([],2,()) else bif a0>4 then some ([],2,()) else match Zav [((-9223372036854775808),())] a0 with | none=>none | some e0=>some (e0.1,0,()):=mkE
def Yth:Tb:=[(70,Ycg)]
def F26:TFun:=⟨[],[],[.c di,.c di],[.a [.p (.int .u8),.p di,.p di,.p (.sl Qq2),.s 2 1 Qq10,.p (.sl Qq1),.p (.sl Qq4),.p (.sl Qq3),.p (.sl Qq6)],.c (.p di)],qc [qn 4,[.boxN 61 9 [.p (.int .u8),.p di,.p di,.p (.sl Qq2),.rowN 2 1 Qq10,.p (.sl Qq1),.p (.sl Qq4),.p (.sl Qq3),.p (.sl Qq6)]],qi,qn 22],[],[],0⟩
def Yis:=mkC Yth prog 26 F26
theorem ok26:Yis.ok prog 26:=mkO ⟨ok70,trivial⟩
def Z3h (a0 a1:Int):Option Qy10:=Yis.fn (a0,a1,())
theorem Yd3 a0 a1:Eq (Z3h a0 a1) <| match Zh3 a1 with | none=>none | some e0=>let k1:Option Qy10:=some (((0,0,0,[],[],[],[],[],[],()),2,()));bif e0.2.1 !=0 then k1 else bif a0<0 then k1 else bif a0>=3 then k1 else some (((4,a0,0,[],e0.1,[],[],[],[],()),0,())):=mkE
def Yti:Tb:=[]
def F23:TFun:=⟨[],[],[.c di],[.a [.p (.int .u8),.p di,.p di,.p (.sl Qq2),.s 2 1 Qq10,.p (.sl Qq1),.p (.sl Qq4),.p (.sl Qq3),.p (.sl Qq6)],.c (.p di)],qc [qn 2,[.boxN 61 9 [.p (.int .u8),.p di,.p di,.p (.sl Qq2),.rowN 2 1 Qq10,.p (.sl Qq1),.p (.sl Qq4),.p (.sl Qq3),.p (.sl Qq6)]],qi,qn 11],[],[],0⟩
def Z6u:=mkC Yti prog 23 F23
theorem ok23:Z6u.ok prog 23:=mkO trivial
def Yit:TCon:=⟨Z6u.args,[.a [.p (.int .u8),.p di,.p di,.p (.sl Qq2),.p (.sl Qq10),.p (.sl Qq1),.p (.sl Qq4),.p (.sl Qq3),.p (.sl Qq6)],.c (.p di)],Z6u.fn⟩
theorem Ytj:Yit.ok prog 23:=TCon.frz (c:=Z6u) ok23 rfl
def Zoo (a0:Int):Option Qy10:=Z6u.fn (a0,())
theorem Z3i a0:Eq (Zoo a0) <| let k1:Option Qy10:=some (((0,0,0,[],[],[],[],[],[],()),2,()));bif a0<0 then k1 else bif a0>=4 then k1 else some (((2,a0,0,[],[((-9223372036854775808),())],[],[],[],[],()),0,())):=mkE
def Ytk:Tb:=[]
def F24:TFun:=⟨[],[],[.c di],[.a [.p (.int .u8),.p di,.p di,.p (.sl Qq2),.p (.sl Qq10),.p (.sl Qq1),.p (.sl Qq4),.p (.sl Qq3),.p (.sl Qq6)],.c (.p di)],qc [qn 2,[.boxN 61 9 [.p (.int .u8),.p di,.p di,.p (.sl Qq2),.p (.sl Qq10),.p (.sl Qq1),.p (.sl Qq4),.p (.sl Qq3),.p (.sl Qq6)]],qi,qn 10],[],[],0⟩
def Yiu:=mkC Ytk prog 24 F24
theorem ok24:Yiu.ok prog 24:=mkO trivial
def Zwi (a0:Int):Option Qy10:=Yiu.fn (a0,())
theorem Z93 a0:Eq (Zwi a0) <| let k1:Option Qy10:=some (((0,0,0,[],[],[],[],[],[],()),2,()));bif a0<0 then k1 else bif a0>=4 then k1 else some (((3,a0,0,[],[],[],[],[],[],()),0,())):=mkE
def Ytl:Tb:=[(70,Ycg)]
def F27:TFun:=⟨[],[],[.c di],[.a [.p (.int .u8),.p di,.p di,.p (.sl Qq2),.s 2 1 Qq10,.p (.sl Qq1),.p (.sl Qq4),.p (.sl Qq3),.p (.sl Qq6)],.c (.p di)],qc [qn 2,[.boxN 61 9 [.p (.int .u8),.p di,.p di,.p (.sl Qq2),.rowN 2 1 Qq10,.p (.sl Qq1),.p (.sl Qq4),.p (.sl Qq3),.p (.sl Qq6)]],qi,qn 17],[],[],0⟩
def Z6v:=mkC Ytl prog 27 F27
theorem ok27:Z6v.ok prog 27:=mkO ⟨ok70,trivial⟩
def Yiv:TCon:=⟨Z6v.args,[.a [.p (.int .u8),.p di,.p di,.p (.sl Qq2),.p (.sl Qq10),.p (.sl Qq1),.p (.sl Qq4),.p (.sl Qq3),.p (.sl Qq6)],.c (.p di)],Z6v.fn⟩
theorem Ytm:Yiv.ok prog 27:=TCon.frz (c:=Z6v) ok27 rfl
def Zwj (a0:Int):Option Qy10:=Z6v.fn (a0,())
theorem Z94 a0:Eq (Zwj a0) <| let k1:Option Qy10:=some (((0,0,0,[],[],[],[],[],[],()),2,()));bif a0<0 then k1 else bif a0>=3 then k1 else match Zh3 2 with | none=>none | some e0=>some (((5,a0,0,[],e0.1,[],[],[],[],()),0,())):=mkE
def Ytn:Tb:=[]
def F29:TFun:=⟨[],[],[.c db],[.a [.p (.int .u8),.p di,.p di,.p (.sl Qq2),.p (.sl Qq10),.p (.sl Qq1),.p (.sl Qq4),.p (.sl Qq3),.p (.sl Qq6)]],qc [qn 2,[.boxN 61 9 [.p (.int .u8),.p di,.p di,.p (.sl Qq2),.p (.sl Qq10),.p (.sl Qq1),.p (.sl Qq4),.p (.sl Qq3),.p (.sl Qq6)]],qn 5],[],[],0⟩
def Ych:=mkC Ytn prog 29 F29
theorem ok29:Ych.ok prog 29:=mkO trivial
def Zwk (a0:Bool):Option (Qy1×Unit):=Ych.fn (a0,())
theorem Zwl a0:Eq (Zwk a0) <| bif a0 then some (((7,0,0,[],[],[],[],[],[],()),())) else some (((6,0,0,[],[],[],[],[],[],()),())):=mkE
def Yto:Tb:=[]
def F31:TFun:=⟨[],[],[.c di],[.a [.p di,.p (.sl Qq8)],.c (.p di)],qc [qn 2,[.boxN 88 2 [.p di,.p (.sl Qq8)]],qi,qn 9],[],[],0⟩
def Yiw:=mkC Yto prog 31 F31
theorem ok31:Yiw.ok prog 31:=mkO trivial
def Zg9 (a0:Int):Option ((Int×List (Int×Int×Int×Int×Int×Int×Int×Int×Int×Int×Unit)×Unit)×Int×Unit):=Yiw.fn (a0,())
theorem Zyb a0:Eq (Zg9 a0) <| bif a0<1 then some (((0,[],()),2,())) else bif a0>8 then some (((0,[],()),2,())) else some (((a0,[],()),0,())):=mkE
def Yci:Tb:=[]
def F41:TFun:=⟨[4],[(4,qc [qn 2,[.boxN 34 2 [.any,.p (.sl Qq3)]],[.boxN 34 2 [.any,.p (.sl Qq3)]],qn 55]),(6,qc [qn 2,[.boxN 34 2 [.p (.sl Qq7),.p (.sl Qq3)]],[.boxN 34 2 [.p (.sl Qq7),.p (.sl Qq3)]],qn 1,qi,qn 53]),(14,qc [qn 2,[.boxN 34 2 [.any,.p (.sl Qq3)]],[.boxN 34 2 [.any,.p (.sl Qq3)]],qn 2,qi,qn 52])],[.a [.sl Qq7,.sl Qq3],.a [.sl Qq7,.sl Qq3]],[.c (.p db)],qc [qn 4,qb,qn 54],[],[],0⟩
def Yix:=mkC Yci prog 41 F41
theorem ok41:Yix.ok prog 41:=mkO trivial
def Zjb (a0 a1:(List (Int×Int×Unit)×List Qy2×Unit)):Option (Bool×Unit):=Yix.fn (a0,a1,())
def Znw (n:Nat)(x0 x1:(List Qy2)):Option (Bool×Unit):=itr Yci prog 41 F41 n 4 (x0,x1,())
def Zep (n:Nat)(x0:Qy5)(x1:(List Qy2))(x2:Qy5)(x3:(List Qy2))(x4:Int):Option (Bool×Unit):=itr Yci prog 41 F41 n 6 (x0,x1,x2,x3,x4,())
def Zbm (n:Nat)(x0 x1:(List Qy2))(x2:Int):Option (Bool×Unit):=itr Yci prog 41 F41 n 14 (x0,x1,x2,())
theorem Z3j a0 a1:Eq (Zjb a0 a1) <| bif ofNat a0.1.length !=ofNat a1.1.length then some (false,()) else bif ofNat a0.2.1.length !=ofNat a1.2.1.length then some (false,()) else Zep fuel a0.1 a0.2.1 a1.1 a1.2.1 0:=mkE
theorem Zyc n x0 x1:Eq (Znw (n+1) x0 x1) <| Zbm n x0 x1 0:=mkI
theorem Znx n x0 x1 x2 x3 x4:Eq (Zep (n+1) x0 x1 x2 x3 x4) <| bif x4<ofNat x0.length then bif 0<=x4 then match x0[x4.toNat]? with | none=>none | some e0=>bif 0<=x4 then match x2[x4.toNat]? with | none=>none | some e1=>bif !(e0.1==e1.1&&(e0.2.1==e1.2.1&&true)) then some (false,()) else Zep n x0 x1 x2 x3 (wrap .i64 (x4+1)) else none else none else Znw n x1 x3:=mkI
theorem Zl0 n x0 x1 x2:Eq (Zbm (n+1) x0 x1 x2) <| bif x2<ofNat x0.length then bif 0<=x2 then match x0[x2.toNat]? with | none=>none | some e0=>bif 0<=x2 then match x1[x2.toNat]? with | none=>none | some e1=>bif !(e0.1==e1.1&&(e0.2.1==e1.2.1&&(e0.2.2.1==e1.2.2.1&&(e0.2.2.2.1==e1.2.2.2.1&&(e0.2.2.2.2.1==e1.2.2.2.2.1&&true))))) then some (false,()) else Zbm n x0 x1 (wrap .i64 (x2+1)) else none else none else some (true,()):=mkI
def Ytp:Tb:=[(22,Yiq)]
def F21:TFun:=⟨[],[],[.c di,.q [.sl [.sl Qq4]]],[.a [.p (.int .u8),.p di,.p di,.p (.sl Qq2),.p (.sl Qq10),.p (.sl Qq1),.s 125 5 Qq4,.p (.sl Qq3),.p (.sl Qq6)],.c (.p di)],qc [qn 3,[.boxN 61 9 [.p (.int .u8),.p di,.p di,.p (.sl Qq2),.p (.sl Qq10),.p (.sl Qq1),.rowN 125 5 Qq4,.p (.sl Qq3),.p (.sl Qq6)]],qi,qn 8],[],[],0⟩
def Yiy:=mkC Ytp prog 21 F21
theorem ok21:Yiy.ok prog 21:=mkO ⟨ok22,trivial⟩
def Zjc (a0:Int)(a1:(List (List Qy6×Unit)×Unit)):Option Qy10:=Yiy.fn (a0,a1,())
theorem Zwm a0 a1:Eq (Zjc a0 a1) <| bif 0<=a0 then match a1.1[a0.toNat]? with | none=>none | some e0=>match Zon a0 e0.1 with | none=>none | some e1=>some (e1.1,e1.2.1,()) else none:=mkE
def Ytq:Tb:=[(26,Yis)]
def F25:TFun:=⟨[],[],[.c di,.q Qq11],[.a [.p (.int .u8),.p di,.p di,.p (.sl Qq2),.s 2 1 Qq10,.p (.sl Qq1),.p (.sl Qq4),.p (.sl Qq3),.p (.sl Qq6)],.c (.p di)],qc [qn 3,[.boxN 61 9 [.p (.int .u8),.p di,.p di,.p (.sl Qq2),.rowN 2 1 Qq10,.p (.sl Qq1),.p (.sl Qq4),.p (.sl Qq3),.p (.sl Qq6)]],qi,qn 7],[],[],0⟩
def Yiz:=mkC Ytq prog 25 F25
theorem ok25:Yiz.ok prog 25:=mkO ⟨ok26,trivial⟩
def Zjd (a0:Int)(a1:Qy7):Option Qy10:=Yiz.fn (a0,a1,())
theorem Zwn a0 a1:Eq (Zjd a0 a1) <| match Z3h a0 (ofNat a1.2.2.1.length) with | none=>none | some e0=>some (e0.1,e0.2.1,()):=mkE
def Ytr:Tb:=[(29,Ych)]
def F28:TFun:=⟨[],[],[.c di],[.a [.p (.int .u8),.p di,.p di,.p (.sl Qq2),.p (.sl Qq10),.p (.sl Qq1),.p (.sl Qq4),.p (.sl Qq3),.p (.sl Qq6)],.c (.p di)],qc [qn 2,[.boxN 61 9 [.p (.int .u8),.p di,.p di,.p (.sl Qq2),.p (.sl Qq10),.p (.sl Qq1),.p (.sl Qq4),.p (.sl Qq3),.p (.sl Qq6)]],qi,qn 1],[],[],0⟩
def Yi0:=mkC Ytr prog 28 F28
theorem ok28:Yi0.ok prog 28:=mkO ⟨ok29,trivial⟩
def Zje (a0:Int):Option Qy10:=Yi0.fn (a0,())
theorem Zwo a0:Eq (Zje a0) <| match Zwk false with | none=>none | some e0=>some (e0.1,0,()):=mkE
def Yts:Tb:=[(29,Ych)]
def F30:TFun:=⟨[],[],[.c di],[.a [.p (.int .u8),.p di,.p di,.p (.sl Qq2),.p (.sl Qq10),.p (.sl Qq1),.p (.sl Qq4),.p (.sl Qq3),.p (.sl Qq6)],.c (.p di)],qc [qn 2,[.boxN 61 9 [.p (.int .u8),.p di,.p di,.p (.sl Qq2),.p (.sl Qq10),.p (.sl Qq1),.p (.sl Qq4),.p (.sl Qq3),.p (.sl Qq6)]],qi,qn 1],[],[],0⟩
def Yi1:=mkC Yts prog 30 F30
theorem ok30:Yi1.ok prog 30:=mkO ⟨ok29,trivial⟩
def Zjf (a0:Int):Option Qy10:=Yi1.fn (a0,())
theorem Zwp a0:Eq (Zjf a0) <| match Zwk true with | none=>none | some e0=>some (e0.1,0,()):=mkE
def tab6:Tb:=[(15,Zz6),(16,Yij),(17,Yim),(18,Yip),(19,Z9u),(20,Z9v),(21,Yiy),(25,Yiz),(23,Yit),(24,Yiu),(27,Yiv),(28,Yi0),(30,Yi1),(31,Yiw)]
def F6:TFun:=⟨[9,11,33,35,41,46],[(9,qc [qn 2,qi,qi,[.boxN 27 10 [.p (.int .u8),.p (.sl Qq5),.p (.sl Qq10),.p db,.p (.sl Qq5),.p (.int .u8),.p di,.p di,.p db,.p (.int .u8)]],[.boxN 28 1 [.p (.sl [.sl Qq4])]],qn 2,[.boxN 38 14 [.any,.nil,.nil,.any,.nil,.any,.any,.any,.any,.any,.nil,.nil,.nil,.nil]],qn 140]),(11,qc [qn 2,qi,qi,[.boxN 27 10 [.p (.int .u8),.p (.sl Qq5),.p (.sl Qq10),.p db,.p (.sl Qq5),.p (.int .u8),.p di,.p di,.p db,.p (.int .u8)]],[.boxN 28 1 [.p (.sl [.sl Qq4])]],qn 2,[.boxN 38 14 [.any,.nil,.nil,.any,.nil,.any,.any,.any,.any,.any,.nil,.nil,.nil,.nil]],qn 35,[.c (.p (.sl [.sl Qq4]))],qi,qi,qn 102]),(33,qc [qn 8,[.boxN 38 14 [.any,.nil,.nil,.any,.nil,.any,.any,.any,.any,.any,.nil,.nil,.nil,.nil]],qn 8,[.boxN 34 2 [.any,.p (.sl Qq3)]],[.boxN 38 14 [.p (.int .u8),.p (.sl Qq5),.p (.sl Qq10),.p db,.p (.sl Qq5),.p (.int .u8),.p di,.p di,.p db,.p (.int .u8),.p (.sl Qq7),.p (.sl Qq3),.rowN 61 9 Qq9,.nil]],qn 130]),(35,qc [qn 4,[.boxN 27 10 [.p (.int .u8),.p (.sl Qq5),.p (.sl Qq10),.p db,.p (.sl Qq5),.p (.int .u8),.p di,.p di,.p db,.p (.int .u8)]],[.boxN 28 1 [.p (.sl [.sl Qq4])]],qn 2,[.boxN 38 14 [.any,.nil,.nil,.any,.nil,.any,.any,.any,.any,.any,.nil,.nil,.nil,.nil]],qn 8,[.boxN 34 2 [.any,.p (.sl Qq3)]],[.boxN 38 14 [.p (.int .u8),.p (.sl Qq5),.p (.sl Qq10),.p db,.p (.sl Qq5),.p (.int .u8),.p di,.p di,.p db,.p (.int .u8),.p (.sl Qq7),.p (.sl Qq3),.rowN 61 9 Qq9,.nil]],[.boxN 83 7 [.fnp 21 1 0,.fn 23 [],.fn 24 [],.fnp 25 0 0,.fn 27 [],.fn 28 [],.fn 30 []]],qn 76,[.c (.p (.sl Qq7))],qi,qi,qn 50]),(41,qc [qn 4,[.boxN 27 10 [.p (.int .u8),.p (.sl Qq5),.p (.sl Qq10),.p db,.p (.sl Qq5),.p (.int .u8),.p di,.p di,.p db,.p (.int .u8)]],[.boxN 28 1 [.p (.sl [.sl Qq4])]],qn 2,[.boxN 38 14 [.any,.nil,.nil,.any,.nil,.any,.any,.any,.any,.any,.nil,.nil,.nil,.nil]],qn 8,[.boxN 34 2 [.any,.p (.sl Qq3)]],[.boxN 38 14 [.p (.int .u8),.p (.sl Qq5),.p (.sl Qq10),.p db,.p (.sl Qq5),.p (.int .u8),.p di,.p di,.p db,.p (.int .u8),.p (.sl Qq7),.p (.sl Qq3),.rowN 61 9 Qq9,.nil]],[.boxN 83 7 [.fnp 21 1 0,.fn 23 [],.fn 24 [],.fnp 25 0 0,.fn 27 [],.fn 28 [],.fn 30 []]],qn 2,[.boxN 61 9 [.p (.int .u8),.p di,.p di,.p (.sl Qq2),.p (.sl Qq10),.p (.sl Qq1),.p (.sl Qq4),.p (.sl Qq3),.p (.sl Qq6)]],qn 73,[.c (.p (.sl Qq7))],qi,qi,qn 50]),(46,qc [qn 8,[.boxN 38 14 [.any,.nil,.nil,.any,.nil,.any,.any,.any,.any,.any,.nil,.nil,.nil,.nil]],qn 9,[.boxN 38 14 [.p (.int .u8),.p (.sl Qq5),.p (.sl Qq10),.p db,.p (.sl Qq5),.p (.int .u8),.p di,.p di,.p db,.p (.int .u8),.p (.sl Qq7),.p (.sl Qq3),.rowN 61 9 Qq9,.rowN 88 2 [.int .i64,.sl Qq8]]],qn 106,[.c (.p (.sl Qq3))],qi,qi,qn 21])],[.a Qq11,.c (.sl [.sl Qq4]),.c di,.c di],[.a [.p (.int .u8),.p (.sl Qq5),.p (.sl Qq10),.p db,.p (.sl Qq5),.p (.int .u8),.p di,.p di,.p db,.p (.int .u8),.p (.sl Qq7),.p (.sl Qq3),.s 61 9 Qq9,.s 88 2 [.int .i64,.sl Qq8]],.c (.p di)],qc [qn 8,[.boxN 38 14 [.p (.int .u8),.p (.sl Qq5),.p (.sl Qq10),.p db,.p (.sl Qq5),.p (.int .u8),.p di,.p di,.p db,.p (.int .u8),.p (.sl Qq7),.p (.sl Qq3),.rowN 61 9 Qq9,.rowN 88 2 [.int .i64,.sl Qq8]]],qi,qn 139],[],[],0⟩
def con6:=mkC tab6 prog 6 F6
theorem ok6:con6.ok prog 6:=mkO ⟨ok15,ok16,ok17,Ytb,Ynq,Ynr,ok21,ok25,Ytj,ok24,Ytm,ok28,ok30,ok31,trivial⟩
def Yi2:TCon:=⟨con6.args,[.a [.p (.int .u8),.p (.sl Qq5),.p (.sl Qq10),.p db,.p (.sl Qq5),.p (.int .u8),.p di,.p di,.p db,.p (.int .u8),.p (.sl Qq7),.p (.sl Qq3),.p (.sl Qq9),.p (.sl [.int .i64,.sl Qq8])],.c (.p di)],con6.fn⟩
theorem ok6p:Yi2.ok prog 6:=TCon.frz (c:=con6) ok6 rfl
def Zan (a0:Qy7)(a1:(List (List Qy6×Unit)))(a2 a3:Int):Option Qy3:=con6.fn (a0,a1,a2,a3,())
def Ym (n:Nat)(x0 x1 x2:Int)(x3:(List Qy2))(x4:Qy9)(x5:Bool)(x6:(List Qy2))(x7 x8 x9:Int)(x10:Bool)(x11:Int)(x12:(List (List Qy6×Unit))):Option Qy3:=itr tab6 prog 6 F6 n 9 (x0,x1,x2,x3,x4,x5,x6,x7,x8,x9,x10,x11,x12,())
def Y9 (n:Nat)(x0 x1 x2:Int)(x3:(List Qy2))(x4:Qy9)(x5:Bool)(x6:(List Qy2))(x7 x8 x9:Int)(x10:Bool)(x11:Int)(x12 x13:(List (List Qy6×Unit)))(x14 x15:Int):Option Qy3:=itr tab6 prog 6 F6 n 11 (x0,x1,x2,x3,x4,x5,x6,x7,x8,x9,x10,x11,x12,x13,x14,x15,())
def Qn (n:Nat)(x0:(List Qy2))(x1:Int)(x2:(List Qy2))(x3:Qy9)(x4:Bool)(x5:(List Qy2))(x6 x7 x8:Int)(x9:Bool)(x10:Int)(x11:Qy5)(x12:(List Qy2))(x13:(List Qy1)):Option Qy3:=itr tab6 prog 6 F6 n 33 (x0,x1,x2,x3,x4,x5,x6,x7,x8,x9,x10,x11,x12,x13,())
def Zz (n:Nat)(x0:Int)(x1:(List Qy2))(x2:Qy9)(x3:Bool)(x4:(List Qy2))(x5 x6 x7:Int)(x8:Bool)(x9:Int)(x10:(List (List Qy6×Unit)))(x11:(List Qy2))(x12:Int)(x13:(List Qy2))(x14:Qy9)(x15:Bool)(x16:(List Qy2))(x17 x18 x19:Int)(x20:Bool)(x21:Int)(x22:Qy5)(x23:(List Qy2))(x24:(List Qy1))(x25:Qy5)(x26 x27:Int):Option Qy3:=itr tab6 prog 6 F6 n 35 (x0,x1,x2,x3,x4,x5,x6,x7,x8,x9,x10,x11,x12,x13,x14,x15,x16,x17,x18,x19,x20,x21,x22,x23,x24,x25,x26,x27,())
def Zr (n:Nat)(x0:Int)(x1:(List Qy2))(x2:Qy9)(x3:Bool)(x4:(List Qy2))(x5 x6 x7:Int)(x8:Bool)(x9:Int)(x10:(List (List Qy6×Unit)))(x11:(List Qy2))(x12:Int)(x13:(List Qy2))(x14:Qy9)(x15:Bool)(x16:(List Qy2))(x17 x18 x19:Int)(x20:Bool)(x21:Int)(x22:Qy5)(x23:(List Qy2))(x24:(List Qy1))(x25 x26 x27:Int)(x28:(List (Int×Int×Int×Int×Int×Int×Int×Int×Int×Int×Int×Unit)))(x29:Qy9)(x30:(List (Int×Int×Int×Int×Int×Int×Int×Int×Int×Int×Int×Unit)))(x31:(List Qy6))(x32:(List Qy2))(x33:(List (Int×Int×Int×Unit)))(x34:Qy5)(x35 x36:Int):Option Qy3:=itr tab6 prog 6 F6 n 41 (x0,x1,x2,x3,x4,x5,x6,x7,x8,x9,x10,x11,x12,x13,x14,x15,x16,x17,x18,x19,x20,x21,x22,x23,x24,x25,x26,x27,x28,x29,x30,x31,x32,x33,x34,x35,x36,())
def Xa (n:Nat)(x0:Int)(x1:(List Qy2))(x2:Qy9)(x3:Bool)(x4:(List Qy2))(x5 x6 x7:Int)(x8:Bool)(x9:Int)(x10:Qy5)(x11:(List Qy2))(x12:(List Qy1))(x13:(List (Int×List (Int×Int×Int×Int×Int×Int×Int×Int×Int×Int×Unit)×Unit)))(x14:(List Qy2))(x15 x16:Int):Option Qy3:=itr tab6 prog 6 F6 n 46 (x0,x1,x2,x3,x4,x5,x6,x7,x8,x9,x10,x11,x12,x13,x14,x15,x16,())
theorem Zyd a0 a1 a2 a3:Eq (Zan a0 a1 a2 a3) <| match Qv a0 with | none=>none | some e0=>bif e0.2.1 !=0 then some (((0,[],[],false,[],0,0,0,false,0,[],[],[],[],()),e0.2.1,())) else bif ofNat a1.length !=ofNat a0.2.2.1.length then some (((0,[],[],false,[],0,0,0,false,0,[],[],[],[],()),2,())) else Y9 fuel a2 a3 a0.1 a0.2.1 a0.2.2.1 a0.2.2.2.1 a0.2.2.2.2.1 a0.2.2.2.2.2.1 a0.2.2.2.2.2.2.1 a0.2.2.2.2.2.2.2.1 a0.2.2.2.2.2.2.2.2.1 a0.2.2.2.2.2.2.2.2.2.1 a1 a1 (ofNat a1.length) 0:=mkE
theorem Zwq n x0 x1 x2 x3 x4 x5 x6 x7 x8 x9 x10 x11 x12:Eq (Ym (n+1) x0 x1 x2 x3 x4 x5 x6 x7 x8 x9 x10 x11 x12) <| match Ztf (x2,x3,x4,x5,x6,x7,x8,x9,x10,x11,()) with | none=>none | some e0=>bif e0.2.1 !=0 then some (((0,[],[],false,[],0,0,0,false,0,[],[],[],[],()),e0.2.1,())) else match Zqa e0.1 x0 x1 with | none=>none | some e1=>bif e1.2.1 !=0 then some (((0,[],[],false,[],0,0,0,false,0,[],[],[],[],()),e1.2.1,())) else match Zf 40 x3 with | none=>none | some e2=>match Zf 40 x6 with | none=>none | some e3=>match Zf 8 x4 with | none=>none | some e4=>Zz n x2 e2.1 e4.1 x5 e3.1 x7 x8 x9 x10 x11 x12 e1.1.2.1 x2 e2.1 e4.1 x5 e3.1 x7 x8 x9 x10 x11 e1.1.1 e1.1.2.1 ([]) e1.1.1 (ofNat e1.1.1.length) 0:=mkI
theorem Zjs n x0 x1 x2 x3 x4 x5 x6 x7 x8 x9 x10 x11 x12 x13 x14 x15:Eq (Y9 (n+1) x0 x1 x2 x3 x4 x5 x6 x7 x8 x9 x10 x11 x12 x13 x14 x15) <| bif x15<x14 then bif 0<=x15 then match x13[x15.toNat]? with | none=>none | some e0=>match Zom e0.1 with | none=>none | some e1=>bif e1.1 !=0 then some (((0,[],[],false,[],0,0,0,false,0,[],[],[],[],()),e1.1,())) else Y9 n x0 x1 x2 x3 x4 x5 x6 x7 x8 x9 x10 x11 x12 x13 x14 (wrap .i64 (x15+1)) else none else Ym n x0 x1 x2 x3 x4 x5 x6 x7 x8 x9 x10 x11 x12:=mkI
theorem Zsu n x0 x1 x2 x3 x4 x5 x6 x7 x8 x9 x10 x11 x12 x13:Eq (Qn (n+1) x0 x1 x2 x3 x4 x5 x6 x7 x8 x9 x10 x11 x12 x13) <| Xa n x1 x2 x3 x4 x5 x6 x7 x8 x9 x10 x11 x12 x13 ([]) x0 (ofNat x0.length) 0:=mkI
theorem Zjt n x0 x1 x2 x3 x4 x5 x6 x7 x8 x9 x10 x11 x12 x13 x14 x15 x16 x17 x18 x19 x20 x21 x22 x23 x24 x25 x26 x27:Eq (Zz (n+1) x0 x1 x2 x3 x4 x5 x6 x7 x8 x9 x10 x11 x12 x13 x14 x15 x16 x17 x18 x19 x20 x21 x22 x23 x24 x25 x26 x27) <| bif x27<x26 then bif 0<=x27 then match x25[x27.toNat]? with | none=>none | some e0=>bif 0<=wrap .u8 (e0.1 - 1) then bif toNat (wrap .u8 (e0.1 - 1))=nat_lit 6 then match Zjf e0.2.1 with | none=>none | some e1=>bif e1.2.1 !=0 then some (((0,[],[],false,[],0,0,0,false,0,[],[],[],[],()),e1.2.1,())) else Zr n x0 x1 x2 x3 x4 x5 x6 x7 x8 x9 x10 x11 x12 x13 x14 x15 x16 x17 x18 x19 x20 x21 x22 x23 x24 e1.1.1 e1.1.2.1 e1.1.2.2.1 e1.1.2.2.2.1 e1.1.2.2.2.2.1 e1.1.2.2.2.2.2.1 e1.1.2.2.2.2.2.2.1 e1.1.2.2.2.2.2.2.2.1 e1.1.2.2.2.2.2.2.2.2.1 x25 x26 x27 else bif toNat (wrap .u8 (e0.1 - 1))=nat_lit 5 then match Zje e0.2.1 with | none=>none | some e1=>bif e1.2.1 !=0 then some (((0,[],[],false,[],0,0,0,false,0,[],[],[],[],()),e1.2.1,())) else Zr n x0 x1 x2 x3 x4 x5 x6 x7 x8 x9 x10 x11 x12 x13 x14 x15 x16 x17 x18 x19 x20 x21 x22 x23 x24 e1.1.1 e1.1.2.1 e1.1.2.2.1 e1.1.2.2.2.1 e1.1.2.2.2.2.1 e1.1.2.2.2.2.2.1 e1.1.2.2.2.2.2.2.1 e1.1.2.2.2.2.2.2.2.1 e1.1.2.2.2.2.2.2.2.2.1 x25 x26 x27 else bif toNat (wrap .u8 (e0.1 - 1))=nat_lit 4 then match Zwj e0.2.1 with | none=>none | some e1=>bif e1.2.1 !=0 then some (((0,[],[],false,[],0,0,0,false,0,[],[],[],[],()),e1.2.1,())) else Zr n x0 x1 x2 x3 x4 x5 x6 x7 x8 x9 x10 x11 x12 x13 x14 x15 x16 x17 x18 x19 x20 x21 x22 x23 x24 e1.1.1 e1.1.2.1 e1.1.2.2.1 e1.1.2.2.2.1 e1.1.2.2.2.2.1 e1.1.2.2.2.2.2.1 e1.1.2.2.2.2.2.2.1 e1.1.2.2.2.2.2.2.2.1 e1.1.2.2.2.2.2.2.2.2.1 x25 x26 x27 else bif toNat (wrap .u8 (e0.1 - 1))=nat_lit 3 then match Zjd e0.2.1 (x0,x1,x2,x3,x4,x5,x6,x7,x8,x9,()) with | none=>none | some e1=>bif List.isEmpty e1.1.2.2.2.1 then bif List.isEmpty e1.1.2.2.2.2.2.1 then bif List.isEmpty e1.1.2.2.2.2.2.2.1 then bif List.isEmpty e1.1.2.2.2.2.2.2.2.1 then bif List.isEmpty e1.1.2.2.2.2.2.2.2.2.1 then bif e1.2.1 !=0 then some (((0,[],[],false,[],0,0,0,false,0,[],[],[],[],()),e1.2.1,())) else Zr n x0 x1 x2 x3 x4 x5 x6 x7 x8 x9 x10 x11 x12 x13 x14 x15 x16 x17 x18 x19 x20 x21 x22 x23 x24 e1.1.1 e1.1.2.1 e1.1.2.2.1 e1.1.2.2.2.1 e1.1.2.2.2.2.1 e1.1.2.2.2.2.2.1 e1.1.2.2.2.2.2.2.1 e1.1.2.2.2.2.2.2.2.1 e1.1.2.2.2.2.2.2.2.2.1 x25 x26 x27 else none else none else none else none else none else bif toNat (wrap .u8 (e0.1 - 1))=nat_lit 2 then match Zwi e0.2.1 with | none=>none | some e1=>bif e1.2.1 !=0 then some (((0,[],[],false,[],0,0,0,false,0,[],[],[],[],()),e1.2.1,())) else Zr n x0 x1 x2 x3 x4 x5 x6 x7 x8 x9 x10 x11 x12 x13 x14 x15 x16 x17 x18 x19 x20 x21 x22 x23 x24 e1.1.1 e1.1.2.1 e1.1.2.2.1 e1.1.2.2.2.1 e1.1.2.2.2.2.1 e1.1.2.2.2.2.2.1 e1.1.2.2.2.2.2.2.1 e1.1.2.2.2.2.2.2.2.1 e1.1.2.2.2.2.2.2.2.2.1 x25 x26 x27 else bif toNat (wrap .u8 (e0.1 - 1))=nat_lit 1 then match Zoo e0.2.1 with | none=>none | some e1=>bif e1.2.1 !=0 then some (((0,[],[],false,[],0,0,0,false,0,[],[],[],[],()),e1.2.1,())) else Zr n x0 x1 x2 x3 x4 x5 x6 x7 x8 x9 x10 x11 x12 x13 x14 x15 x16 x17 x18 x19 x20 x21 x22 x23 x24 e1.1.1 e1.1.2.1 e1.1.2.2.1 e1.1.2.2.2.1 e1.1.2.2.2.2.1 e1.1.2.2.2.2.2.1 e1.1.2.2.2.2.2.2.1 e1.1.2.2.2.2.2.2.2.1 e1.1.2.2.2.2.2.2.2.2.1 x25 x26 x27 else bif toNat (wrap .u8 (e0.1 - 1))=nat_lit 0 then match Zjc e0.2.1 (x10,()) with | none=>none | some e1=>bif List.isEmpty e1.1.2.2.2.1 then bif List.isEmpty e1.1.2.2.2.2.1 then bif List.isEmpty e1.1.2.2.2.2.2.1 then bif List.isEmpty e1.1.2.2.2.2.2.2.2.1 then bif List.isEmpty e1.1.2.2.2.2.2.2.2.2.1 then bif e1.2.1 !=0 then some (((0,[],[],false,[],0,0,0,false,0,[],[],[],[],()),e1.2.1,())) else Zr n x0 x1 x2 x3 x4 x5 x6 x7 x8 x9 x10 x11 x12 x13 x14 x15 x16 x17 x18 x19 x20 x21 x22 x23 x24 e1.1.1 e1.1.2.1 e1.1.2.2.1 e1.1.2.2.2.1 e1.1.2.2.2.2.1 e1.1.2.2.2.2.2.1 e1.1.2.2.2.2.2.2.1 e1.1.2.2.2.2.2.2.2.1 e1.1.2.2.2.2.2.2.2.2.1 x25 x26 x27 else none else none else none else none else none else none else none else none else Qn n x11 x12 x13 x14 x15 x16 x17 x18 x19 x20 x21 x22 x23 x24:=mkI
theorem Zsv n x0 x1 x2 x3 x4 x5 x6 x7 x8 x9 x10 x11 x12 x13 x14 x15 x16 x17 x18 x19 x20 x21 x22 x23 x24 x25 x26 x27 x28 x29 x30 x31 x32 x33 x34 x35 x36:Eq (Zr (n+1) x0 x1 x2 x3 x4 x5 x6 x7 x8 x9 x10 x11 x12 x13 x14 x15 x16 x17 x18 x19 x20 x21 x22 x23 x24 x25 x26 x27 x28 x29 x30 x31 x32 x33 x34 x35 x36) <| bif Zb (x24.length+List.length [(x25,x26,x27,x28,x29,x30,x31,x32,x33,())]) 168 then Zz n x0 x1 x2 x3 x4 x5 x6 x7 x8 x9 x10 x11 x12 x13 x14 x15 x16 x17 x18 x19 x20 x21 x22 x23 (x24++[(x25,x26,x27,x28,x29,x30,x31,x32,x33,())]) x34 x35 (wrap .i64 (x36+1)) else none:=mkI
theorem Zju n x0 x1 x2 x3 x4 x5 x6 x7 x8 x9 x10 x11 x12 x13 x14 x15 x16:Eq (Xa (n+1) x0 x1 x2 x3 x4 x5 x6 x7 x8 x9 x10 x11 x12 x13 x14 x15 x16) <| bif x16<x15 then bif 0<=x16 then match x14[x16.toNat]? with | none=>none | some e0=>match Zg9 e0.2.2.2.2.1 with | none=>none | some e1=>bif e1.2.1 !=0 then some (((0,[],[],false,[],0,0,0,false,0,[],[],[],[],()),e1.2.1,())) else bif Zb (x13.length+List.length [e1.1]) 32 then Xa n x0 x1 x2 x3 x4 x5 x6 x7 x8 x9 x10 x11 x12 (x13++[e1.1]) x14 x15 (wrap .i64 (x16+1)) else none else none else some (((x0,x1,x2,x3,x4,x5,x6,x7,x8,x9,x10,x11,x12,x13,()),0,())):=mkI
end
end Tg
