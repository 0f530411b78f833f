import Derived.Test.YtdgcdoiefodccaaGreatBVb3
import Derived.Test.YtdgcdoiefodccaaGreatBVb4
import Derived.Test.YtdgcdoiefodccaaGreatBVb5
import Derived.Test.YtdgcdoiefodccaaGreatBXb6
/- Functions of the code, told plainly and checked by the kernel. -/
set_option linter.unusedVariables false
set_option linter.unusedSimpArgs false
set_option maxRecDepth 100000
namespace Tg
open Go.Abs hiding fuel
open Go.Proofs.Tryz (prog)
open Int (ofNat toNat)
open Go.IntKind (wrap)
noncomputable def Ytr:Tb:=[]
def F73:TFun:=⟨[],[],[.c di],[.c (.p db)],qc [qn 2,qb,qn 6],[],[],0⟩
noncomputable def Yjl:=mkC Ytr prog 73 F73
theorem ok73:Yjl.ok prog 73:=mkO trivial (by kernel_rfl)
noncomputable def Zgd (a0:Int):Option (Bool×Unit):=Yjl.fn (a0,())
theorem Z63 a0:Eq (Zgd a0) <| bif a0≥(-1099511627776) then some (decide (a0≤1099511627776),()) else some (false,()):=mkE (by kernel_rfl)
noncomputable def Yn7:Tb:=[(73,Yjl)]
def F31:TFun:=⟨[],[(6,qc [qn 10,[.c (.p (.sl Qq5))],qi,qi,qn 42])],[.c (.sl Qq5)],[.c (.p di)],qc [qn 2,qi,qn 52],[],[],0⟩
noncomputable def Yjm:=mkC Yn7 prog 31 F31
theorem ok31:Yjm.ok prog 31:=mkO ⟨ok73,trivial⟩ (by kernel_rfl)
noncomputable def Zpq (a0:(List Qy7)):Option (Int×Unit):=Yjm.fn (a0,())
noncomputable def Zce (n:Nat)(x0:(List Qy7))(x1 x2:Int):Option (Int×Unit):=itr Yn7 prog 31 F31 n 6 (x0,x1,x2,())
theorem Z3q a0:Eq (Zpq a0) <| bif ofNat a0.length>60 then some (4,()) else Zce fuel a0 (ofNat a0.length) 0:=mkE (by kernel_rfl)
theorem Zor n x0 x1 x2:Eq (Zce (n+1) x0 x1 x2) <| bif x2<x1 then bif 0≤x2 then match x0[x2.toNat]? with | none=>none | some e0=>let k2:Option (Int×Unit):=bif !e0.1 then some (8,()) else Zce n x0 x1 (wrap .i64 (x2+1));let k4:=Zce n x0 x1 (wrap .i64 (x2+1));let k6:Option (Int×Unit):=some (8,());bif e0.2.2.1==0&&(e0.2.2.2.1==0&&(e0.2.2.2.2.1==0&&true)) then match Zgd e0.2.1 with | none=>none | some e1=>bif e1.1 then bif e0.2.1==0 then match Zgd e0.2.2.2.1 with | none=>none | some e2=>bif e0.1 then bif !e0.1 then bif !e2.1 then k6 else k4 else k4 else bif !e0.1 then bif !e2.1 then k6 else k4 else k4 else bif e0.1 then k2 else k2 else bif e0.2.1==0 then match Zgd e0.2.2.2.1 with | none=>none | some e2=>bif e0.1 then bif !e0.2.1==9223372036854775807 then k6 else bif !e0.1 then bif !e2.1 then k6 else k4 else k4 else bif !e0.1 then bif !e2.1 then k6 else k4 else k4 else bif e0.1 then bif !e0.2.1==9223372036854775807 then k6 else k2 else k2 else bif e0.2.1==0 then match Zgd e0.2.2.2.1 with | none=>none | some e1=>bif e0.1 then k6 else bif !e0.1 then bif !e1.1 then k6 else k4 else k4 else bif e0.1 then k6 else k2 else none else some (0,()):=mkI (by kernel_rfl)
def Yjn:TCon:=Zql 98 5 40 Qq13
theorem ok34:Yjn.ok prog 34:=Zln (zero:=[.p (.int .u8 0),.p (.int .i64 0),.p (.int .i64 0),.p (.int .i64 0),.p (.int .i64 0)]) (by kernel_rfl) rfl (by decide) rfl
def Yap:TCon:=⟨[.c (.sl Qq13)],[.c (.p (.sl Qq13))],Yjn.fn⟩
theorem Yn8:Yap.ok prog 34:=fun a r h=>TCon.frz (c:=Yjn) ok34 rfl a r h
def Yjo:TCon:=Zql 3 1 8 Qq11
theorem ok35:Yjo.ok prog 35:=Zln (zero:=[.p (.int .i64 0)]) (by kernel_rfl) rfl (by decide) rfl
def Yaq:TCon:=⟨[.c (.sl Qq11)],[.c (.p (.sl Qq11))],Yjo.fn⟩
theorem Yn9:Yaq.ok prog 35:=fun a r h=>TCon.frz (c:=Yjo) ok35 rfl a r h
noncomputable def Ycy:Tb:=[]
def F74:TFun:=⟨[2,5,8],[(2,qc [qn 1,[.boxN 27 10 [.any,.any,.any,.p db,.any,.any,.any,.any,.p db,.p (.int .u8)]],qn 1,[.c (.rowN 5 1 Qq16)],qn 37]),(5,qc [qn 1,[.boxN 27 10 [.any,.any,.any,.p db,.any,.any,.any,.any,.any,.p (.int .u8)]],qn 1,[.c (.rowN 5 1 Qq16)],qn 37]),(8,qc [qn 1,[.boxN 27 10 [.any,.any,.any,.any,.any,.any,.any,.any,.any,.p (.int .u8)]],qn 1,[.c (.rowN 5 1 Qq16)],qn 37])],[.a Qq9],[.c (.s 5 1 Qq16)],qc [qn 2,[.c (.rowN 5 1 Qq16)],qn 38],[],[],0⟩
noncomputable def Z64:=mkC Ycy prog 74 F74
theorem ok74:Z64.ok prog 74:=mkO trivial (by kernel_rfl)
noncomputable def Yar:TCon:=⟨Z64.args,[.c (.p (.sl Qq16))],Z64.fn⟩
theorem Yoa:Yar.ok prog 74:=TCon.frz (c:=Z64) ok74 rfl
noncomputable def Zju (a0:Qy5):Option Qy13:=Z64.fn (a0,())
noncomputable def Zey (n:Nat)(x0 x1:Bool)(x2:Int)(x3:Qy9):Option Qy13:=itr Ycy prog 74 F74 n 2 (x0,x1,x2,x3,())
noncomputable def Zih (n:Nat)(x0:Bool)(x1:Int)(x2:Qy9):Option Qy13:=itr Ycy prog 74 F74 n 5 (x0,x1,x2,())
noncomputable def Zii (n:Nat)(x0:Int)(x1:Qy9):Option Qy13:=itr Ycy prog 74 F74 n 8 (x0,x1,())
theorem Z3r a0:Eq (Zju a0) <| bif ofNat a0.2.2.2.2.1.length>0 then Zey fuel a0.2.2.2.1 a0.2.2.2.2.2.2.2.2.1 a0.2.2.2.2.2.2.2.2.2.1 ([(1,()),(2,())]++[(3,())]) else Zey fuel a0.2.2.2.1 a0.2.2.2.2.2.2.2.2.1 a0.2.2.2.2.2.2.2.2.2.1 ([(1,()),(2,())]):=mkE (by kernel_rfl)
theorem Zzb n x0 x1 x2 x3:Eq (Zey (n+1) x0 x1 x2 x3) <| bif Zb (x3.length+1) 1 then bif x1 then bif Zb (List.length (x3++[(4,())])+1) 1 then Zih n x0 x2 (x3++[(4,())]++[(5,())]) else none else Zih n x0 x2 (x3++[(4,())]) else none:=mkI (by kernel_rfl)
theorem Zzc n x0 x1 x2:Eq (Zih (n+1) x0 x1 x2) <| bif Zb (x2.length+1) 1 then bif x0 then bif Zb (List.length (x2++[(6,())])+1) 1 then Zii n x1 (x2++[(6,())]++[(8,())]) else none else bif Zb (List.length (x2++[(6,())])+1) 1 then Zii n x1 (x2++[(6,())]++[(7,())]) else none else none:=mkI (by kernel_rfl)
theorem Zzd n x0 x1:Eq (Zii (n+1) x0 x1) <| bif Zb (x1.length+1) 1 then bif x0==2 then bif Zb (List.length (x1++[(9,())])+1) 1 then some ((x1++[(9,())]++[(10,())],())) else none else some ((x1++[(9,())],())) else none:=mkI (by kernel_rfl)
noncomputable def Yts:Tb:=[(27,Z02),(34,Yap),(35,Yaq),(74,Yar)]
def F32:TFun:=⟨[],[],[.a Qq9],[.a [.p (.sl Qq16),.p (.int .u8),.p (.sl Qq4),.p (.sl Qq11),.p db,.p (.sl Qq4),.p (.int .u8),.p di,.p di,.p db,.p (.int .u8)],.c (.p di)],qc [qn 2,[.boxN 91 11 [.p (.sl Qq16),.p (.int .u8),.p (.sl Qq4),.p (.sl Qq11),.p db,.p (.sl Qq4),.p (.int .u8),.p di,.p di,.p db,.p (.int .u8)]],qi,qn 27],[],[],0⟩
noncomputable def Yjp:=mkC Yts prog 32 F32
theorem ok32:Yjp.ok prog 32:=mkO ⟨ok27,Yn8,Yn9,Yoa,trivial⟩ (by kernel_rfl)
noncomputable def Zub (a0:Qy5):Option (Qy8×Int×Unit):=Yjp.fn (a0,())
theorem Yes a0:Eq (Zub a0) <| match Qz a0 with | none=>none | some e0=>bif e0.2.1 !=0 then some ((([],0,[],[],false,[],0,0,0,false,0,()),e0.2.1,())) else match Zj 40 a0.2.1 with | none=>none | some e1=>match Zj 8 a0.2.2.1 with | none=>none | some e2=>match Zj 40 a0.2.2.2.2.1 with | none=>none | some e3=>match Zju (a0.1,e1.1,e2.1,a0.2.2.2.1,e3.1,a0.2.2.2.2.2) with | none=>none | some e4=>some ((e4.1,a0.1,e1.1,e2.1,a0.2.2.2.1,e3.1,a0.2.2.2.2.2),0,()):=mkE (by kernel_rfl)
noncomputable def Yjq:Tb:=[]
def F115:TFun:=⟨[],[(6,qc [[.c (.p (.sl Qq16))],[.c (.p (.sl Qq16))],qn 10,qi,qi,qn 12])],[.c (.sl Qq16),.c (.sl Qq16)],[.c (.p db)],qc [qn 4,qb,qn 21],[],[],0⟩
noncomputable def Yas:=mkC Yjq prog 115 F115
theorem Ytt:Yas.ok prog 115:=mkO trivial (by kernel_rfl)
noncomputable def Xw (a0 a1:Qy9):Option (Bool×Unit):=Yas.fn (a0,a1,())
noncomputable def Yc (n:Nat)(x0 x1:Qy9)(x2 x3:Int):Option (Bool×Unit):=itr Yjq prog 115 F115 n 6 (x0,x1,x2,x3,())
theorem Zfe a0 a1:Eq (Xw a0 a1) <| bif ofNat a0.length !=ofNat a1.length then some (false,()) else Yc fuel a0 a1 (ofNat a0.length) 0:=mkE (by kernel_rfl)
theorem Zas n x0 x1 x2 x3:Eq (Yc (n+1) x0 x1 x2 x3) <| bif x3<x2 then bif 0≤x3 then match x0[x3.toNat]? with | none=>none | some e0=>bif 0≤x3 then match x1[x3.toNat]? with | none=>none | some e1=>bif e0.1 !=e1.1 then some (false,()) else Yc n x0 x1 x2 (wrap .i64 (x3+1)) else none else none else some (true,()):=mkI (by kernel_rfl)
noncomputable def Ytu:Tb:=[(27,Z02),(74,Yar),(115,Yas)]
def F75:TFun:=⟨[],[],[.a Qq12],[.c (.p di)],qc [qn 2,qi,qn 18],[],[],0⟩
noncomputable def Yjr:=mkC Ytu prog 75 F75
theorem ok75:Yjr.ok prog 75:=mkO ⟨ok27,Yoa,Ytt,trivial⟩ (by kernel_rfl)
noncomputable def Zhd (a0:Qy8):Option (Int×Unit):=Yjr.fn (a0,())
theorem Z3s a0:Eq (Zhd a0) <| match Qz a0.2 with | none=>none | some e0=>bif e0.2.1 !=0 then some (e0.2.1,()) else match Zju a0.2 with | none=>none | some e1=>match Xw a0.1 e1.1 with | none=>none | some e2=>bif !e2.1 then some (8,()) else some (0,()):=mkE (by kernel_rfl)
noncomputable def Zbq:Tb:=[(75,Yjr)]
def F33:TFun:=⟨[13,25,38,52,54,66,78,93,86,99,114],[(13,qc [qn 1,qi,qn 1,[.boxN 91 11 [.any,.any,.any,.any,.p db,.any,.any,.any,.any,.p db,.p (.int .u8)]],qn 1,[.boxN 3 1 [.p di]],[.boxN 31 2 [.nil,.nil]],qn 2,qi,[.boxN 31 2 [.rowN 50 2 Qq10,.nil]],[.fnS 76 [.ptr 3 0]],[.fnS 77 [.ptr 3 0,.ptr 1 0]],qn 147]),(19,qc [[.c (.p (.int .u8))],qn 1,[.boxN 31 2 [.rowN 50 2 Qq10,.nil]],qn 5,[.c (.ptr 0 0)],qn 2,qi,qi,qn 13,qi,qn 1,[.boxN 91 11 [.any,.any,.any,.any,.p db,.any,.any,.any,.any,.p db,.p (.int .u8)]],qn 1,[.boxN 3 1 [.p di]],[.boxN 31 2 [.nil,.nil]],qn 2,qi,[.c (.ptr 0 0)],[.fnS 76 [.ptr 0 0]],[.fnS 77 [.ptr 0 0,.ptr 3 0]],qn 147]),(25,qc [qn 1,qi,qn 1,[.boxN 91 11 [.any,.any,.any,.any,.p db,.any,.any,.any,.any,.p db,.p (.int .u8)]],qn 1,[.boxN 3 1 [.p di]],[.boxN 31 2 [.nil,.nil]],qn 2,qi,[.boxN 31 2 [.rowN 50 2 Qq10,.nil]],[.fnS 76 [.ptr 3 0]],[.fnS 77 [.ptr 3 0,.ptr 1 0]],qi,qn 146]),(31,qc [[.c (.p (.int .u8))],qn 1,[.boxN 31 2 [.rowN 50 2 Qq10,.nil]],qn 3,qi,qn 1,[.c (.ptr 0 0)],qn 2,qi,qi,qn 13,qi,qn 1,[.boxN 91 11 [.any,.any,.any,.any,.p db,.any,.any,.any,.any,.p db,.p (.int .u8)]],qn 1,[.boxN 3 1 [.p di]],[.boxN 31 2 [.nil,.nil]],qn 2,qi,[.c (.ptr 0 0)],[.fnS 76 [.ptr 0 0]],[.fnS 77 [.ptr 0 0,.ptr 3 0]],qn 147]),(38,qc [qn 1,qi,qn 1,[.boxN 91 11 [.any,.any,.any,.any,.p db,.any,.any,.any,.any,.p db,.p (.int .u8)]],qn 1,[.boxN 3 1 [.p di]],[.boxN 31 2 [.nil,.nil]],qn 2,qi,[.boxN 31 2 [.rowN 50 2 Qq10,.nil]],[.fnS 76 [.ptr 3 0]],[.fnS 77 [.ptr 3 0,.ptr 1 0]],qi,qi,qn 145]),(45,qc [[.c (.p (.int .u8))],qn 1,[.boxN 31 2 [.rowN 50 2 Qq10,.nil]],qn 3,qi,qn 1,[.c (.ptr 0 0)],qn 2,qi,qi,qn 13,qi,qn 1,[.boxN 91 11 [.any,.any,.any,.any,.p db,.any,.any,.any,.any,.p db,.p (.int .u8)]],qn 1,[.boxN 3 1 [.p di]],[.boxN 31 2 [.nil,.nil]],qn 2,qi,[.c (.ptr 0 0)],[.fnS 76 [.ptr 0 0]],[.fnS 77 [.ptr 0 0,.ptr 3 0]],qi,qn 146]),(52,qc [qn 1,qi,qn 1,[.boxN 91 11 [.any,.any,.any,.any,.any,.any,.any,.any,.any,.p db,.p (.int .u8)]],qn 1,[.boxN 3 1 [.p di]],[.boxN 31 2 [.nil,.nil]],qn 2,qi,[.boxN 31 2 [.rowN 50 2 Qq10,.nil]],[.fnS 76 [.ptr 3 0]],[.fnS 77 [.ptr 3 0,.ptr 1 0]],qi,qi,[.c (.p (.int .u8))],qn 144]),(54,qc [qn 1,qi,qn 1,[.boxN 91 11 [.any,.any,.any,.any,.any,.any,.any,.any,.any,.p db,.p (.int .u8)]],qn 1,[.boxN 3 1 [.p di]],[.boxN 31 2 [.nil,.nil]],qn 2,qi,[.boxN 31 2 [.rowN 50 2 Qq10,.nil]],[.fnS 76 [.ptr 3 0]],[.fnS 77 [.ptr 3 0,.ptr 1 0]],qi,qi,qn 1,qi,qn 143]),(60,qc [[.c (.p (.int .u8))],qn 1,[.boxN 31 2 [.rowN 50 2 Qq10,.nil]],qn 3,qi,qn 1,[.c (.ptr 0 0)],qn 2,qi,qi,qn 13,qi,qn 1,[.boxN 91 11 [.any,.any,.any,.any,.any,.any,.any,.any,.any,.p db,.p (.int .u8)]],qn 1,[.boxN 3 1 [.p di]],[.boxN 31 2 [.nil,.nil]],qn 2,qi,[.c (.ptr 0 0)],[.fnS 76 [.ptr 0 0]],[.fnS 77 [.ptr 0 0,.ptr 3 0]],qi,qi,qn 145]),(66,qc [qn 1,qi,qn 1,[.boxN 91 11 [.any,.any,.any,.any,.any,.any,.any,.any,.any,.p db,.p (.int .u8)]],qn 1,[.boxN 3 1 [.p di]],[.boxN 31 2 [.nil,.nil]],qn 2,qi,[.boxN 31 2 [.rowN 50 2 Qq10,.nil]],[.fnS 76 [.ptr 3 0]],[.fnS 77 [.ptr 3 0,.ptr 1 0]],qi,qi,qn 1,qi,qi,qn 142]),(72,qc [[.c (.p (.int .u8))],qn 1,[.boxN 31 2 [.rowN 50 2 Qq10,.nil]],qn 3,qi,qn 1,[.c (.ptr 0 0)],qn 2,qi,qi,qn 13,qi,qn 1,[.boxN 91 11 [.any,.any,.any,.any,.any,.any,.any,.any,.any,.p db,.p (.int .u8)]],qn 1,[.boxN 3 1 [.p di]],[.boxN 31 2 [.nil,.nil]],qn 2,qi,[.c (.ptr 0 0)],[.fnS 76 [.ptr 0 0]],[.fnS 77 [.ptr 0 0,.ptr 3 0]],qi,qi,qn 1,qi,qn 143]),(78,qc [qn 1,qi,qn 1,[.boxN 91 11 [.any,.any,.any,.any,.any,.any,.any,.any,.any,.p db,.p (.int .u8)]],qn 1,[.boxN 3 1 [.p di]],[.boxN 31 2 [.nil,.nil]],qn 2,qi,[.boxN 31 2 [.rowN 50 2 Qq10,.rowN 70 5 Qq3]],[.fnS 76 [.ptr 3 0]],[.fnS 77 [.ptr 3 0,.ptr 1 0]],qi,qi,qn 1,qi,qi,qn 142]),(80,qc [qn 1,qi,qn 1,[.boxN 91 11 [.any,.any,.any,.any,.any,.any,.any,.any,.any,.p db,.p (.int .u8)]],qn 1,[.boxN 3 1 [.p di]],[.boxN 31 2 [.nil,.nil]],qn 2,qi,[.boxN 31 2 [.rowN 50 2 Qq10,.rowN 70 5 Qq3]],[.fnS 76 [.ptr 3 0]],[.fnS 77 [.ptr 3 0,.ptr 1 0]],qi,qi,qn 1,qi,qi,qn 54,qi,qi,qn 86]),(86,qc [qn 1,qi,qn 1,[.boxN 91 11 [.any,.any,.any,.any,.any,.any,.any,.any,.any,.p db,.p (.int .u8)]],qn 1,[.boxN 3 1 [.p di]],[.boxN 31 2 [.nil,.nil]],qn 2,qi,[.boxN 31 2 [.rowN 50 2 Qq10,.rowN 70 5 Qq3]],[.fnS 76 [.ptr 3 0]],[.fnS 77 [.ptr 3 0,.ptr 1 0]],qn 1,qi,qn 1,qi,qi,qn 142]),(88,qc [qn 1,qi,qn 1,[.boxN 91 11 [.any,.any,.any,.any,.any,.any,.any,.any,.any,.p db,.p (.int .u8)]],qn 1,[.boxN 3 1 [.p di]],[.boxN 31 2 [.nil,.nil]],qn 2,qi,[.boxN 31 2 [.rowN 50 2 Qq10,.rowN 70 5 Qq3]],[.fnS 76 [.ptr 3 0]],[.fnS 77 [.ptr 3 0,.ptr 1 0]],qi,qi,qn 1,qi,qi,qn 65,qi,qi,qn 75]),(93,qc [qn 1,qi,qn 1,[.boxN 91 11 [.any,.any,.any,.any,.any,.any,.any,.any,.any,.p db,.p (.int .u8)]],qn 1,[.boxN 3 1 [.p di]],[.boxN 31 2 [.nil,.nil]],qn 2,qi,[.boxN 31 2 [.rowN 50 2 Qq10,.rowN 70 5 Qq3]],[.fnS 76 [.ptr 3 0]],[.fnS 77 [.ptr 3 0,.ptr 1 0]],qi,qi,qn 1,qi,qi,qn 1,qi,qn 63,qi,qi,qn 75]),(99,qc [qn 1,qi,qn 1,[.boxN 91 11 [.any,.any,.any,.any,.any,.any,.any,.any,.any,.any,.p (.int .u8)]],qn 1,[.boxN 3 1 [.p di]],[.boxN 31 2 [.nil,.nil]],qn 3,[.boxN 31 2 [.rowN 50 2 Qq10,.rowN 70 5 Qq3]],[.fnS 76 [.ptr 3 0]],[.fnS 77 [.ptr 3 0,.ptr 1 0]],qn 3,qi,qi,qn 142]),(101,qc [qn 1,qi,qn 1,[.boxN 91 11 [.any,.any,.any,.any,.any,.any,.any,.any,.any,.p db,.p (.int .u8)]],qn 1,[.boxN 3 1 [.p di]],[.boxN 31 2 [.nil,.nil]],qn 3,[.boxN 31 2 [.rowN 50 2 Qq10,.rowN 70 5 Qq3]],[.fnS 76 [.ptr 3 0]],[.fnS 77 [.ptr 3 0,.ptr 1 0]],qn 1,qi,qn 1,qi,qi,qn 100,qi,qi,qn 40]),(107,qc [qn 1,qi,qn 1,[.boxN 91 11 [.any,.any,.any,.any,.any,.any,.any,.any,.any,.p db,.p (.int .u8)]],qn 1,[.boxN 3 1 [.p di]],[.boxN 31 2 [.nil,.nil]],qn 3,[.boxN 31 2 [.rowN 50 2 Qq10,.rowN 70 5 Qq3]],[.fnS 76 [.ptr 3 0]],[.fnS 77 [.ptr 3 0,.ptr 1 0]],qn 1,qi,qn 1,qi,qi,qn 2,qi,qn 97,qi,qi,qn 2,qi,qi,qn 36]),(114,qc [qn 3,[.boxN 91 11 [.any,.any,.any,.any,.any,.any,.any,.any,.any,.any,.p (.int .u8)]],qn 2,[.boxN 31 2 [.nil,.nil]],qn 3,[.boxN 31 2 [.rowN 50 2 Qq10,.rowN 70 5 Qq3]],[.fnS 76 [.ptr 2 0]],qn 148]),(116,qc [qn 3,[.boxN 91 11 [.any,.any,.any,.any,.any,.any,.any,.any,.any,.any,.p (.int .u8)]],qn 1,[.boxN 3 1 [.p di]],[.boxN 31 2 [.nil,.nil]],qn 3,[.boxN 31 2 [.rowN 50 2 Qq10,.rowN 70 5 Qq3]],[.fnS 76 [.ptr 3 0]],[.fnS 77 [.ptr 3 0,.ptr 1 0]],qn 3,qi,qi,qn 123,qi,qi,qn 17]),(129,qc [[.c (.p (.int .u8))],qn 1,[.boxN 31 2 [.rowN 50 2 Qq10,.rowN 70 5 Qq3]],qn 8,qi,qi,qn 18,[.boxN 31 2 [.nil,.nil]],qn 3,[.c (.ptr 0 0)],qn 149])],[.a Qq12,.c di,.c di],[.a [.s 50 2 Qq10,.s 70 5 Qq3],.c (.p di)],qc [qn 6,[.boxN 31 2 [.rowN 50 2 Qq10,.rowN 70 5 Qq3]],qi,qn 152],[(124,[76]),(121,[77]),(113,[77]),(98,[77]),(96,[77]),(95,[77]),(85,[77]),(67,[76]),(55,[76]),(40,[76]),(26,[76]),(14,[76])],[(19,[160]),(31,[160]),(45,[160]),(60,[160]),(72,[160]),(129,[160])],8⟩
noncomputable def Z65:=mkC Zbq prog 33 F33
theorem ok33:Z65.ok prog 33:=mkO ⟨ok75,trivial⟩ (by kernel_rfl)
noncomputable def Yjs:TCon:=⟨Z65.args,[.a [.p (.sl Qq10),.p (.sl Qq3)],.c (.p di)],Z65.fn⟩
theorem Ytv:Yjs.ok prog 33:=TCon.frz (c:=Z65) ok33 rfl
noncomputable def Zq4 (a0:Qy8)(a1 a2:Int):Option Qy12:=Z65.fn (a0,a1,a2,())
noncomputable def Zjv (n:Nat)(x0:Int)(x1 x2:Bool)(x3 x4 x5:Int)(x6:Qy6):Option Qy12:=itr Zbq prog 33 F33 n 13 (x0,x1,x2,x3,x4,x5,x6,())
noncomputable def Q3 (n:Nat)(x0:Int)(x1:Qy6)(x2 x3 x4:Int)(x5 x6:Bool)(x7 x8 x9:Int):Option Qy12:=itr Zbq prog 33 F33 n 19 (x0,x1,x2,x3,x4,x5,x6,x7,x8,x9,())
noncomputable def Zjw (n:Nat)(x0:Int)(x1 x2:Bool)(x3 x4 x5:Int)(x6:Qy6)(x7:Int):Option Qy12:=itr Zbq prog 33 F33 n 25 (x0,x1,x2,x3,x4,x5,x6,x7,())
noncomputable def Zf1 (n:Nat)(x0:Int)(x1:Qy6)(x2 x3 x4 x5:Int)(x6 x7:Bool)(x8 x9 x10:Int):Option Qy12:=itr Zbq prog 33 F33 n 31 (x0,x1,x2,x3,x4,x5,x6,x7,x8,x9,x10,())
noncomputable def Zf2 (n:Nat)(x0:Int)(x1 x2:Bool)(x3 x4 x5:Int)(x6:Qy6)(x7 x8:Int):Option Qy12:=itr Zbq prog 33 F33 n 38 (x0,x1,x2,x3,x4,x5,x6,x7,x8,())
noncomputable def Zf3 (n:Nat)(x0:Int)(x1:Qy6)(x2 x3 x4 x5:Int)(x6 x7:Bool)(x8 x9 x10 x11:Int):Option Qy12:=itr Zbq prog 33 F33 n 45 (x0,x1,x2,x3,x4,x5,x6,x7,x8,x9,x10,x11,())
noncomputable def Zf4 (n:Nat)(x0:Int)(x1:Bool)(x2 x3 x4:Int)(x5:Qy6)(x6 x7 x8:Int):Option Qy12:=itr Zbq prog 33 F33 n 52 (x0,x1,x2,x3,x4,x5,x6,x7,x8,())
noncomputable def Zjx (n:Nat)(x0:Int)(x1:Bool)(x2 x3 x4:Int)(x5:Qy6)(x6 x7 x8:Int):Option Qy12:=itr Zbq prog 33 F33 n 54 (x0,x1,x2,x3,x4,x5,x6,x7,x8,())
noncomputable def Zf5 (n:Nat)(x0:Int)(x1:Qy6)(x2 x3 x4 x5:Int)(x6:Bool)(x7 x8 x9 x10 x11:Int):Option Qy12:=itr Zbq prog 33 F33 n 60 (x0,x1,x2,x3,x4,x5,x6,x7,x8,x9,x10,x11,())
noncomputable def Zjy (n:Nat)(x0:Int)(x1:Bool)(x2 x3 x4:Int)(x5:Qy6)(x6 x7 x8 x9:Int):Option Qy12:=itr Zbq prog 33 F33 n 66 (x0,x1,x2,x3,x4,x5,x6,x7,x8,x9,())
noncomputable def Zf6 (n:Nat)(x0:Int)(x1:Qy6)(x2 x3 x4 x5:Int)(x6:Bool)(x7 x8 x9 x10 x11 x12:Int):Option Qy12:=itr Zbq prog 33 F33 n 72 (x0,x1,x2,x3,x4,x5,x6,x7,x8,x9,x10,x11,x12,())
noncomputable def Zjz (n:Nat)(x0:Int)(x1:Bool)(x2 x3 x4:Int)(x5:Qy6)(x6:(List Qy2))(x7 x8 x9 x10:Int):Option Qy12:=itr Zbq prog 33 F33 n 78 (x0,x1,x2,x3,x4,x5,x6,x7,x8,x9,x10,())
noncomputable def Zf7 (n:Nat)(x0:Int)(x1:Bool)(x2 x3 x4:Int)(x5:Qy6)(x6:(List Qy2))(x7 x8 x9 x10 x11 x12:Int):Option Qy12:=itr Zbq prog 33 F33 n 80 (x0,x1,x2,x3,x4,x5,x6,x7,x8,x9,x10,x11,x12,())
noncomputable def Zj0 (n:Nat)(x0:Int)(x1:Bool)(x2 x3 x4:Int)(x5:Qy6)(x6:(List Qy2))(x7 x8 x9:Int):Option Qy12:=itr Zbq prog 33 F33 n 86 (x0,x1,x2,x3,x4,x5,x6,x7,x8,x9,())
noncomputable def Zdu (n:Nat)(x0:Int)(x1:Bool)(x2 x3 x4:Int)(x5:Qy6)(x6:(List Qy2))(x7 x8 x9 x10 x11 x12:Int):Option Qy12:=itr Zbq prog 33 F33 n 88 (x0,x1,x2,x3,x4,x5,x6,x7,x8,x9,x10,x11,x12,())
noncomputable def Zf8 (n:Nat)(x0:Int)(x1:Bool)(x2 x3 x4:Int)(x5:Qy6)(x6:(List Qy2))(x7 x8 x9 x10 x11 x12 x13:Int):Option Qy12:=itr Zbq prog 33 F33 n 93 (x0,x1,x2,x3,x4,x5,x6,x7,x8,x9,x10,x11,x12,x13,())
noncomputable def Zj1 (n:Nat)(x0 x1 x2:Int)(x3:Qy6)(x4:(List Qy2))(x5 x6:Int):Option Qy12:=itr Zbq prog 33 F33 n 99 (x0,x1,x2,x3,x4,x5,x6,())
noncomputable def Zez (n:Nat)(x0:Int)(x1:Bool)(x2 x3:Int)(x4:Qy6)(x5:(List Qy2))(x6 x7 x8 x9 x10:Int):Option Qy12:=itr Zbq prog 33 F33 n 101 (x0,x1,x2,x3,x4,x5,x6,x7,x8,x9,x10,())
noncomputable def Zcf (n:Nat)(x0:Int)(x1:Bool)(x2 x3:Int)(x4:Qy6)(x5:(List Qy2))(x6 x7 x8 x9 x10 x11 x12 x13:Int):Option Qy12:=itr Zbq prog 33 F33 n 107 (x0,x1,x2,x3,x4,x5,x6,x7,x8,x9,x10,x11,x12,x13,())
noncomputable def Zij (n:Nat)(x0:Int)(x1:Qy6)(x2:(List Qy2)):Option Qy12:=itr Zbq prog 33 F33 n 114 (x0,x1,x2,())
noncomputable def Ze0 (n:Nat)(x0 x1:Int)(x2:Qy6)(x3:(List Qy2))(x4 x5 x6 x7:Int):Option Qy12:=itr Zbq prog 33 F33 n 116 (x0,x1,x2,x3,x4,x5,x6,x7,())
noncomputable def Ze1 (n:Nat)(x0:Int)(x1:Qy6)(x2:(List Qy2))(x3 x4:Int):Option Qy12:=itr Zbq prog 33 F33 n 129 (x0,x1,x2,x3,x4,())
theorem Yat a0 a1 a2:Eq (Zq4 a0 a1 a2) <| match Zhd a0 with | none=>none | some e0=>bif e0.1 !=0 then some ((([],[],()),e0.1,())) else let k1:=some ((([],[],()),2,()));bif a1<1 then k1 else bif a1>3 then k1 else bif a2<1 then k1 else bif a2>8 then k1 else Q3 fuel 1 ([]) (ofNat a0.2.2.2.1.length) 0 a1 a0.2.2.2.2.1 a0.2.2.2.2.2.2.2.2.2.1 a0.2.2.2.2.2.2.2.2.2.2.1 a2 (ofNat a0.2.2.2.1.length):=mkE (by kernel_rfl)
theorem Z3t n x0 x1 x2 x3 x4 x5 x6:Eq (Zjv (n+1) x0 x1 x2 x3 x4 x5 x6) <| Zf1 n 2 x6 (ofNat x6.length) x5 0 x0 x1 x2 x3 x4 x5:=mkI (by kernel_rfl)
theorem Z3u n x0 x1 x2 x3 x4 x5 x6 x7 x8 x9:Eq (Q3 (n+1) x0 x1 x2 x3 x4 x5 x6 x7 x8 x9) <| bif x3<x2 then bif Zb (x1.length+List.length [(x0,x3,())]) 16 then Q3 n x0 (x1++[(x0,x3,())]) x2 (wrap .i64 (x3+1)) x4 x5 x6 x7 x8 x9 else none else Zjv n x4 x5 x6 x7 x8 x9 x1:=mkI (by kernel_rfl)
theorem Z3v n x0 x1 x2 x3 x4 x5 x6 x7:Eq (Zjw (n+1) x0 x1 x2 x3 x4 x5 x6 x7) <| bif x2 then Zf3 n 3 x6 (ofNat x6.length) x5 0 x0 x1 x2 x3 x4 x5 x7 else Zf2 n 1 x1 x2 x3 x4 x5 x6 x7 x7:=mkI (by kernel_rfl)
theorem Z3w n x0 x1 x2 x3 x4 x5 x6 x7 x8 x9 x10:Eq (Zf1 (n+1) x0 x1 x2 x3 x4 x5 x6 x7 x8 x9 x10) <| bif x4<x3 then bif Zb (x1.length+List.length [(x0,x4,())]) 16 then Zf1 n x0 (x1++[(x0,x4,())]) x2 x3 (wrap .i64 (x4+1)) x5 x6 x7 x8 x9 x10 else none else Zjw n x5 x6 x7 x8 x9 x10 x1 x2:=mkI (by kernel_rfl)
theorem Z3x n x0 x1 x2 x3 x4 x5 x6 x7 x8:Eq (Zf2 (n+1) x0 x1 x2 x3 x4 x5 x6 x7 x8) <| bif x1 then Zf4 n x0 x2 x3 x4 x5 x6 x7 x8 5 else Zf4 n x0 x2 x3 x4 x5 x6 x7 x8 4:=mkI (by kernel_rfl)
theorem Z3y n x0 x1 x2 x3 x4 x5 x6 x7 x8 x9 x10 x11:Eq (Zf3 (n+1) x0 x1 x2 x3 x4 x5 x6 x7 x8 x9 x10 x11) <| bif x4<x3 then bif Zb (x1.length+List.length [(x0,x4,())]) 16 then Zf3 n x0 (x1++[(x0,x4,())]) x2 x3 (wrap .i64 (x4+1)) x5 x6 x7 x8 x9 x10 x11 else none else Zf2 n x5 x6 x7 x8 x9 x10 x1 x11 x2:=mkI (by kernel_rfl)
theorem Z3z n x0 x1 x2 x3 x4 x5 x6 x7 x8:Eq (Zf4 (n+1) x0 x1 x2 x3 x4 x5 x6 x7 x8) <| Zf5 n x8 x5 (ofNat x5.length) x0 0 x0 x1 x2 x3 x4 x6 x7:=mkI (by kernel_rfl)
theorem Z30 n x0 x1 x2 x3 x4 x5 x6 x7 x8:Eq (Zjx (n+1) x0 x1 x2 x3 x4 x5 x6 x7 x8) <| Zf6 n 6 x5 (ofNat x5.length) 1 0 x0 x1 x2 x3 x4 x6 x7 x8:=mkI (by kernel_rfl)
theorem Z31 n x0 x1 x2 x3 x4 x5 x6 x7 x8 x9 x10 x11:Eq (Zf5 (n+1) x0 x1 x2 x3 x4 x5 x6 x7 x8 x9 x10 x11) <| bif x4<x3 then bif Zb (x1.length+List.length [(x0,x4,())]) 16 then Zf5 n x0 (x1++[(x0,x4,())]) x2 x3 (wrap .i64 (x4+1)) x5 x6 x7 x8 x9 x10 x11 else none else Zjx n x5 x6 x7 x8 x9 x1 x10 x11 x2:=mkI (by kernel_rfl)
theorem Z32 n x0 x1 x2 x3 x4 x5 x6 x7 x8 x9:Eq (Zjy (n+1) x0 x1 x2 x3 x4 x5 x6 x7 x8 x9) <| Zf7 n x0 x1 x2 x3 x4 x5 ([]) x6 x7 x8 x9 x4 0:=mkI (by kernel_rfl)
theorem Z33 n x0 x1 x2 x3 x4 x5 x6 x7 x8 x9 x10 x11 x12:Eq (Zf6 (n+1) x0 x1 x2 x3 x4 x5 x6 x7 x8 x9 x10 x11 x12) <| bif x4<x3 then bif Zb (x1.length+List.length [(x0,x4,())]) 16 then Zf6 n x0 (x1++[(x0,x4,())]) x2 x3 (wrap .i64 (x4+1)) x5 x6 x7 x8 x9 x10 x11 x12 else none else Zjy n x5 x6 x7 x8 x9 x1 x10 x11 x12 x2:=mkI (by kernel_rfl)
theorem Z34 n x0 x1 x2 x3 x4 x5 x6 x7 x8 x9 x10:Eq (Zjz (n+1) x0 x1 x2 x3 x4 x5 x6 x7 x8 x9 x10) <| Zdu n x0 x1 x2 x3 x4 x5 x6 x7 x8 x9 x10 x4 0:=mkI (by kernel_rfl)
theorem Z35 n x0 x1 x2 x3 x4 x5 x6 x7 x8 x9 x10 x11 x12:Eq (Zf7 (n+1) x0 x1 x2 x3 x4 x5 x6 x7 x8 x9 x10 x11 x12) <| bif x12<x11 then bif Zb (x6.length+List.length [(x12,0,wrap .i64 (x7+x12),0,x3,())]) 40 then Zf7 n x0 x1 x2 x3 x4 x5 (x6++[(x12,0,wrap .i64 (x7+x12),0,x3,())]) x7 x8 x9 x10 x11 (wrap .i64 (x12+1)) else none else Zjz n x0 x1 x2 x3 x4 x5 x6 x7 x8 x9 x10:=mkI (by kernel_rfl)
theorem Z36 n x0 x1 x2 x3 x4 x5 x6 x7 x8 x9:Eq (Zj0 (n+1) x0 x1 x2 x3 x4 x5 x6 x7 x8 x9) <| Zez n x0 x1 x2 x3 x5 x6 x7 x8 x9 x4 0:=mkI (by kernel_rfl)
theorem Z37 n x0 x1 x2 x3 x4 x5 x6 x7 x8 x9 x10 x11 x12:Eq (Zdu (n+1) x0 x1 x2 x3 x4 x5 x6 x7 x8 x9 x10 x11 x12) <| bif x12<x11 then bif x1 then bif Zb (x6.length+List.length [(wrap .i64 (x7+x12),0,wrap .i64 (x8+x12),0,x3,())]) 40 then Zf8 n x0 x1 x2 x3 x4 x5 (x6++[(wrap .i64 (x7+x12),0,wrap .i64 (x8+x12),0,x3,())]) x7 x8 x9 x10 x12 x11 x12 else none else bif Zb (x6.length+List.length [(wrap .i64 (x7+x12),0,x9,x12,x3,())]) 40 then Zf8 n x0 x1 x2 x3 x4 x5 (x6++[(wrap .i64 (x7+x12),0,x9,x12,x3,())]) x7 x8 x9 x10 x12 x11 x12 else none else Zj0 n x0 x1 x2 x3 x4 x5 x6 x8 x9 x10:=mkI (by kernel_rfl)
theorem Z38 n x0 x1 x2 x3 x4 x5 x6 x7 x8 x9 x10 x11 x12 x13:Eq (Zf8 (n+1) x0 x1 x2 x3 x4 x5 x6 x7 x8 x9 x10 x11 x12 x13) <| bif x2==2 then bif Zb (x6.length+List.length [(wrap .i64 (x7+x11),1,wrap .i64 (x10+1),x11,x3,())]) 40 then Zdu n x0 x1 x2 x3 x4 x5 (x6++[(wrap .i64 (x7+x11),1,wrap .i64 (x10+1),x11,x3,())]) x7 x8 x9 x10 x12 (wrap .i64 (x13+1)) else none else Zdu n x0 x1 x2 x3 x4 x5 x6 x7 x8 x9 x10 x12 (wrap .i64 (x13+1)):=mkI (by kernel_rfl)
theorem Z39 n x0 x1 x2 x3 x4 x5 x6:Eq (Zj1 (n+1) x0 x1 x2 x3 x4 x5 x6) <| Ze0 n x1 x2 x3 x4 x5 x6 x0 0:=mkI (by kernel_rfl)
theorem Zze n x0 x1 x2 x3 x4 x5 x6 x7 x8 x9 x10:Eq (Zez (n+1) x0 x1 x2 x3 x4 x5 x6 x7 x8 x9 x10) <| bif x10<x9 then Zcf n x0 x1 x2 x3 x4 x5 x6 x7 x8 x10 x9 x10 x0 0 else Zj1 n x0 x2 x3 x4 x5 x7 x8:=mkI (by kernel_rfl)
theorem Zzf n x0 x1 x2 x3 x4 x5 x6 x7 x8 x9 x10 x11 x12 x13:Eq (Zcf (n+1) x0 x1 x2 x3 x4 x5 x6 x7 x8 x9 x10 x11 x12 x13) <| bif x13<x12 then bif x1 then bif Zb (x5.length+List.length [(wrap .i64 (x6+x9),x13,wrap .i64 (x7+x13),x9,x3,())]) 40 then Zcf n x0 x1 x2 x3 x4 (x5++[(wrap .i64 (x6+x9),x13,wrap .i64 (x7+x13),x9,x3,())]) x6 x7 x8 x9 x10 x11 x12 (wrap .i64 (x13+1)) else none else Zcf n x0 x1 x2 x3 x4 x5 x6 x7 x8 x9 x10 x11 x12 (wrap .i64 (x13+1)) else Zez n x0 x1 x2 x3 x4 x5 x6 x7 x8 x10 (wrap .i64 (x11+1)):=mkI (by kernel_rfl)
theorem Zzg n x0 x1 x2:Eq (Zij (n+1) x0 x1 x2) <| bif x0==2 then Ze1 n 7 x1 x2 1 0 else some (((x1,x2,()),0,())):=mkI (by kernel_rfl)
theorem Zzh n x0 x1 x2 x3 x4 x5 x6 x7:Eq (Ze0 (n+1) x0 x1 x2 x3 x4 x5 x6 x7) <| bif x7<x6 then bif Zb (x3.length+List.length [(wrap .i64 (x4+x7),0,x5,x7,x1,())]) 40 then Ze0 n x0 x1 x2 (x3++[(wrap .i64 (x4+x7),0,x5,x7,x1,())]) x4 x5 x6 (wrap .i64 (x7+1)) else none else Zij n x0 x2 x3:=mkI (by kernel_rfl)
theorem Zzi n x0 x1 x2 x3 x4:Eq (Ze1 (n+1) x0 x1 x2 x3 x4) <| bif x4<x3 then bif Zb (x1.length+List.length [(x0,x4,())]) 16 then Ze1 n x0 (x1++[(x0,x4,())]) x2 x3 (wrap .i64 (x4+1)) else none else some (((x1,x2,()),0,())):=mkI (by kernel_rfl)
def Ycz:TCon:=Zql 82 5 40 Qq14
theorem ok47:Ycz.ok prog 47:=Zln (zero:=[.p (.bool false),.p (.int .i64 0),.p (.int .i64 0),.p (.int .i64 0),.p (.int .i64 0)]) (by kernel_rfl) rfl (by decide) rfl
def Yjt:TCon:=⟨[.c (.sl Qq14)],[.c (.p (.sl Qq14))],Ycz.fn⟩
theorem Ytw:Yjt.ok prog 47:=fun a r h=>TCon.frz (c:=Ycz) ok47 rfl a r h
noncomputable def Yob:Tb:=[(79,Yb4),(47,Ycz)]
def F37:TFun:=⟨[],[(17,qc [[.c (.p (.sl Qq5))],[.c (.fn 78 [])],qn 5,qi,qi,qn 19,qi,[.c (.p (.sl Qq5))],qn 2,[.boxN 58 9 [.any,.any,.any,.nil,.nil,.nil,.nil,.nil,.nil]],qn 22])],[.c di,.c (.sl Qq5)],[.a [.p (.int .u8),.p di,.p di,.p (.sl Qq2),.p (.sl Qq11),.p (.sl Qq1),.s 82 5 Qq5,.p (.sl Qq3),.p (.sl Qq6)],.c (.p di)],qc [qn 4,[.boxN 58 9 [.p (.int .u8),.p di,.p di,.p (.sl Qq2),.p (.sl Qq11),.p (.sl Qq1),.rowN 82 5 Qq5,.p (.sl Qq3),.p (.sl Qq6)]],qi,qn 21],[(23,[78]),(13,[117]),(10,[80])],[(17,[9,27])],8⟩
noncomputable def Yju:=mkC Yob prog 37 F37
theorem ok37:Yju.ok prog 37:=mkO ⟨ok79,ok47,trivial⟩ (by kernel_rfl)
noncomputable def Zpr (a0:Int)(a1:(List Qy7)):Option Qy10:=Yju.fn (a0,a1,())
noncomputable def Zdv (n:Nat)(x0:(List Qy7))(x1 x2 x3:Int)(x4:(List Qy7)):Option Qy10:=itr Yob prog 37 F37 n 17 (x0,x1,x2,x3,x4,())
theorem Z4a a0 a1:Eq (Zpr a0 a1) <| let k1:Option Qy10:=some (((0,0,0,[],[],[],[],[],[],()),2,()));bif a0<0 then k1 else bif a0≥4 then k1 else bif ofNat a1.length>60 then some (((0,0,0,[],[],[],[],[],[],()),4,())) else Zdv fuel a1 (ofNat a1.length) 0 a0 a1:=mkE (by kernel_rfl)
theorem Znc n x0 x1 x2 x3 x4:Eq (Zdv (n+1) x0 x1 x2 x3 x4) <| bif x2<x1 then bif 0≤x2 then match x0[x2.toNat]? with | none=>none | some e0=>match Zcc e0 with | none=>none | some e1=>bif e1.1 !=0 then bif x2≥0 then some (((0,0,0,[],[],[],[],[],[],()),8,())) else match Zj 40 x4 with | none=>none | some e2=>some (((1,x3,0,[],[],[],e2.1,[],[],()),0,())) else Zdv n x0 x1 (wrap .i64 (x2+1)) x3 x4 else none else match Zj 40 x4 with | none=>none | some e0=>some (((1,x3,0,[],[],[],e0.1,[],[],()),0,())):=mkI (by kernel_rfl)
noncomputable def Yqx:Tb:=[]
def F174:TFun:=⟨[],[],[.c (.int .u32),.c (.int .u32)],[.c (.p (.int .u32)),.c (.p (.int .u32))],qc [qn 4,[.c (.p (.int .u32))],[.c (.p (.int .u32))],qn 11],[],[],0⟩
noncomputable def Yjv:=mkC Yqx prog 174 F174
theorem Ytx:Yjv.ok prog 174:=mkO trivial (by kernel_rfl)
noncomputable def Yqy:Tb:=[]
def F175:TFun:=⟨[],[],[.c (.int .u64),.c (.int .u64)],[.c (.p (.int .u64)),.c (.p (.int .u64))],qc [qn 4,[.c (.p (.int .u64))],[.c (.p (.int .u64))],qn 45],[],[],0⟩
noncomputable def Yau:=mkC Yqy prog 175 F175
theorem Yty:Yau.ok prog 175:=mkO trivial (by kernel_rfl)
noncomputable def Zkv (a0 a1:Int):Option (Int×Int×Unit):=Yau.fn (a0,a1,())
theorem Zq5 a0 a1:Eq (Zkv a0 a1) <| some ((wrap .u64 (wrap .u64 (wrap .u64 (Int.fdiv a0 4294967296*Int.fdiv a1 4294967296)+Int.fdiv (wrap .u64 (wrap .u64 (Int.fdiv a0 4294967296*Go.bits Go.BinOp.and Go.IntKind.u64 a1 4294967295)+Int.fdiv (wrap .u64 (Go.bits Go.BinOp.and Go.IntKind.u64 a0 4294967295*Go.bits Go.BinOp.and Go.IntKind.u64 a1 4294967295)) 4294967296)) 4294967296)+Int.fdiv (wrap .u64 (Go.bits Go.BinOp.and Go.IntKind.u64 (wrap .u64 (wrap .u64 (Int.fdiv a0 4294967296*Go.bits Go.BinOp.and Go.IntKind.u64 a1 4294967295)+Int.fdiv (wrap .u64 (Go.bits Go.BinOp.and Go.IntKind.u64 a0 4294967295*Go.bits Go.BinOp.and Go.IntKind.u64 a1 4294967295)) 4294967296)) 4294967295+wrap .u64 (Go.bits Go.BinOp.and Go.IntKind.u64 a0 4294967295*Int.fdiv a1 4294967296))) 4294967296),wrap .u64 (a0*a1),())):=mkE (by kernel_rfl)
noncomputable def Yqz:Tb:=[(174,Yjv),(175,Yau)]
def F148:TFun:=⟨[],[],[.c (.int .u64),.c (.int .u64)],[.c (.p (.int .u64)),.c (.p (.int .u64))],qc [qn 4,[.c (.p (.int .u64))],[.c (.p (.int .u64))],qn 24],[],[],0⟩
noncomputable def Yav:=mkC Yqz prog 148 F148
theorem Ytz:Yav.ok prog 148:=mkO ⟨Ytx,Yty,trivial⟩ (by kernel_rfl)
noncomputable def Zik (a0 a1:Int):Option (Int×Int×Unit):=Yav.fn (a0,a1,())
theorem Ztr a0 a1:Eq (Zik a0 a1) <| match Zkv a0 a1 with | none=>none | some e0=>some e0:=mkE (by kernel_rfl)
noncomputable def Z4b:Tb:=[(148,Yav)]
def F118:TFun:=⟨[1,5],[(1,qc [[.c (.p (.sl Qq11))],qi,qn 46]),(5,qc [[.c (.p (.sl Qq11))],qn 5,[.c (.p (.int .u64))],qn 41]),(10,qc [qn 7,[.c (.rowN 2 1 Qq11)],qi,qn 39])],[.c (.sl Qq11),.c di],[.c (.s 2 1 Qq11)],qc [qn 4,[.c (.rowN 2 1 Qq11)],qn 43],[],[],0⟩
noncomputable def Yaw:=mkC Z4b prog 118 F118
theorem Yt0:Yaw.ok prog 118:=mkO ⟨Ytz,trivial⟩ (by kernel_rfl)
noncomputable def Za5 (a0:Qy9)(a1:Int):Option Qy13:=Yaw.fn (a0,a1,())
noncomputable def Xd (n:Nat)(x0:Qy9)(x1:Int):Option Qy13:=itr Z4b prog 118 F118 n 1 (x0,x1,())
noncomputable def Xe (n:Nat)(x0:Qy9)(x1:Int):Option Qy13:=itr Z4b prog 118 F118 n 5 (x0,x1,())
noncomputable def Z9 (n:Nat)(x0:Qy9)(x1:Int):Option Qy13:=itr Z4b prog 118 F118 n 10 (x0,x1,())
theorem Zel a0 a1:Eq (Za5 a0 a1) <| bif a1<0 then none else Xd fuel a0 a1:=mkE (by kernel_rfl)
theorem Zd2 n x0 x1:Eq (Xd (n+1) x0 x1) <| match Zik (wrap .u64 (ofNat x0.length)) (wrap .u64 x1) with | none=>none | some e0=>bif e0.1>0 then none else bif e0.2.1>9223372036854775807 then none else Xe n x0 e0.2.1:=mkI (by kernel_rfl)
theorem Zd3 n x0 x1:Eq (Xe (n+1) x0 x1) <| bif 0≤wrap .i64 x1 then bif 0≤wrap .i64 x1 then bif decide (toNat (wrap .i64 x1)≤toNat (wrap .i64 x1))&&(decide (8*toNat (wrap .i64 x1)≤281474976710656)&&decide (toNat (wrap .i64 x1)≤9223372036854775807)) then Z9 n (List.take (min x0.length (List.length (List.replicate (α:=Int×Unit) (toNat (wrap .i64 x1)) (0,())))) x0++List.drop (min x0.length (List.length (List.replicate (α:=Int×Unit) (toNat (wrap .i64 x1)) (0,())))) (List.replicate (toNat (wrap .i64 x1)) (0,()))) (ofNat (min x0.length (List.length (List.replicate (α:=Int×Unit) (toNat (wrap .i64 x1)) (0,()))))) else none else none else none:=mkI (by kernel_rfl)
theorem Zdw n x0 x1:Eq (Z9 (n+1) x0 x1) <| bif x1<ofNat x0.length then bif 0≤x1 then bif x1.toNat≤x0.length then bif x1.toNat=x0.length then bif 0≤x1 then bif decide (0≤x1.toNat)&&decide (x1.toNat≤x0.length) then none else none else none else bif 0≤x1 then bif decide (0≤x1.toNat)&&decide (x1.toNat≤x0.length) then bif x1.toNat+(x0.length - x1.toNat)≤x0.length then Z9 n (List.take x1.toNat x0++(List.take (min (List.length (List.take x1.toNat (List.drop 0 x0))) (x0.length - x1.toNat)) (List.take x1.toNat (List.drop 0 x0))++List.drop (x1.toNat+min (List.length (List.take x1.toNat (List.drop 0 x0))) (x0.length - x1.toNat)) x0)) (wrap .i64 (x1+ofNat (min (List.length (List.take x1.toNat (List.drop 0 x0))) (x0.length - x1.toNat)))) else none else none else none else none else none else some (x0,()):=mkI (by kernel_rfl)
noncomputable def Yt1:Tb:=[(118,Yaw)]
def F81:TFun:=⟨[],[],[.c di],[.c (.s 2 1 Qq11),.c (.p di)],qc [qn 2,[.c (.rowN 2 1 Qq11)],qi,qn 9],[],[],0⟩
noncomputable def Yc0:=mkC Yt1 prog 81 F81
theorem ok81:Yc0.ok prog 81:=mkO ⟨Yt0,trivial⟩ (by kernel_rfl)
noncomputable def Zi0 (a0:Int):Option (List (Int×Unit)×Int×Unit):=Yc0.fn (a0,())
theorem Z66 a0:Eq (Zi0 a0) <| bif a0<1 then some ([],2,()) else bif a0>4 then some ([],2,()) else match Za5 [((-9223372036854775808),())] a0 with | none=>none | some e0=>some (e0.1,0,()):=mkE (by kernel_rfl)
noncomputable def Yt2:Tb:=[(81,Yc0)]
def F41:TFun:=⟨[],[],[.c di,.c di],[.a [.p (.int .u8),.p di,.p di,.p (.sl Qq2),.s 2 1 Qq11,.p (.sl Qq1),.p (.sl Qq5),.p (.sl Qq3),.p (.sl Qq6)],.c (.p di)],qc [qn 4,[.boxN 58 9 [.p (.int .u8),.p di,.p di,.p (.sl Qq2),.rowN 2 1 Qq11,.p (.sl Qq1),.p (.sl Qq5),.p (.sl Qq3),.p (.sl Qq6)]],qi,qn 22],[],[],0⟩
noncomputable def Yjw:=mkC Yt2 prog 41 F41
theorem ok41:Yjw.ok prog 41:=mkO ⟨ok81,trivial⟩ (by kernel_rfl)
noncomputable def Z4c (a0 a1:Int):Option Qy10:=Yjw.fn (a0,a1,())
theorem Yet a0 a1:Eq (Z4c a0 a1) <| match Zi0 a1 with | none=>none | some e0=>let k1:Option Qy10:=some (((0,0,0,[],[],[],[],[],[],()),2,()));bif e0.2.1 !=0 then k1 else bif a0<0 then k1 else bif a0≥3 then k1 else some (((4,a0,0,[],e0.1,[],[],[],[],()),0,())):=mkE (by kernel_rfl)
noncomputable def Yt3:Tb:=[]
def F38:TFun:=⟨[],[],[.c di],[.a [.p (.int .u8),.p di,.p di,.p (.sl Qq2),.s 2 1 Qq11,.p (.sl Qq1),.p (.sl Qq5),.p (.sl Qq3),.p (.sl Qq6)],.c (.p di)],qc [qn 2,[.boxN 58 9 [.p (.int .u8),.p di,.p di,.p (.sl Qq2),.rowN 2 1 Qq11,.p (.sl Qq1),.p (.sl Qq5),.p (.sl Qq3),.p (.sl Qq6)]],qi,qn 11],[],[],0⟩
noncomputable def Z67:=mkC Yt3 prog 38 F38
theorem ok38:Z67.ok prog 38:=mkO trivial (by kernel_rfl)
noncomputable def Yjx:TCon:=⟨Z67.args,[.a [.p (.int .u8),.p di,.p di,.p (.sl Qq2),.p (.sl Qq11),.p (.sl Qq1),.p (.sl Qq5),.p (.sl Qq3),.p (.sl Qq6)],.c (.p di)],Z67.fn⟩
theorem Yt4:Yjx.ok prog 38:=TCon.frz (c:=Z67) ok38 rfl
noncomputable def Zps (a0:Int):Option Qy10:=Z67.fn (a0,())
theorem Z4d a0:Eq (Zps a0) <| let k1:Option Qy10:=some (((0,0,0,[],[],[],[],[],[],()),2,()));bif a0<0 then k1 else bif a0≥4 then k1 else some (((2,a0,0,[],[((-9223372036854775808),())],[],[],[],[],()),0,())):=mkE (by kernel_rfl)
noncomputable def Yt5:Tb:=[]
def F39:TFun:=⟨[],[],[.c di],[.a [.p (.int .u8),.p di,.p di,.p (.sl Qq2),.p (.sl Qq11),.p (.sl Qq1),.p (.sl Qq5),.p (.sl Qq3),.p (.sl Qq6)],.c (.p di)],qc [qn 2,[.boxN 58 9 [.p (.int .u8),.p di,.p di,.p (.sl Qq2),.p (.sl Qq11),.p (.sl Qq1),.p (.sl Qq5),.p (.sl Qq3),.p (.sl Qq6)]],qi,qn 10],[],[],0⟩
noncomputable def Yjy:=mkC Yt5 prog 39 F39
theorem ok39:Yjy.ok prog 39:=mkO trivial (by kernel_rfl)
noncomputable def Zxc (a0:Int):Option Qy10:=Yjy.fn (a0,())
theorem Yax a0:Eq (Zxc a0) <| let k1:Option Qy10:=some (((0,0,0,[],[],[],[],[],[],()),2,()));bif a0<0 then k1 else bif a0≥4 then k1 else some (((3,a0,0,[],[],[],[],[],[],()),0,())):=mkE (by kernel_rfl)
noncomputable def Yt6:Tb:=[(81,Yc0)]
def F42:TFun:=⟨[],[],[.c di],[.a [.p (.int .u8),.p di,.p di,.p (.sl Qq2),.s 2 1 Qq11,.p (.sl Qq1),.p (.sl Qq5),.p (.sl Qq3),.p (.sl Qq6)],.c (.p di)],qc [qn 2,[.boxN 58 9 [.p (.int .u8),.p di,.p di,.p (.sl Qq2),.rowN 2 1 Qq11,.p (.sl Qq1),.p (.sl Qq5),.p (.sl Qq3),.p (.sl Qq6)]],qi,qn 17],[],[],0⟩
noncomputable def Z68:=mkC Yt6 prog 42 F42
theorem ok42:Z68.ok prog 42:=mkO ⟨ok81,trivial⟩ (by kernel_rfl)
noncomputable def Yjz:TCon:=⟨Z68.args,[.a [.p (.int .u8),.p di,.p di,.p (.sl Qq2),.p (.sl Qq11),.p (.sl Qq1),.p (.sl Qq5),.p (.sl Qq3),.p (.sl Qq6)],.c (.p di)],Z68.fn⟩
theorem Yt7:Yjz.ok prog 42:=TCon.frz (c:=Z68) ok42 rfl
noncomputable def Zxd (a0:Int):Option Qy10:=Z68.fn (a0,())
theorem Yay a0:Eq (Zxd a0) <| let k1:Option Qy10:=some (((0,0,0,[],[],[],[],[],[],()),2,()));bif a0<0 then k1 else bif a0≥3 then k1 else match Zi0 2 with | none=>none | some e0=>some (((5,a0,0,[],e0.1,[],[],[],[],()),0,())):=mkE (by kernel_rfl)
noncomputable def Yt8:Tb:=[]
def F44:TFun:=⟨[],[],[.c db],[.a [.p (.int .u8),.p di,.p di,.p (.sl Qq2),.p (.sl Qq11),.p (.sl Qq1),.p (.sl Qq5),.p (.sl Qq3),.p (.sl Qq6)]],qc [qn 2,[.boxN 58 9 [.p (.int .u8),.p di,.p di,.p (.sl Qq2),.p (.sl Qq11),.p (.sl Qq1),.p (.sl Qq5),.p (.sl Qq3),.p (.sl Qq6)]],qn 5],[],[],0⟩
noncomputable def Yc1:=mkC Yt8 prog 44 F44
theorem ok44:Yc1.ok prog 44:=mkO trivial (by kernel_rfl)
noncomputable def Zxe (a0:Bool):Option (Qy1×Unit):=Yc1.fn (a0,())
theorem Zxf a0:Eq (Zxe a0) <| bif a0 then some (((7,0,0,[],[],[],[],[],[],()),())) else some (((6,0,0,[],[],[],[],[],[],()),())):=mkE (by kernel_rfl)
noncomputable def Yt9:Tb:=[]
def F46:TFun:=⟨[],[],[.c di],[.a [.p di,.p (.sl Qq7)],.c (.p di)],qc [qn 2,[.boxN 62 2 [.p di,.p (.sl Qq7)]],qi,qn 9],[],[],0⟩
noncomputable def Yj0:=mkC Yt9 prog 46 F46
theorem ok46:Yj0.ok prog 46:=mkO trivial (by kernel_rfl)
noncomputable def Zh2 (a0:Int):Option (Qy11×Int×Unit):=Yj0.fn (a0,())
theorem Zzj a0:Eq (Zh2 a0) <| bif a0<1 then some (((0,[],()),2,())) else bif a0>8 then some (((0,[],()),2,())) else some (((a0,[],()),0,())):=mkE (by kernel_rfl)
noncomputable def Yua:Tb:=[]
def F89:TFun:=⟨[],[],[.a Qq9,.c (.int .u8)],[.c (.p db)],qc [qn 4,qb,qn 31],[],[],0⟩
noncomputable def Yc2:=mkC Yua prog 89 F89
theorem ok89:Yc2.ok prog 89:=mkO trivial (by kernel_rfl)
noncomputable def Za9 (a0:Qy5)(a1:Int):Option (Bool×Unit):=Yc2.fn (a0,a1,())
theorem Znd a0 a1:Eq (Za9 a0 a1) <| bif a1==3 then some (decide (ofNat a0.2.2.2.2.1.length>0),()) else bif a1==5 then some (a0.2.2.2.2.2.2.2.2.1,()) else bif a1==7 then some (!a0.2.2.2.1,()) else bif a1==8 then some (a0.2.2.2.1,()) else bif a1==10 then some (a0.2.2.2.2.2.2.2.2.2.1==2,()) else bif a1≥1 then some (decide (a1≤10),()) else some (false,()):=mkE (by kernel_rfl)
noncomputable def Yoc:Tb:=[(89,Yc2)]
def F88:TFun:=⟨[],[(4,qc [qn 1,[.boxN 27 10 [.p (.int .u8),.p (.sl Qq4),.p (.sl Qq11),.p db,.p (.sl Qq4),.p (.int .u8),.p di,.p di,.p db,.p (.int .u8)]],qn 1,[.c (.rowN 5 1 Qq16)],[.c (.p (.int .u8))],qn 12])],[.a Qq9],[.c (.s 5 1 Qq16)],qc [qn 2,[.c (.rowN 5 1 Qq16)],qn 14],[],[],0⟩
noncomputable def Z69:=mkC Yoc prog 88 F88
theorem ok88:Z69.ok prog 88:=mkO ⟨ok89,trivial⟩ (by kernel_rfl)
noncomputable def Yj1:TCon:=⟨Z69.args,[.c (.p (.sl Qq16))],Z69.fn⟩
theorem Yub:Yj1.ok prog 88:=TCon.frz (c:=Z69) ok88 rfl
noncomputable def Zne (a0:Qy5):Option Qy13:=Z69.fn (a0,())
noncomputable def Zbr (n:Nat)(x0:Int)(x1:(List Qy2))(x2:Qy9)(x3:Bool)(x4:(List Qy2))(x5 x6 x7:Int)(x8:Bool)(x9:Int)(x10:Qy9)(x11:Int):Option Qy13:=itr Yoc prog 88 F88 n 4 (x0,x1,x2,x3,x4,x5,x6,x7,x8,x9,x10,x11,())
theorem Zzk a0:Eq (Zne a0) <| Zbr fuel a0.1 a0.2.1 a0.2.2.1 a0.2.2.2.1 a0.2.2.2.2.1 a0.2.2.2.2.2.1 a0.2.2.2.2.2.2.1 a0.2.2.2.2.2.2.2.1 a0.2.2.2.2.2.2.2.2.1 a0.2.2.2.2.2.2.2.2.2.1 ([]) 1:=mkE (by kernel_rfl)
theorem Znf n x0 x1 x2 x3 x4 x5 x6 x7 x8 x9 x10 x11:Eq (Zbr (n+1) x0 x1 x2 x3 x4 x5 x6 x7 x8 x9 x10 x11) <| bif x11≤10 then match Za9 (x0,x1,x2,x3,x4,x5,x6,x7,x8,x9,()) x11 with | none=>none | some e0=>bif e0.1 then bif Zb (x10.length+List.length [(x11,())]) 1 then Zbr n x0 x1 x2 x3 x4 x5 x6 x7 x8 x9 (x10++[(x11,())]) (wrap .u8 (x11+1)) else none else Zbr n x0 x1 x2 x3 x4 x5 x6 x7 x8 x9 x10 (wrap .u8 (x11+1)) else some (x10,()):=mkI (by kernel_rfl)
noncomputable def Yuc:Tb:=[]
def F60:TFun:=⟨[],[],[.a Qq9],[.a [.p (.int .u8),.s 98 5 Qq4,.s 3 1 Qq11,.p db,.s 98 5 Qq4,.p (.int .u8),.p di,.p di,.p db,.p (.int .u8)]],qc [qn 2,[.boxN 27 10 [.p (.int .u8),.rowN 98 5 Qq4,.rowN 3 1 Qq11,.p db,.rowN 98 5 Qq4,.p (.int .u8),.p di,.p di,.p db,.p (.int .u8)]],qn 16],[],[],0⟩
noncomputable def Z7a:=mkC Yuc prog 60 F60
theorem ok60:Z7a.ok prog 60:=mkO trivial (by kernel_rfl)
noncomputable def Yaz:TCon:=⟨Z7a.args,[.a [.p (.int .u8),.p (.sl Qq4),.p (.sl Qq11),.p db,.p (.sl Qq4),.p (.int .u8),.p di,.p di,.p db,.p (.int .u8)]],Z7a.fn⟩
theorem Yod:Yaz.ok prog 60:=TCon.frz (c:=Z7a) ok60 rfl
noncomputable def Zj2 (a0:Qy5):Option (Qy5×Unit):=Z7a.fn (a0,())
theorem Z4e a0:Eq (Zj2 a0) <| bif Zb (0+a0.2.1.length) 40 then bif Zb (0+a0.2.2.2.2.1.length) 40 then bif Zb (0+a0.2.2.1.length) 8 then some (a0,()) else none else none else none:=mkE (by kernel_rfl)
noncomputable def Yud:Tb:=[(82,Yb6),(88,Yj1),(60,Yaz)]
def F55:TFun:=⟨[],[],[.a Qq9],[.a [.p (.sl Qq16),.p (.int .u8),.p (.sl Qq4),.p (.sl Qq11),.p db,.p (.sl Qq4),.p (.int .u8),.p di,.p di,.p db,.p (.int .u8)],.c (.p di)],qc [qn 2,[.boxN 91 11 [.p (.sl Qq16),.p (.int .u8),.p (.sl Qq4),.p (.sl Qq11),.p db,.p (.sl Qq4),.p (.int .u8),.p di,.p di,.p db,.p (.int .u8)]],qi,qn 16],[],[],0⟩
noncomputable def Yc3:=mkC Yud prog 55 F55
theorem ok55:Yc3.ok prog 55:=mkO ⟨ok82,Yub,Yod,trivial⟩ (by kernel_rfl)
noncomputable def Zng (a0:Qy5):Option (Qy8×Int×Unit):=Yc3.fn (a0,())
theorem Ya0 a0:Eq (Zng a0) <| match Zhv a0 with | none=>none | some e0=>bif e0.2.1 !=0 then some ((([],0,[],[],false,[],0,0,0,false,0,()),e0.2.1,())) else match Zne a0 with | none=>none | some e1=>match Zj2 a0 with | none=>none | some e2=>some ((e1.1,e2.1),0,()):=mkE (by kernel_rfl)
noncomputable def Zs7:Tb:=[(89,Yc2)]
def F57:TFun:=⟨[3,6,22,35,11],[(3,qc [qn 1,qi,qi,[.boxN 91 11 [.any,.any,.any,.any,.p db,.any,.any,.any,.any,.any,.any]],qn 2,[.boxN 31 2 [.nil,.nil]],qi,qb,qb,qn 182]),(6,qc [qn 1,qi,qi,[.boxN 91 11 [.any,.any,.any,.any,.p db,.any,.any,.any,.any,.any,.any]],qn 2,[.boxN 31 2 [.nil,.nil]],qi,qb,qb,qi,qn 181]),(11,qc [qn 6,[.boxN 31 2 [.nil,.nil]],qn 2,qb,qn 3,[.boxN 31 2 [.rowN 50 2 Qq10,.rowN 70 5 Qq3]],qn 178]),(13,qc [qn 1,qi,qi,[.boxN 91 11 [.any,.any,.any,.any,.p db,.any,.any,.any,.any,.any,.any]],qn 2,[.boxN 31 2 [.nil,.nil]],qi,qb,qb,qn 1,qi,qi,[.boxN 31 2 [.rowN 50 2 Qq10,.rowN 70 5 Qq3]],qi,qn 177]),(22,qc [qn 1,qi,qi,[.boxN 91 11 [.any,.any,.any,.any,.p db,.any,.any,.any,.any,.any,.any]],qn 2,[.boxN 31 2 [.nil,.nil]],qi,qb,qb,qn 1,qi,qi,[.boxN 31 2 [.rowN 50 2 Qq10,.rowN 70 5 Qq3]],qi,[.boxN 70 5 [.p di,.p di,.p di,.p di,.p di]],qn 176]),(29,qc [qn 1,qi,qi,[.boxN 91 11 [.any,.any,.any,.any,.p db,.any,.any,.any,.any,.any,.any]],qn 2,[.boxN 31 2 [.nil,.nil]],qi,qb,qb,qn 1,qi,qi,[.boxN 31 2 [.rowN 50 2 Qq10,.rowN 70 5 Qq3]],qi,qn 1,qi,qn 175]),(35,qc [qn 1,qi,qi,[.boxN 91 11 [.any,.any,.any,.any,.p db,.any,.any,.any,.any,.any,.any]],qn 2,[.boxN 31 2 [.nil,.nil]],qi,qb,qb,qn 1,qi,qi,[.boxN 31 2 [.rowN 50 2 Qq10,.rowN 70 5 Qq3]],qi,qn 2,[.c (.p (.int .u8))],qn 174])],[.a Qq12,.c di,.c di],[.a [.s 50 2 Qq10,.s 70 5 Qq3]],qc [qn 6,[.boxN 31 2 [.rowN 50 2 Qq10,.rowN 70 5 Qq3]],qn 185],[],[],0⟩
noncomputable def Z7b:=mkC Zs7 prog 57 F57
theorem ok57:Z7b.ok prog 57:=mkO ⟨ok89,trivial⟩ (by kernel_rfl)
noncomputable def Ya1:TCon:=⟨Z7b.args,[.a [.p (.sl Qq10),.p (.sl Qq3)]],Z7b.fn⟩
theorem Yoe:Ya1.ok prog 57:=TCon.frz (c:=Z7b) ok57 rfl
noncomputable def Zj3 (a0:Qy8)(a1 a2:Int):Option (Qy4×Unit):=Z7b.fn (a0,a1,a2,())
noncomputable def X8 (n:Nat)(x0 x1:Int)(x2:Bool)(x3:Int)(x4 x5:Bool):Option (Qy4×Unit):=itr Zs7 prog 57 F57 n 3 (x0,x1,x2,x3,x4,x5,())
noncomputable def Ze2 (n:Nat)(x0 x1:Int)(x2:Bool)(x3:Int)(x4 x5:Bool)(x6:Int):Option (Qy4×Unit):=itr Zs7 prog 57 F57 n 6 (x0,x1,x2,x3,x4,x5,x6,())
noncomputable def Zhe (n:Nat)(x0:Bool)(x1:Qy6)(x2:(List Qy2)):Option (Qy4×Unit):=itr Zs7 prog 57 F57 n 11 (x0,x1,x2,())
noncomputable def Yx (n:Nat)(x0 x1:Int)(x2:Bool)(x3:Int)(x4 x5:Bool)(x6 x7:Int)(x8:Qy6)(x9:(List Qy2))(x10:Int):Option (Qy4×Unit):=itr Zs7 prog 57 F57 n 13 (x0,x1,x2,x3,x4,x5,x6,x7,x8,x9,x10,())
noncomputable def Zdx (n:Nat)(x0 x1:Int)(x2:Bool)(x3:Int)(x4 x5:Bool)(x6 x7:Int)(x8:Qy6)(x9:(List Qy2))(x10 x11 x12 x13 x14 x15:Int):Option (Qy4×Unit):=itr Zs7 prog 57 F57 n 22 (x0,x1,x2,x3,x4,x5,x6,x7,x8,x9,x10,x11,x12,x13,x14,x15,())
noncomputable def Zdy (n:Nat)(x0 x1:Int)(x2:Bool)(x3:Int)(x4 x5:Bool)(x6 x7:Int)(x8:Qy6)(x9:(List Qy2))(x10 x11:Int):Option (Qy4×Unit):=itr Zs7 prog 57 F57 n 29 (x0,x1,x2,x3,x4,x5,x6,x7,x8,x9,x10,x11,())
noncomputable def Zdz (n:Nat)(x0 x1:Int)(x2:Bool)(x3:Int)(x4 x5:Bool)(x6 x7:Int)(x8:Qy6)(x9:(List Qy2))(x10 x11:Int):Option (Qy4×Unit):=itr Zs7 prog 57 F57 n 35 (x0,x1,x2,x3,x4,x5,x6,x7,x8,x9,x10,x11,())
theorem Z4f a0 a1 a2:Eq (Zj3 a0 a1 a2) <| match Za9 a0.2 5 with | none=>none | some e0=>match Za9 a0.2 10 with | none=>none | some e1=>bif !e0.1 then X8 fuel 1 a2 a0.2.2.2.2.1 (ofNat a0.2.2.2.1.length) e0.1 e1.1 else X8 fuel a1 a2 a0.2.2.2.2.1 (ofNat a0.2.2.2.1.length) e0.1 e1.1:=mkE (by kernel_rfl)
theorem Zzl n x0 x1 x2 x3 x4 x5:Eq (X8 (n+1) x0 x1 x2 x3 x4 x5) <| bif x4 then Ze2 n x0 x1 x2 x3 x4 x5 x3 else Ze2 n x0 x1 x2 x3 x4 x5 0:=mkI (by kernel_rfl)
theorem Zzm n x0 x1 x2 x3 x4 x5 x6:Eq (Ze2 (n+1) x0 x1 x2 x3 x4 x5 x6) <| Yx n x0 x1 x2 x3 x4 x5 (wrap .i64 (wrap .i64 (2*x3)+x6)) (wrap .i64 (wrap .i64 (wrap .i64 (2*x3)+x6)+x0)) ([]) ([]) 0:=mkI (by kernel_rfl)
theorem Zxg n x0 x1 x2:Eq (Zhe (n+1) x0 x1 x2) <| bif x0 then bif Zb (x1.length+1) 16 then some (((x1++[(7,0,())],x2,()),())) else none else some (((x1,x2,()),())):=mkI (by kernel_rfl)
theorem Zxh n x0 x1 x2 x3 x4 x5 x6 x7 x8 x9 x10:Eq (Yx (n+1) x0 x1 x2 x3 x4 x5 x6 x7 x8 x9 x10) <| bif x10≤x7 then bif x10<x3 then bif Zb (x8.length+List.length [(1,x10,())]) 16 then bif Zb (x9.length+List.length [(x10,0,wrap .i64 (x3+x10),0,x1,())]) 40 then Yx n x0 x1 x2 x3 x4 x5 x6 x7 (x8++[(1,x10,())]) (x9++[(x10,0,wrap .i64 (x3+x10),0,x1,())]) (wrap .i64 (x10+1)) else none else none else bif x10<wrap .i64 (2*x3) then bif Zb (x8.length+List.length [(2,wrap .i64 (x10 - x3),())]) 16 then bif !x4 then Zdx n x0 x1 x2 x3 x4 x5 x6 x7 (x8++[(2,wrap .i64 (x10 - x3),())]) x9 x10 x10 0 x6 (wrap .i64 (x10 - x3)) x1 else Zdx n x0 x1 x2 x3 x4 x5 x6 x7 (x8++[(2,wrap .i64 (x10 - x3),())]) x9 x10 x10 0 (wrap .i64 (x3+x10)) 0 x1 else none else bif x10<x6 then bif Zb (x8.length+List.length [(3,wrap .i64 (x10 - wrap .i64 (2*x3)),())]) 16 then Zdy n x0 x1 x2 x3 x4 x5 x6 x7 (x8++[(3,wrap .i64 (x10 - wrap .i64 (2*x3)),())]) x9 x10 0 else none else bif x10<x7 then bif x2 then Zdz n x0 x1 x2 x3 x4 x5 x6 x7 x8 x9 x10 5 else Zdz n x0 x1 x2 x3 x4 x5 x6 x7 x8 x9 x10 4 else bif Zb (x8.length+1) 16 then Yx n x0 x1 x2 x3 x4 x5 x6 x7 (x8++[(6,0,())]) x9 (wrap .i64 (x10+1)) else none else Zhe n x5 x8 x9:=mkI (by kernel_rfl)
theorem Zxi n x0 x1 x2 x3 x4 x5 x6 x7 x8 x9 x10 x11 x12 x13 x14 x15:Eq (Zdx (n+1) x0 x1 x2 x3 x4 x5 x6 x7 x8 x9 x10 x11 x12 x13 x14 x15) <| bif Zb (x9.length+List.length [(x11,x12,x13,x14,x15,())]) 40 then bif x5 then bif Zb (List.length (x9++[(x11,x12,x13,x14,x15,())])+List.length [(x10,1,wrap .i64 (x7+1),wrap .i64 (x10 - x3),x1,())]) 40 then Yx n x0 x1 x2 x3 x4 x5 x6 x7 x8 (x9++[(x11,x12,x13,x14,x15,())]++[(x10,1,wrap .i64 (x7+1),wrap .i64 (x10 - x3),x1,())]) (wrap .i64 (x10+1)) else none else Yx n x0 x1 x2 x3 x4 x5 x6 x7 x8 (x9++[(x11,x12,x13,x14,x15,())]) (wrap .i64 (x10+1)) else none:=mkI (by kernel_rfl)
theorem Zxj n x0 x1 x2 x3 x4 x5 x6 x7 x8 x9 x10 x11:Eq (Zdy (n+1) x0 x1 x2 x3 x4 x5 x6 x7 x8 x9 x10 x11) <| bif x11<x0 then bif Zb (x9.length+List.length [(x10,x11,wrap .i64 (x6+x11),wrap .i64 (x10 - wrap .i64 (2*x3)),x1,())]) 40 then Zdy n x0 x1 x2 x3 x4 x5 x6 x7 x8 (x9++[(x10,x11,wrap .i64 (x6+x11),wrap .i64 (x10 - wrap .i64 (2*x3)),x1,())]) x10 (wrap .i64 (x11+1)) else none else Yx n x0 x1 x2 x3 x4 x5 x6 x7 x8 x9 (wrap .i64 (x10+1)):=mkI (by kernel_rfl)
theorem Zxk n x0 x1 x2 x3 x4 x5 x6 x7 x8 x9 x10 x11:Eq (Zdz (n+1) x0 x1 x2 x3 x4 x5 x6 x7 x8 x9 x10 x11) <| bif Zb (x8.length+List.length [(x11,wrap .i64 (x10 - x6),())]) 16 then bif Zb (x9.length+List.length [(x10,0,x7,wrap .i64 (x10 - x6),x1,())]) 40 then Yx n x0 x1 x2 x3 x4 x5 x6 x7 (x8++[(x11,wrap .i64 (x10 - x6),())]) (x9++[(x10,0,x7,wrap .i64 (x10 - x6),x1,())]) (wrap .i64 (x10+1)) else none else none:=mkI (by kernel_rfl)
noncomputable def Yof:Tb:=[(135,Z26)]
def F92:TFun:=⟨[],[(9,qc [qi,[.c (.p (.sl Qq5))],qn 2,[.boxN 58 9 [.any,.any,.any,.nil,.nil,.nil,.nil,.nil,.nil]],qn 1,qi,qn 30])],[.c di,.c (.sl Qq5)],[.a [.p (.int .u8),.p di,.p di,.p (.sl Qq2),.p (.sl Qq11),.p (.sl Qq1),.s 82 5 Qq5,.p (.sl Qq3),.p (.sl Qq6)],.c (.p di)],qc [qn 4,[.boxN 58 9 [.p (.int .u8),.p di,.p di,.p (.sl Qq2),.p (.sl Qq11),.p (.sl Qq1),.rowN 82 5 Qq5,.p (.sl Qq3),.p (.sl Qq6)]],qi,qn 31],[],[],0⟩
noncomputable def Z7c:=mkC Yof prog 92 F92
theorem ok92:Z7c.ok prog 92:=mkO ⟨Ynt,trivial⟩ (by kernel_rfl)
noncomputable def Yj2:TCon:=⟨Z7c.args,[.a [.p (.int .u8),.p di,.p di,.p (.sl Qq2),.p (.sl Qq11),.p (.sl Qq1),.p (.sl Qq5),.p (.sl Qq3),.p (.sl Qq6)],.c (.p di)],Z7c.fn⟩
theorem Yue:Yj2.ok prog 92:=TCon.frz (c:=Z7c) ok92 rfl
noncomputable def Zsc (a0:Int)(a1:(List Qy7)):Option Qy10:=Z7c.fn (a0,a1,())
noncomputable def Zf9 (n:Nat)(x0:Int)(x1:(List Qy7))(x2:Int):Option Qy10:=itr Yof prog 92 F92 n 9 (x0,x1,x2,())
theorem Z7d a0 a1:Eq (Zsc a0 a1) <| let k1:Option Qy10:=some (((0,0,0,[],[],[],[],[],[],()),2,()));bif a0<0 then k1 else bif a0≥4 then k1 else bif ofNat a1.length>60 then some (((0,0,0,[],[],[],[],[],[],()),4,())) else Zf9 fuel a0 a1 0:=mkE (by kernel_rfl)
theorem Zq6 n x0 x1 x2:Eq (Zf9 (n+1) x0 x1 x2) <| bif x2<ofNat x1.length then bif 0≤x2 then match x1[x2.toNat]? with | none=>none | some e0=>match Zfb e0 with | none=>none | some e1=>bif e1.1 !=0 then some (((0,0,0,[],[],[],[],[],[],()),8,())) else Zf9 n x0 x1 (wrap .i64 (x2+1)) else none else bif Zb (0+x1.length) 40 then some (((1,x0,0,[],[],[],x1,[],[],()),0,())) else none:=mkI (by kernel_rfl)
noncomputable def Yuf:Tb:=[]
def F93:TFun:=⟨[],[],[.c di],[.a [.p (.int .u8),.p di,.p di,.p (.sl Qq2),.s 2 1 Qq11,.p (.sl Qq1),.p (.sl Qq5),.p (.sl Qq3),.p (.sl Qq6)],.c (.p di)],qc [qn 2,[.boxN 58 9 [.p (.int .u8),.p di,.p di,.p (.sl Qq2),.rowN 2 1 Qq11,.p (.sl Qq1),.p (.sl Qq5),.p (.sl Qq3),.p (.sl Qq6)]],qi,qn 11],[],[],0⟩
noncomputable def Z7e:=mkC Yuf prog 93 F93
theorem ok93:Z7e.ok prog 93:=mkO trivial (by kernel_rfl)
noncomputable def Yj3:TCon:=⟨Z7e.args,[.a [.p (.int .u8),.p di,.p di,.p (.sl Qq2),.p (.sl Qq11),.p (.sl Qq1),.p (.sl Qq5),.p (.sl Qq3),.p (.sl Qq6)],.c (.p di)],Z7e.fn⟩
theorem Yug:Yj3.ok prog 93:=TCon.frz (c:=Z7e) ok93 rfl
noncomputable def Z1i (a0:Int):Option Qy10:=Z7e.fn (a0,())
theorem Z7f a0:Eq (Z1i a0) <| let k1:Option Qy10:=some (((0,0,0,[],[],[],[],[],[],()),2,()));bif a0<0 then k1 else bif a0≥4 then k1 else some (((2,a0,0,[],[((-9223372036854775808),())],[],[],[],[],()),0,())):=mkE (by kernel_rfl)
noncomputable def Yuh:Tb:=[]
def F94:TFun:=⟨[],[],[.c di],[.a [.p (.int .u8),.p di,.p di,.p (.sl Qq2),.p (.sl Qq11),.p (.sl Qq1),.p (.sl Qq5),.p (.sl Qq3),.p (.sl Qq6)],.c (.p di)],qc [qn 2,[.boxN 58 9 [.p (.int .u8),.p di,.p di,.p (.sl Qq2),.p (.sl Qq11),.p (.sl Qq1),.p (.sl Qq5),.p (.sl Qq3),.p (.sl Qq6)]],qi,qn 10],[],[],0⟩
noncomputable def Yj4:=mkC Yuh prog 94 F94
theorem ok94:Yj4.ok prog 94:=mkO trivial (by kernel_rfl)
noncomputable def Z1j (a0:Int):Option Qy10:=Yj4.fn (a0,())
theorem Z7g a0:Eq (Z1j a0) <| let k1:Option Qy10:=some (((0,0,0,[],[],[],[],[],[],()),2,()));bif a0<0 then k1 else bif a0≥4 then k1 else some (((3,a0,0,[],[],[],[],[],[],()),0,())):=mkE (by kernel_rfl)
noncomputable def Yj5:Tb:=[]
def F136:TFun:=⟨[],[(7,qc [qi,qn 3,[.c (.rowN 2 1 Qq11)],qi,qn 15])],[.c di],[.c (.s 2 1 Qq11),.c (.p di)],qc [qn 2,[.c (.rowN 2 1 Qq11)],qi,qn 17],[],[],0⟩
noncomputable def Zsd:=mkC Yj5 prog 136 F136
theorem Yog:Zsd.ok prog 136:=mkO trivial (by kernel_rfl)
noncomputable def Yc4:TCon:=⟨Zsd.args,[.c (.p (.sl Qq11)),.c (.p di)],Zsd.fn⟩
theorem Yq0:Yc4.ok prog 136:=TCon.frz (c:=Zsd) Yog rfl
noncomputable def Zi1 (a0:Int):Option (List (Int×Unit)×Int×Unit):=Zsd.fn (a0,())
noncomputable def Zga (n:Nat)(x0:Int)(x1:Qy9)(x2:Int):Option (List (Int×Unit)×Int×Unit):=itr Yj5 prog 136 F136 n 7 (x0,x1,x2,())
theorem Z7h a0:Eq (Zi1 a0) <| bif a0<1 then some ([],2,()) else bif a0>4 then some ([],2,()) else Zga fuel a0 ([]) 0:=mkE (by kernel_rfl)
theorem Z4g n x0 x1 x2:Eq (Zga (n+1) x0 x1 x2) <| bif x2<x0 then bif Zb (x1.length+1) 8 then Zga n x0 (x1++[((-9223372036854775808),())]) (wrap .i64 (x2+1)) else none else some (x1,0,()):=mkI (by kernel_rfl)
noncomputable def Yui:Tb:=[(136,Yc4)]
def F95:TFun:=⟨[],[],[.c di,.c di],[.a [.p (.int .u8),.p di,.p di,.p (.sl Qq2),.p (.sl Qq11),.p (.sl Qq1),.p (.sl Qq5),.p (.sl Qq3),.p (.sl Qq6)],.c (.p di)],qc [qn 4,[.boxN 58 9 [.p (.int .u8),.p di,.p di,.p (.sl Qq2),.p (.sl Qq11),.p (.sl Qq1),.p (.sl Qq5),.p (.sl Qq3),.p (.sl Qq6)]],qi,qn 26],[],[],0⟩
noncomputable def Yj6:=mkC Yui prog 95 F95
theorem ok95:Yj6.ok prog 95:=mkO ⟨Yq0,trivial⟩ (by kernel_rfl)
noncomputable def Z1k (a0 a1:Int):Option Qy10:=Yj6.fn (a0,a1,())
theorem Z7i a0 a1:Eq (Z1k a0 a1) <| let k1:Option Qy10:=some (((0,0,0,[],[],[],[],[],[],()),2,()));bif a0<0 then k1 else bif a0≥3 then k1 else bif a1<1 then k1 else bif a1>4 then k1 else match Zi1 a1 with | none=>none | some e0=>some (((4,a0,0,[],e0.1,[],[],[],[],()),0,())):=mkE (by kernel_rfl)
noncomputable def Yuj:Tb:=[(136,Zsd)]
def F96:TFun:=⟨[],[],[.c di],[.a [.p (.int .u8),.p di,.p di,.p (.sl Qq2),.s 2 1 Qq11,.p (.sl Qq1),.p (.sl Qq5),.p (.sl Qq3),.p (.sl Qq6)],.c (.p di)],qc [qn 2,[.boxN 58 9 [.p (.int .u8),.p di,.p di,.p (.sl Qq2),.rowN 2 1 Qq11,.p (.sl Qq1),.p (.sl Qq5),.p (.sl Qq3),.p (.sl Qq6)]],qi,qn 17],[],[],0⟩
noncomputable def Yj7:=mkC Yuj prog 96 F96
theorem ok96:Yj7.ok prog 96:=mkO ⟨Yog,trivial⟩ (by kernel_rfl)
noncomputable def Z1l (a0:Int):Option Qy10:=Yj7.fn (a0,())
theorem Z7j a0:Eq (Z1l a0) <| let k1:Option Qy10:=some (((0,0,0,[],[],[],[],[],[],()),2,()));bif a0<0 then k1 else bif a0≥3 then k1 else match Zi1 2 with | none=>none | some e0=>some (((5,a0,0,[],e0.1,[],[],[],[],()),0,())):=mkE (by kernel_rfl)
noncomputable def Yuk:Tb:=[]
def F97:TFun:=⟨[],[],[.c db],[.a [.p (.int .u8),.p di,.p di,.p (.sl Qq2),.p (.sl Qq11),.p (.sl Qq1),.p (.sl Qq5),.p (.sl Qq3),.p (.sl Qq6)]],qc [qn 2,[.boxN 58 9 [.p (.int .u8),.p di,.p di,.p (.sl Qq2),.p (.sl Qq11),.p (.sl Qq1),.p (.sl Qq5),.p (.sl Qq3),.p (.sl Qq6)]],qn 5],[],[],0⟩
noncomputable def Yj8:=mkC Yuk prog 97 F97
theorem ok97:Yj8.ok prog 97:=mkO trivial (by kernel_rfl)
noncomputable def Z1m (a0:Bool):Option (Qy1×Unit):=Yj8.fn (a0,())
theorem Zs8 a0:Eq (Z1m a0) <| bif a0 then some (((7,0,0,[],[],[],[],[],[],()),())) else some (((6,0,0,[],[],[],[],[],[],()),())):=mkE (by kernel_rfl)
noncomputable def Yul:Tb:=[(92,Yj2),(93,Yj3),(94,Yj4),(95,Yj6),(96,Yj7),(97,Yj8)]
def F61:TFun:=⟨[],[],[.a Qq9,.c (.sl [.sl Qq5]),.a Qq10],[.a [.p (.int .u8),.p di,.p di,.p (.sl Qq2),.p (.sl Qq11),.p (.sl Qq1),.p (.sl Qq5),.p (.sl Qq3),.p (.sl Qq6)]],qc [qn 6,[.boxN 58 9 [.p (.int .u8),.p di,.p di,.p (.sl Qq2),.p (.sl Qq11),.p (.sl Qq1),.p (.sl Qq5),.p (.sl Qq3),.p (.sl Qq6)]],qn 56],[],[],0⟩
noncomputable def Yj9:=mkC Yul prog 61 F61
theorem ok61:Yj9.ok prog 61:=mkO ⟨Yue,Yug,ok94,ok95,ok96,ok97,trivial⟩ (by kernel_rfl)
noncomputable def Zh3 (a0:Qy5)(a1:Qy14)(a2:(Int×Int×Unit)):Option (Qy1×Unit):=Yj9.fn (a0,a1,a2,())
theorem Zzn a0 a1 a2:Eq (Zh3 a0 a1 a2) <| bif a2.1==1 then bif 0≤a2.2.1 then match a1[a2.2.1.toNat]? with | none=>none | some e0=>match Zsc a2.2.1 e0.1 with | none=>none | some e1=>some (e1.1,()) else none else bif a2.1==2 then match Z1i a2.2.1 with | none=>none | some e0=>some (e0.1,()) else bif a2.1==3 then match Z1j a2.2.1 with | none=>none | some e0=>some (e0.1,()) else bif a2.1==4 then match Z1k a2.2.1 (ofNat a0.2.2.1.length) with | none=>none | some e0=>some (e0.1,()) else bif a2.1==5 then match Z1l a2.2.1 with | none=>none | some e0=>some (e0.1,()) else match Z1m (a2.1==7) with | none=>none | some e0=>some (e0.1,()):=mkE (by kernel_rfl)
noncomputable def Yum:Tb:=[]
def F62:TFun:=⟨[],[],[.c di],[.a [.p di,.p (.sl Qq7)],.c (.p di)],qc [qn 2,[.boxN 62 2 [.p di,.p (.sl Qq7)]],qi,qn 9],[],[],0⟩
noncomputable def Yka:=mkC Yum prog 62 F62
theorem ok62:Yka.ok prog 62:=mkO trivial (by kernel_rfl)
noncomputable def Zse (a0:Int):Option (Qy11×Int×Unit):=Yka.fn (a0,())
theorem Z7k a0:Eq (Zse a0) <| bif a0<1 then some (((0,[],()),2,())) else bif a0>8 then some (((0,[],()),2,())) else some (((a0,[],()),0,())):=mkE (by kernel_rfl)
noncomputable def Yc5:Tb:=[(55,Yc3),(60,Yaz),(57,Ya1),(61,Yj9),(62,Yka)]
def F26:TFun:=⟨[4],[(4,qc [qn 8,[.boxN 35 14 [.any,.nil,.nil,.any,.nil,.any,.any,.any,.any,.any,.nil,.nil,.nil,.nil]],qn 2,[.boxN 35 14 [.p (.int .u8),.p (.sl Qq4),.p (.sl Qq11),.p db,.p (.sl Qq4),.p (.int .u8),.p di,.p di,.p db,.p (.int .u8),.p (.sl Qq10),.p (.sl Qq3),.rowN 58 9 Qq8,.nil]],qn 64]),(6,qc [qn 1,[.c (.p (.sl [.sl Qq5]))],qn 2,[.boxN 27 10 [.p (.int .u8),.p (.sl Qq4),.p (.sl Qq11),.p db,.p (.sl Qq4),.p (.int .u8),.p di,.p di,.p db,.p (.int .u8)]],qn 3,[.boxN 35 14 [.any,.nil,.nil,.any,.nil,.any,.any,.any,.any,.any,.nil,.nil,.nil,.nil]],qn 2,[.boxN 35 14 [.p (.int .u8),.p (.sl Qq4),.p (.sl Qq11),.p db,.p (.sl Qq4),.p (.int .u8),.p di,.p di,.p db,.p (.int .u8),.p (.sl Qq10),.p (.sl Qq3),.rowN 58 9 Qq8,.nil]],qi,qn 63]),(12,qc [qn 8,[.boxN 35 14 [.any,.nil,.nil,.any,.nil,.any,.any,.any,.any,.any,.nil,.nil,.nil,.nil]],qn 2,[.boxN 35 14 [.p (.int .u8),.p (.sl Qq4),.p (.sl Qq11),.p db,.p (.sl Qq4),.p (.int .u8),.p di,.p di,.p db,.p (.int .u8),.p (.sl Qq10),.p (.sl Qq3),.rowN 58 9 Qq8,.rowN 62 2 Qq15]],qn 1,qi,qn 62])],[.a Qq9,.c (.sl [.sl Qq5]),.c di,.c di],[.a [.p (.int .u8),.p (.sl Qq4),.p (.sl Qq11),.p db,.p (.sl Qq4),.p (.int .u8),.p di,.p di,.p db,.p (.int .u8),.p (.sl Qq10),.p (.sl Qq3),.s 58 9 Qq8,.s 62 2 Qq15]],qc [qn 8,[.boxN 35 14 [.p (.int .u8),.p (.sl Qq4),.p (.sl Qq11),.p db,.p (.sl Qq4),.p (.int .u8),.p di,.p di,.p db,.p (.int .u8),.p (.sl Qq10),.p (.sl Qq3),.rowN 58 9 Qq8,.rowN 62 2 Qq15]],qn 67],[],[],0⟩
noncomputable def Z7l:=mkC Yc5 prog 26 F26
theorem ok26:Z7l.ok prog 26:=mkO ⟨ok55,Yod,Yoe,ok61,ok62,trivial⟩ (by kernel_rfl)
noncomputable def Ykb:TCon:=⟨Z7l.args,[.a [.p (.int .u8),.p (.sl Qq4),.p (.sl Qq11),.p db,.p (.sl Qq4),.p (.int .u8),.p di,.p di,.p db,.p (.int .u8),.p (.sl Qq10),.p (.sl Qq3),.p (.sl Qq8),.p (.sl Qq15)]],Z7l.fn⟩
theorem Yun:Ykb.ok prog 26:=TCon.frz (c:=Z7l) ok26 rfl
noncomputable def Zj4 (a0:Qy5)(a1:Qy14)(a2 a3:Int):Option (Qy3×Unit):=Z7l.fn (a0,a1,a2,a3,())
noncomputable def Zos (n:Nat)(x0:Int)(x1:(List Qy2))(x2:Qy9)(x3:Bool)(x4:(List Qy2))(x5 x6 x7:Int)(x8:Bool)(x9:Int)(x10:Qy6)(x11:(List Qy2))(x12:(List Qy1)):Option (Qy3×Unit):=itr Yc5 prog 26 F26 n 4 (x0,x1,x2,x3,x4,x5,x6,x7,x8,x9,x10,x11,x12,())
noncomputable def Ze3 (n:Nat)(x0:Qy14)(x1:Int)(x2:(List Qy2))(x3:Qy9)(x4:Bool)(x5:(List Qy2))(x6 x7 x8:Int)(x9:Bool)(x10 x11:Int)(x12:(List Qy2))(x13:Qy9)(x14:Bool)(x15:(List Qy2))(x16 x17 x18:Int)(x19:Bool)(x20:Int)(x21:Qy6)(x22:(List Qy2))(x23:(List Qy1))(x24:Int):Option (Qy3×Unit):=itr Yc5 prog 26 F26 n 6 (x0,x1,x2,x3,x4,x5,x6,x7,x8,x9,x10,x11,x12,x13,x14,x15,x16,x17,x18,x19,x20,x21,x22,x23,x24,())
noncomputable def Zd0 (n:Nat)(x0:Int)(x1:(List Qy2))(x2:Qy9)(x3:Bool)(x4:(List Qy2))(x5 x6 x7:Int)(x8:Bool)(x9:Int)(x10:Qy6)(x11:(List Qy2))(x12:(List Qy1))(x13:(List Qy11))(x14:Int):Option (Qy3×Unit):=itr Yc5 prog 26 F26 n 12 (x0,x1,x2,x3,x4,x5,x6,x7,x8,x9,x10,x11,x12,x13,x14,())
theorem Z4h a0 a1 a2 a3:Eq (Zj4 a0 a1 a2 a3) <| match Zng a0 with | none=>none | some e0=>match Zj2 a0 with | none=>none | some e1=>match Zj3 e0.1 a2 a3 with | none=>none | some e2=>Ze3 fuel a1 a0.1 a0.2.1 a0.2.2.1 a0.2.2.2.1 a0.2.2.2.2.1 a0.2.2.2.2.2.1 a0.2.2.2.2.2.2.1 a0.2.2.2.2.2.2.2.1 a0.2.2.2.2.2.2.2.2.1 a0.2.2.2.2.2.2.2.2.2.1 e1.1.1 e1.1.2.1 e1.1.2.2.1 e1.1.2.2.2.1 e1.1.2.2.2.2.1 e1.1.2.2.2.2.2.1 e1.1.2.2.2.2.2.2.1 e1.1.2.2.2.2.2.2.2.1 e1.1.2.2.2.2.2.2.2.2.1 e1.1.2.2.2.2.2.2.2.2.2.1 e2.1.1 e2.1.2.1 ([]) 0:=mkE (by kernel_rfl)
theorem Zzo n x0 x1 x2 x3 x4 x5 x6 x7 x8 x9 x10 x11 x12:Eq (Zos (n+1) x0 x1 x2 x3 x4 x5 x6 x7 x8 x9 x10 x11 x12) <| Zd0 n x0 x1 x2 x3 x4 x5 x6 x7 x8 x9 x10 x11 x12 ([]) 0:=mkI (by kernel_rfl)
theorem Zot n x0 x1 x2 x3 x4 x5 x6 x7 x8 x9 x10 x11 x12 x13 x14 x15 x16 x17 x18 x19 x20 x21 x22 x23 x24:Eq (Ze3 (n+1) x0 x1 x2 x3 x4 x5 x6 x7 x8 x9 x10 x11 x12 x13 x14 x15 x16 x17 x18 x19 x20 x21 x22 x23 x24) <| bif x24<ofNat x21.length then bif 0≤x24 then match x21[x24.toNat]? with | none=>none | some e0=>match Zh3 (x1,x2,x3,x4,x5,x6,x7,x8,x9,x10,()) x0 e0 with | none=>none | some e1=>bif Zb (x23.length+List.length [e1.1]) 168 then Ze3 n x0 x1 x2 x3 x4 x5 x6 x7 x8 x9 x10 x11 x12 x13 x14 x15 x16 x17 x18 x19 x20 x21 x22 (x23++[e1.1]) (wrap .i64 (x24+1)) else none else none else Zos n x11 x12 x13 x14 x15 x16 x17 x18 x19 x20 x21 x22 x23:=mkI (by kernel_rfl)
theorem Znh n x0 x1 x2 x3 x4 x5 x6 x7 x8 x9 x10 x11 x12 x13 x14:Eq (Zd0 (n+1) x0 x1 x2 x3 x4 x5 x6 x7 x8 x9 x10 x11 x12 x13 x14) <| bif x14<ofNat x11.length then bif 0≤x14 then match x11[x14.toNat]? with | none=>none | some e0=>match Zse e0.2.2.2.2.1 with | none=>none | some e1=>bif Zb (x13.length+List.length [e1.1]) 32 then Zd0 n x0 x1 x2 x3 x4 x5 x6 x7 x8 x9 x10 x11 x12 (x13++[e1.1]) (wrap .i64 (x14+1)) else none else none else some (((x0,x1,x2,x3,x4,x5,x6,x7,x8,x9,x10,x11,x12,x13,()),())):=mkI (by kernel_rfl)
noncomputable def Yc6:Tb:=[]
def F56:TFun:=⟨[4],[(4,qc [qn 2,[.boxN 31 2 [.any,.p (.sl Qq3)]],[.boxN 31 2 [.any,.p (.sl Qq3)]],qn 55]),(6,qc [qn 2,[.boxN 31 2 [.p (.sl Qq10),.p (.sl Qq3)]],[.boxN 31 2 [.p (.sl Qq10),.p (.sl Qq3)]],qn 1,qi,qn 53]),(14,qc [qn 2,[.boxN 31 2 [.any,.p (.sl Qq3)]],[.boxN 31 2 [.any,.p (.sl Qq3)]],qn 2,qi,qn 52])],[.a [.sl Qq10,.sl Qq3],.a [.sl Qq10,.sl Qq3]],[.c (.p db)],qc [qn 4,qb,qn 54],[],[],0⟩
noncomputable def Ykc:=mkC Yc6 prog 56 F56
theorem ok56:Ykc.ok prog 56:=mkO trivial (by kernel_rfl)
noncomputable def Zpt (a0 a1:Qy4):Option (Bool×Unit):=Ykc.fn (a0,a1,())
noncomputable def Zou (n:Nat)(x0 x1:(List Qy2)):Option (Bool×Unit):=itr Yc6 prog 56 F56 n 4 (x0,x1,())
noncomputable def Ze4 (n:Nat)(x0:Qy6)(x1:(List Qy2))(x2:Qy6)(x3:(List Qy2))(x4:Int):Option (Bool×Unit):=itr Yc6 prog 56 F56 n 6 (x0,x1,x2,x3,x4,())
noncomputable def Zbs (n:Nat)(x0 x1:(List Qy2))(x2:Int):Option (Bool×Unit):=itr Yc6 prog 56 F56 n 14 (x0,x1,x2,())
theorem Z4i a0 a1:Eq (Zpt a0 a1) <| bif ofNat a0.1.length !=ofNat a1.1.length then some (false,()) else bif ofNat a0.2.1.length !=ofNat a1.2.1.length then some (false,()) else Ze4 fuel a0.1 a0.2.1 a1.1 a1.2.1 0:=mkE (by kernel_rfl)
theorem Zzp n x0 x1:Eq (Zou (n+1) x0 x1) <| Zbs n x0 x1 0:=mkI (by kernel_rfl)
theorem Zov n x0 x1 x2 x3 x4:Eq (Ze4 (n+1) x0 x1 x2 x3 x4) <| bif x4<ofNat x0.length then bif 0≤x4 then match x0[x4.toNat]? with | none=>none | some e0=>bif 0≤x4 then match x2[x4.toNat]? with | none=>none | some e1=>bif !(e0.1==e1.1&&(e0.2.1==e1.2.1&&true)) then some (false,()) else Ze4 n x0 x1 x2 x3 (wrap .i64 (x4+1)) else none else none else Zou n x1 x3:=mkI (by kernel_rfl)
theorem Zni n x0 x1 x2:Eq (Zbs (n+1) x0 x1 x2) <| bif x2<ofNat x0.length then bif 0≤x2 then match x0[x2.toNat]? with | none=>none | some e0=>bif 0≤x2 then match x1[x2.toNat]? with | none=>none | some e1=>bif !(e0.1==e1.1&&(e0.2.1==e1.2.1&&(e0.2.2.1==e1.2.2.1&&(e0.2.2.2.1==e1.2.2.2.1&&(e0.2.2.2.2.1==e1.2.2.2.2.1&&true))))) then some (false,()) else Zbs n x0 x1 (wrap .i64 (x2+1)) else none else none else some (true,()):=mkI (by kernel_rfl)
noncomputable def Yuo:Tb:=[(37,Yju)]
def F36:TFun:=⟨[],[],[.c di,.q [.sl [.sl Qq5]]],[.a [.p (.int .u8),.p di,.p di,.p (.sl Qq2),.p (.sl Qq11),.p (.sl Qq1),.s 82 5 Qq5,.p (.sl Qq3),.p (.sl Qq6)],.c (.p di)],qc [qn 3,[.boxN 58 9 [.p (.int .u8),.p di,.p di,.p (.sl Qq2),.p (.sl Qq11),.p (.sl Qq1),.rowN 82 5 Qq5,.p (.sl Qq3),.p (.sl Qq6)]],qi,qn 8],[],[],0⟩
noncomputable def Ykd:=mkC Yuo prog 36 F36
theorem ok36:Ykd.ok prog 36:=mkO ⟨ok37,trivial⟩ (by kernel_rfl)
noncomputable def Zj5 (a0:Int)(a1:(List (List Qy7×Unit)×Unit)):Option Qy10:=Ykd.fn (a0,a1,())
theorem Zxl a0 a1:Eq (Zj5 a0 a1) <| bif 0≤a0 then match a1.1[a0.toNat]? with | none=>none | some e0=>match Zpr a0 e0.1 with | none=>none | some e1=>some (e1.1,e1.2.1,()) else none:=mkE (by kernel_rfl)
noncomputable def Yup:Tb:=[(41,Yjw)]
def F40:TFun:=⟨[],[],[.c di,.q Qq9],[.a [.p (.int .u8),.p di,.p di,.p (.sl Qq2),.s 2 1 Qq11,.p (.sl Qq1),.p (.sl Qq5),.p (.sl Qq3),.p (.sl Qq6)],.c (.p di)],qc [qn 3,[.boxN 58 9 [.p (.int .u8),.p di,.p di,.p (.sl Qq2),.rowN 2 1 Qq11,.p (.sl Qq1),.p (.sl Qq5),.p (.sl Qq3),.p (.sl Qq6)]],qi,qn 7],[],[],0⟩
noncomputable def Yke:=mkC Yup prog 40 F40
theorem ok40:Yke.ok prog 40:=mkO ⟨ok41,trivial⟩ (by kernel_rfl)
noncomputable def Zj6 (a0:Int)(a1:Qy5):Option Qy10:=Yke.fn (a0,a1,())
theorem Zxm a0 a1:Eq (Zj6 a0 a1) <| match Z4c a0 (ofNat a1.2.2.1.length) with | none=>none | some e0=>some (e0.1,e0.2.1,()):=mkE (by kernel_rfl)
noncomputable def Yuq:Tb:=[(44,Yc1)]
def F43:TFun:=⟨[],[],[.c di],[.a [.p (.int .u8),.p di,.p di,.p (.sl Qq2),.p (.sl Qq11),.p (.sl Qq1),.p (.sl Qq5),.p (.sl Qq3),.p (.sl Qq6)],.c (.p di)],qc [qn 2,[.boxN 58 9 [.p (.int .u8),.p di,.p di,.p (.sl Qq2),.p (.sl Qq11),.p (.sl Qq1),.p (.sl Qq5),.p (.sl Qq3),.p (.sl Qq6)]],qi,qn 1],[],[],0⟩
noncomputable def Ykf:=mkC Yuq prog 43 F43
theorem ok43:Ykf.ok prog 43:=mkO ⟨ok44,trivial⟩ (by kernel_rfl)
noncomputable def Zj7 (a0:Int):Option Qy10:=Ykf.fn (a0,())
theorem Zxn a0:Eq (Zj7 a0) <| match Zxe false with | none=>none | some e0=>some (e0.1,0,()):=mkE (by kernel_rfl)
noncomputable def Yur:Tb:=[(44,Yc1)]
def F45:TFun:=⟨[],[],[.c di],[.a [.p (.int .u8),.p di,.p di,.p (.sl Qq2),.p (.sl Qq11),.p (.sl Qq1),.p (.sl Qq5),.p (.sl Qq3),.p (.sl Qq6)],.c (.p di)],qc [qn 2,[.boxN 58 9 [.p (.int .u8),.p di,.p di,.p (.sl Qq2),.p (.sl Qq11),.p (.sl Qq1),.p (.sl Qq5),.p (.sl Qq3),.p (.sl Qq6)]],qi,qn 1],[],[],0⟩
noncomputable def Ykg:=mkC Yur prog 45 F45
theorem ok45:Ykg.ok prog 45:=mkO ⟨ok44,trivial⟩ (by kernel_rfl)
noncomputable def Zj8 (a0:Int):Option Qy10:=Ykg.fn (a0,())
theorem Zxo a0:Eq (Zj8 a0) <| match Zxe true with | none=>none | some e0=>some (e0.1,0,()):=mkE (by kernel_rfl)
noncomputable def Zxp:Tb:=[(27,Z02),(31,Yjm),(32,Yjp),(33,Yjs),(34,Yap),(35,Yaq),(36,Ykd),(40,Yke),(38,Yjx),(39,Yjy),(42,Yjz),(43,Ykf),(45,Ykg),(46,Yj0)]
def F13:TFun:=⟨[9,11,33,35,41,46],[(9,qc [qn 2,qi,qi,[.boxN 27 10 [.p (.int .u8),.p (.sl Qq4),.p (.sl Qq11),.p db,.p (.sl Qq4),.p (.int .u8),.p di,.p di,.p db,.p (.int .u8)]],[.boxN 42 1 [.p (.sl [.sl Qq5])]],qn 2,[.boxN 35 14 [.any,.nil,.nil,.any,.nil,.any,.any,.any,.any,.any,.nil,.nil,.nil,.nil]],qn 140]),(11,qc [qn 2,qi,qi,[.boxN 27 10 [.p (.int .u8),.p (.sl Qq4),.p (.sl Qq11),.p db,.p (.sl Qq4),.p (.int .u8),.p di,.p di,.p db,.p (.int .u8)]],[.boxN 42 1 [.p (.sl [.sl Qq5])]],qn 2,[.boxN 35 14 [.any,.nil,.nil,.any,.nil,.any,.any,.any,.any,.any,.nil,.nil,.nil,.nil]],qn 35,[.c (.p (.sl [.sl Qq5]))],qi,qi,qn 102]),(33,qc [qn 8,[.boxN 35 14 [.any,.nil,.nil,.any,.nil,.any,.any,.any,.any,.any,.nil,.nil,.nil,.nil]],qn 8,[.boxN 31 2 [.any,.p (.sl Qq3)]],[.boxN 35 14 [.p (.int .u8),.p (.sl Qq4),.p (.sl Qq11),.p db,.p (.sl Qq4),.p (.int .u8),.p di,.p di,.p db,.p (.int .u8),.p (.sl Qq10),.p (.sl Qq3),.rowN 58 9 Qq8,.nil]],qn 130]),(35,qc [qn 4,[.boxN 27 10 [.p (.int .u8),.p (.sl Qq4),.p (.sl Qq11),.p db,.p (.sl Qq4),.p (.int .u8),.p di,.p di,.p db,.p (.int .u8)]],[.boxN 42 1 [.p (.sl [.sl Qq5])]],qn 2,[.boxN 35 14 [.any,.nil,.nil,.any,.nil,.any,.any,.any,.any,.any,.nil,.nil,.nil,.nil]],qn 8,[.boxN 31 2 [.any,.p (.sl Qq3)]],[.boxN 35 14 [.p (.int .u8),.p (.sl Qq4),.p (.sl Qq11),.p db,.p (.sl Qq4),.p (.int .u8),.p di,.p di,.p db,.p (.int .u8),.p (.sl Qq10),.p (.sl Qq3),.rowN 58 9 Qq8,.nil]],[.boxN 105 7 [.fnp 36 1 0,.fn 38 [],.fn 39 [],.fnp 40 0 0,.fn 42 [],.fn 43 [],.fn 45 []]],qn 76,[.c (.p (.sl Qq10))],qi,qi,qn 50]),(41,qc [qn 4,[.boxN 27 10 [.p (.int .u8),.p (.sl Qq4),.p (.sl Qq11),.p db,.p (.sl Qq4),.p (.int .u8),.p di,.p di,.p db,.p (.int .u8)]],[.boxN 42 1 [.p (.sl [.sl Qq5])]],qn 2,[.boxN 35 14 [.any,.nil,.nil,.any,.nil,.any,.any,.any,.any,.any,.nil,.nil,.nil,.nil]],qn 8,[.boxN 31 2 [.any,.p (.sl Qq3)]],[.boxN 35 14 [.p (.int .u8),.p (.sl Qq4),.p (.sl Qq11),.p db,.p (.sl Qq4),.p (.int .u8),.p di,.p di,.p db,.p (.int .u8),.p (.sl Qq10),.p (.sl Qq3),.rowN 58 9 Qq8,.nil]],[.boxN 105 7 [.fnp 36 1 0,.fn 38 [],.fn 39 [],.fnp 40 0 0,.fn 42 [],.fn 43 [],.fn 45 []]],qn 2,[.boxN 58 9 [.p (.int .u8),.p di,.p di,.p (.sl Qq2),.p (.sl Qq11),.p (.sl Qq1),.p (.sl Qq5),.p (.sl Qq3),.p (.sl Qq6)]],qn 73,[.c (.p (.sl Qq10))],qi,qi,qn 50]),(46,qc [qn 8,[.boxN 35 14 [.any,.nil,.nil,.any,.nil,.any,.any,.any,.any,.any,.nil,.nil,.nil,.nil]],qn 9,[.boxN 35 14 [.p (.int .u8),.p (.sl Qq4),.p (.sl Qq11),.p db,.p (.sl Qq4),.p (.int .u8),.p di,.p di,.p db,.p (.int .u8),.p (.sl Qq10),.p (.sl Qq3),.rowN 58 9 Qq8,.rowN 62 2 Qq15]],qn 106,[.c (.p (.sl Qq3))],qi,qi,qn 21])],[.a Qq9,.c (.sl [.sl Qq5]),.c di,.c di],[.a [.p (.int .u8),.p (.sl Qq4),.p (.sl Qq11),.p db,.p (.sl Qq4),.p (.int .u8),.p di,.p di,.p db,.p (.int .u8),.p (.sl Qq10),.p (.sl Qq3),.s 58 9 Qq8,.s 62 2 Qq15],.c (.p di)],qc [qn 8,[.boxN 35 14 [.p (.int .u8),.p (.sl Qq4),.p (.sl Qq11),.p db,.p (.sl Qq4),.p (.int .u8),.p di,.p di,.p db,.p (.int .u8),.p (.sl Qq10),.p (.sl Qq3),.rowN 58 9 Qq8,.rowN 62 2 Qq15]],qi,qn 139],[],[],0⟩
noncomputable def Z7m:=mkC Zxp prog 13 F13
theorem ok13:Z7m.ok prog 13:=mkO ⟨ok27,ok31,ok32,Ytv,Yn8,Yn9,ok36,ok40,Yt4,ok39,Yt7,ok43,ok45,ok46,trivial⟩ (by kernel_rfl)
noncomputable def Ykh:TCon:=⟨Z7m.args,[.a [.p (.int .u8),.p (.sl Qq4),.p (.sl Qq11),.p db,.p (.sl Qq4),.p (.int .u8),.p di,.p di,.p db,.p (.int .u8),.p (.sl Qq10),.p (.sl Qq3),.p (.sl Qq8),.p (.sl Qq15)],.c (.p di)],Z7m.fn⟩
theorem Yus:Ykh.ok prog 13:=TCon.frz (c:=Z7m) ok13 rfl
noncomputable def Zh4 (a0:Qy5)(a1:Qy14)(a2 a3:Int):Option (Qy3×Int×Unit):=Z7m.fn (a0,a1,a2,a3,())
noncomputable def Yk (n:Nat)(x0 x1 x2:Int)(x3:(List Qy2))(x4:Qy9)(x5:Bool)(x6:(List Qy2))(x7 x8 x9:Int)(x10:Bool)(x11:Int)(x12:Qy14):Option (Qy3×Int×Unit):=itr Zxp prog 13 F13 n 9 (x0,x1,x2,x3,x4,x5,x6,x7,x8,x9,x10,x11,x12,())
noncomputable def Y9 (n:Nat)(x0 x1 x2:Int)(x3:(List Qy2))(x4:Qy9)(x5:Bool)(x6:(List Qy2))(x7 x8 x9:Int)(x10:Bool)(x11:Int)(x12 x13:Qy14)(x14 x15:Int):Option (Qy3×Int×Unit):=itr Zxp prog 13 F13 n 11 (x0,x1,x2,x3,x4,x5,x6,x7,x8,x9,x10,x11,x12,x13,x14,x15,())
noncomputable def Qs (n:Nat)(x0:(List Qy2))(x1:Int)(x2:(List Qy2))(x3:Qy9)(x4:Bool)(x5:(List Qy2))(x6 x7 x8:Int)(x9:Bool)(x10:Int)(x11:Qy6)(x12:(List Qy2))(x13:(List Qy1)):Option (Qy3×Int×Unit):=itr Zxp prog 13 F13 n 33 (x0,x1,x2,x3,x4,x5,x6,x7,x8,x9,x10,x11,x12,x13,())
noncomputable def Zw (n:Nat)(x0:Int)(x1:(List Qy2))(x2:Qy9)(x3:Bool)(x4:(List Qy2))(x5 x6 x7:Int)(x8:Bool)(x9:Int)(x10:Qy14)(x11:(List Qy2))(x12:Int)(x13:(List Qy2))(x14:Qy9)(x15:Bool)(x16:(List Qy2))(x17 x18 x19:Int)(x20:Bool)(x21:Int)(x22:Qy6)(x23:(List Qy2))(x24:(List Qy1))(x25:Qy6)(x26 x27:Int):Option (Qy3×Int×Unit):=itr Zxp prog 13 F13 n 35 (x0,x1,x2,x3,x4,x5,x6,x7,x8,x9,x10,x11,x12,x13,x14,x15,x16,x17,x18,x19,x20,x21,x22,x23,x24,x25,x26,x27,())
noncomputable def Zq (n:Nat)(x0:Int)(x1:(List Qy2))(x2:Qy9)(x3:Bool)(x4:(List Qy2))(x5 x6 x7:Int)(x8:Bool)(x9:Int)(x10:Qy14)(x11:(List Qy2))(x12:Int)(x13:(List Qy2))(x14:Qy9)(x15:Bool)(x16:(List Qy2))(x17 x18 x19:Int)(x20:Bool)(x21:Int)(x22:Qy6)(x23:(List Qy2))(x24:(List Qy1))(x25 x26 x27:Int)(x28:(List (Int×Int×Int×Int×Int×Int×Int×Int×Int×Int×Int×Unit)))(x29:Qy9)(x30:(List (Int×Int×Int×Int×Int×Int×Int×Int×Int×Int×Int×Unit)))(x31:(List Qy7))(x32:(List Qy2))(x33:(List (Int×Int×Int×Unit)))(x34:Qy6)(x35 x36:Int):Option (Qy3×Int×Unit):=itr Zxp prog 13 F13 n 41 (x0,x1,x2,x3,x4,x5,x6,x7,x8,x9,x10,x11,x12,x13,x14,x15,x16,x17,x18,x19,x20,x21,x22,x23,x24,x25,x26,x27,x28,x29,x30,x31,x32,x33,x34,x35,x36,())
noncomputable def Xa (n:Nat)(x0:Int)(x1:(List Qy2))(x2:Qy9)(x3:Bool)(x4:(List Qy2))(x5 x6 x7:Int)(x8:Bool)(x9:Int)(x10:Qy6)(x11:(List Qy2))(x12:(List Qy1))(x13:(List Qy11))(x14:(List Qy2))(x15 x16:Int):Option (Qy3×Int×Unit):=itr Zxp prog 13 F13 n 46 (x0,x1,x2,x3,x4,x5,x6,x7,x8,x9,x10,x11,x12,x13,x14,x15,x16,())
theorem Zzq a0 a1 a2 a3:Eq (Zh4 a0 a1 a2 a3) <| match Qz a0 with | none=>none | some e0=>bif e0.2.1 !=0 then some (((0,[],[],false,[],0,0,0,false,0,[],[],[],[],()),e0.2.1,())) else bif ofNat a1.length !=ofNat a0.2.2.1.length then some (((0,[],[],false,[],0,0,0,false,0,[],[],[],[],()),2,())) else Y9 fuel a2 a3 a0.1 a0.2.1 a0.2.2.1 a0.2.2.2.1 a0.2.2.2.2.1 a0.2.2.2.2.2.1 a0.2.2.2.2.2.2.1 a0.2.2.2.2.2.2.2.1 a0.2.2.2.2.2.2.2.2.1 a0.2.2.2.2.2.2.2.2.2.1 a1 a1 (ofNat a1.length) 0:=mkE (by kernel_rfl)
theorem Zxq n x0 x1 x2 x3 x4 x5 x6 x7 x8 x9 x10 x11 x12:Eq (Yk (n+1) x0 x1 x2 x3 x4 x5 x6 x7 x8 x9 x10 x11 x12) <| match Zub (x2,x3,x4,x5,x6,x7,x8,x9,x10,x11,()) with | none=>none | some e0=>bif e0.2.1 !=0 then some (((0,[],[],false,[],0,0,0,false,0,[],[],[],[],()),e0.2.1,())) else match Zq4 e0.1 x0 x1 with | none=>none | some e1=>bif e1.2.1 !=0 then some (((0,[],[],false,[],0,0,0,false,0,[],[],[],[],()),e1.2.1,())) else match Zj 40 x3 with | none=>none | some e2=>match Zj 40 x6 with | none=>none | some e3=>match Zj 8 x4 with | none=>none | some e4=>Zw n x2 e2.1 e4.1 x5 e3.1 x7 x8 x9 x10 x11 x12 e1.1.2.1 x2 e2.1 e4.1 x5 e3.1 x7 x8 x9 x10 x11 e1.1.1 e1.1.2.1 ([]) e1.1.1 (ofNat e1.1.1.length) 0:=mkI (by kernel_rfl)
theorem Zkw n x0 x1 x2 x3 x4 x5 x6 x7 x8 x9 x10 x11 x12 x13 x14 x15:Eq (Y9 (n+1) x0 x1 x2 x3 x4 x5 x6 x7 x8 x9 x10 x11 x12 x13 x14 x15) <| bif x15<x14 then bif 0≤x15 then match x13[x15.toNat]? with | none=>none | some e0=>match Zpq e0.1 with | none=>none | some e1=>bif e1.1 !=0 then some (((0,[],[],false,[],0,0,0,false,0,[],[],[],[],()),e1.1,())) else Y9 n x0 x1 x2 x3 x4 x5 x6 x7 x8 x9 x10 x11 x12 x13 x14 (wrap .i64 (x15+1)) else none else Yk n x0 x1 x2 x3 x4 x5 x6 x7 x8 x9 x10 x11 x12:=mkI (by kernel_rfl)
theorem Zts n x0 x1 x2 x3 x4 x5 x6 x7 x8 x9 x10 x11 x12 x13:Eq (Qs (n+1) x0 x1 x2 x3 x4 x5 x6 x7 x8 x9 x10 x11 x12 x13) <| Xa n x1 x2 x3 x4 x5 x6 x7 x8 x9 x10 x11 x12 x13 ([]) x0 (ofNat x0.length) 0:=mkI (by kernel_rfl)
theorem Zkx n x0 x1 x2 x3 x4 x5 x6 x7 x8 x9 x10 x11 x12 x13 x14 x15 x16 x17 x18 x19 x20 x21 x22 x23 x24 x25 x26 x27:Eq (Zw (n+1) x0 x1 x2 x3 x4 x5 x6 x7 x8 x9 x10 x11 x12 x13 x14 x15 x16 x17 x18 x19 x20 x21 x22 x23 x24 x25 x26 x27) <| bif x27<x26 then bif 0≤x27 then match x25[x27.toNat]? with | none=>none | some e0=>bif 0≤wrap .u8 (e0.1 - 1) then bif toNat (wrap .u8 (e0.1 - 1))=nat_lit 6 then match Zj8 e0.2.1 with | none=>none | some e1=>bif e1.2.1 !=0 then some (((0,[],[],false,[],0,0,0,false,0,[],[],[],[],()),e1.2.1,())) else Zq n x0 x1 x2 x3 x4 x5 x6 x7 x8 x9 x10 x11 x12 x13 x14 x15 x16 x17 x18 x19 x20 x21 x22 x23 x24 e1.1.1 e1.1.2.1 e1.1.2.2.1 e1.1.2.2.2.1 e1.1.2.2.2.2.1 e1.1.2.2.2.2.2.1 e1.1.2.2.2.2.2.2.1 e1.1.2.2.2.2.2.2.2.1 e1.1.2.2.2.2.2.2.2.2.1 x25 x26 x27 else bif toNat (wrap .u8 (e0.1 - 1))=nat_lit 5 then match Zj7 e0.2.1 with | none=>none | some e1=>bif e1.2.1 !=0 then some (((0,[],[],false,[],0,0,0,false,0,[],[],[],[],()),e1.2.1,())) else Zq n x0 x1 x2 x3 x4 x5 x6 x7 x8 x9 x10 x11 x12 x13 x14 x15 x16 x17 x18 x19 x20 x21 x22 x23 x24 e1.1.1 e1.1.2.1 e1.1.2.2.1 e1.1.2.2.2.1 e1.1.2.2.2.2.1 e1.1.2.2.2.2.2.1 e1.1.2.2.2.2.2.2.1 e1.1.2.2.2.2.2.2.2.1 e1.1.2.2.2.2.2.2.2.2.1 x25 x26 x27 else bif toNat (wrap .u8 (e0.1 - 1))=nat_lit 4 then match Zxd e0.2.1 with | none=>none | some e1=>bif e1.2.1 !=0 then some (((0,[],[],false,[],0,0,0,false,0,[],[],[],[],()),e1.2.1,())) else Zq n x0 x1 x2 x3 x4 x5 x6 x7 x8 x9 x10 x11 x12 x13 x14 x15 x16 x17 x18 x19 x20 x21 x22 x23 x24 e1.1.1 e1.1.2.1 e1.1.2.2.1 e1.1.2.2.2.1 e1.1.2.2.2.2.1 e1.1.2.2.2.2.2.1 e1.1.2.2.2.2.2.2.1 e1.1.2.2.2.2.2.2.2.1 e1.1.2.2.2.2.2.2.2.2.1 x25 x26 x27 else bif toNat (wrap .u8 (e0.1 - 1))=nat_lit 3 then match Zj6 e0.2.1 (x0,x1,x2,x3,x4,x5,x6,x7,x8,x9,()) with | none=>none | some e1=>bif List.isEmpty e1.1.2.2.2.1 then bif List.isEmpty e1.1.2.2.2.2.2.1 then bif List.isEmpty e1.1.2.2.2.2.2.2.1 then bif List.isEmpty e1.1.2.2.2.2.2.2.2.1 then bif List.isEmpty e1.1.2.2.2.2.2.2.2.2.1 then bif e1.2.1 !=0 then some (((0,[],[],false,[],0,0,0,false,0,[],[],[],[],()),e1.2.1,())) else Zq n x0 x1 x2 x3 x4 x5 x6 x7 x8 x9 x10 x11 x12 x13 x14 x15 x16 x17 x18 x19 x20 x21 x22 x23 x24 e1.1.1 e1.1.2.1 e1.1.2.2.1 e1.1.2.2.2.1 e1.1.2.2.2.2.1 e1.1.2.2.2.2.2.1 e1.1.2.2.2.2.2.2.1 e1.1.2.2.2.2.2.2.2.1 e1.1.2.2.2.2.2.2.2.2.1 x25 x26 x27 else none else none else none else none else none else bif toNat (wrap .u8 (e0.1 - 1))=nat_lit 2 then match Zxc e0.2.1 with | none=>none | some e1=>bif e1.2.1 !=0 then some (((0,[],[],false,[],0,0,0,false,0,[],[],[],[],()),e1.2.1,())) else Zq n x0 x1 x2 x3 x4 x5 x6 x7 x8 x9 x10 x11 x12 x13 x14 x15 x16 x17 x18 x19 x20 x21 x22 x23 x24 e1.1.1 e1.1.2.1 e1.1.2.2.1 e1.1.2.2.2.1 e1.1.2.2.2.2.1 e1.1.2.2.2.2.2.1 e1.1.2.2.2.2.2.2.1 e1.1.2.2.2.2.2.2.2.1 e1.1.2.2.2.2.2.2.2.2.1 x25 x26 x27 else bif toNat (wrap .u8 (e0.1 - 1))=nat_lit 1 then match Zps e0.2.1 with | none=>none | some e1=>bif e1.2.1 !=0 then some (((0,[],[],false,[],0,0,0,false,0,[],[],[],[],()),e1.2.1,())) else Zq n x0 x1 x2 x3 x4 x5 x6 x7 x8 x9 x10 x11 x12 x13 x14 x15 x16 x17 x18 x19 x20 x21 x22 x23 x24 e1.1.1 e1.1.2.1 e1.1.2.2.1 e1.1.2.2.2.1 e1.1.2.2.2.2.1 e1.1.2.2.2.2.2.1 e1.1.2.2.2.2.2.2.1 e1.1.2.2.2.2.2.2.2.1 e1.1.2.2.2.2.2.2.2.2.1 x25 x26 x27 else bif toNat (wrap .u8 (e0.1 - 1))=nat_lit 0 then match Zj5 e0.2.1 (x10,()) with | none=>none | some e1=>bif List.isEmpty e1.1.2.2.2.1 then bif List.isEmpty e1.1.2.2.2.2.1 then bif List.isEmpty e1.1.2.2.2.2.2.1 then bif List.isEmpty e1.1.2.2.2.2.2.2.2.1 then bif List.isEmpty e1.1.2.2.2.2.2.2.2.2.1 then bif e1.2.1 !=0 then some (((0,[],[],false,[],0,0,0,false,0,[],[],[],[],()),e1.2.1,())) else Zq n x0 x1 x2 x3 x4 x5 x6 x7 x8 x9 x10 x11 x12 x13 x14 x15 x16 x17 x18 x19 x20 x21 x22 x23 x24 e1.1.1 e1.1.2.1 e1.1.2.2.1 e1.1.2.2.2.1 e1.1.2.2.2.2.1 e1.1.2.2.2.2.2.1 e1.1.2.2.2.2.2.2.1 e1.1.2.2.2.2.2.2.2.1 e1.1.2.2.2.2.2.2.2.2.1 x25 x26 x27 else none else none else none else none else none else none else none else none else Qs n x11 x12 x13 x14 x15 x16 x17 x18 x19 x20 x21 x22 x23 x24:=mkI (by kernel_rfl)
theorem Ztt n x0 x1 x2 x3 x4 x5 x6 x7 x8 x9 x10 x11 x12 x13 x14 x15 x16 x17 x18 x19 x20 x21 x22 x23 x24 x25 x26 x27 x28 x29 x30 x31 x32 x33 x34 x35 x36:Eq (Zq (n+1) x0 x1 x2 x3 x4 x5 x6 x7 x8 x9 x10 x11 x12 x13 x14 x15 x16 x17 x18 x19 x20 x21 x22 x23 x24 x25 x26 x27 x28 x29 x30 x31 x32 x33 x34 x35 x36) <| bif Zb (x24.length+List.length [(x25,x26,x27,x28,x29,x30,x31,x32,x33,())]) 168 then Zw n x0 x1 x2 x3 x4 x5 x6 x7 x8 x9 x10 x11 x12 x13 x14 x15 x16 x17 x18 x19 x20 x21 x22 x23 (x24++[(x25,x26,x27,x28,x29,x30,x31,x32,x33,())]) x34 x35 (wrap .i64 (x36+1)) else none:=mkI (by kernel_rfl)
theorem Zky n x0 x1 x2 x3 x4 x5 x6 x7 x8 x9 x10 x11 x12 x13 x14 x15 x16:Eq (Xa (n+1) x0 x1 x2 x3 x4 x5 x6 x7 x8 x9 x10 x11 x12 x13 x14 x15 x16) <| bif x16<x15 then bif 0≤x16 then match x14[x16.toNat]? with | none=>none | some e0=>match Zh2 e0.2.2.2.2.1 with | none=>none | some e1=>bif e1.2.1 !=0 then some (((0,[],[],false,[],0,0,0,false,0,[],[],[],[],()),e1.2.1,())) else bif Zb (x13.length+List.length [e1.1]) 32 then Xa n x0 x1 x2 x3 x4 x5 x6 x7 x8 x9 x10 x11 x12 (x13++[e1.1]) x14 x15 (wrap .i64 (x16+1)) else none else none else some (((x0,x1,x2,x3,x4,x5,x6,x7,x8,x9,x10,x11,x12,x13,()),0,())):=mkI (by kernel_rfl)
end Tg
