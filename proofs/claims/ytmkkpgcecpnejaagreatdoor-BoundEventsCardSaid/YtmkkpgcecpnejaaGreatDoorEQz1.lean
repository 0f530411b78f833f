import Derived.Test.YtmkkpgcecpnejaaGreatDoorEVb3
import Derived.Test.YtmkkpgcecpnejaaGreatDoorEXb6
/- Functions of the code, told plainly and checked by the kernel. -/
set_option linter.unusedVariables false
set_option linter.unusedSimpArgs false
set_option maxRecDepth 100000
namespace Tg
noncomputable section
open Go.Abs hiding fuel
open Go.Proofs.Tryz (prog)
open Int (ofNat toNat)
open Go.IntKind (wrap)
def Yna:Tb:=[]
def F46:TFun:=⟨[],[],[.c di],[.c (.p db)],qc [qn 2,qb,qn 6],[],[],0⟩
def Yes:=mkC Yna prog 46 F46
theorem ok46:Yes.ok prog 46:=mkO trivial
def Zev (a0:Int):Option (Bool×Unit):=Yes.fn (a0,())
theorem Z3m a0:Eq (Zev a0) <| bif a0>=(-1099511627776) then some (decide (a0<=1099511627776),()) else some (false,()):=mkE
def Yix:Tb:=[(46,Yes)]
def F16:TFun:=⟨[],[(6,qc [qn 10,[.c (.p (.sl Qq4))],qi,qi,qn 42])],[.c (.sl Qq4)],[.c (.p di)],qc [qn 2,qi,qn 52],[],[],0⟩
def Yet:=mkC Yix prog 16 F16
theorem ok16:Yet.ok prog 16:=mkO ⟨ok46,trivial⟩
def Zmn (a0:(List Qy6)):Option (Int×Unit):=Yet.fn (a0,())
def Zbk (n:Nat)(x0:(List Qy6))(x1 x2:Int):Option (Int×Unit):=itr Yix prog 16 F16 n 6 (x0,x1,x2,())
theorem Zzz a0:Eq (Zmn a0) <| bif ofNat a0.length>60 then some (4,()) else Zbk fuel a0 (ofNat a0.length) 0:=mkE
theorem Zl1 n x0 x1 x2:Eq (Zbk (n+1) x0 x1 x2) <| bif x2<x1 then bif 0<=x2 then match x0[x2.toNat]? with | none=>none | some e0=>let k2:Option (Int×Unit):=bif !e0.1 then some (8,()) else Zbk n x0 x1 (wrap .i64 (x2+1));let k4:=Zbk n x0 x1 (wrap .i64 (x2+1));let k6:Option (Int×Unit):=some (8,());bif e0.2.2.1==0&&(e0.2.2.2.1==0&&(e0.2.2.2.2.1==0&&true)) then match Zev e0.2.1 with | none=>none | some e1=>bif e1.1 then bif e0.2.1==0 then match Zev e0.2.2.2.1 with | none=>none | some e2=>bif e0.1 then bif !e0.1 then bif !e2.1 then k6 else k4 else k4 else bif !e0.1 then bif !e2.1 then k6 else k4 else k4 else bif e0.1 then k2 else k2 else bif e0.2.1==0 then match Zev e0.2.2.2.1 with | none=>none | some e2=>bif e0.1 then bif !e0.2.1==9223372036854775807 then k6 else bif !e0.1 then bif !e2.1 then k6 else k4 else k4 else bif !e0.1 then bif !e2.1 then k6 else k4 else k4 else bif e0.1 then bif !e0.2.1==9223372036854775807 then k6 else k2 else k2 else bif e0.2.1==0 then match Zev e0.2.2.2.1 with | none=>none | some e1=>bif e0.1 then k6 else bif !e0.1 then bif !e1.1 then k6 else k4 else k4 else bif e0.1 then k6 else k2 else none else some (0,()):=mkI
def Yeu:TCon:=Znk 71 5 40 Qq13
theorem ok19:Yeu.ok prog 19:=Zjh (zero:=[.p (.int .u8 0),.p (.int .i64 0),.p (.int .i64 0),.p (.int .i64 0),.p (.int .i64 0)]) (by kernel_rfl) rfl (by decide) rfl
def Z6f:TCon:=⟨[.c (.sl Qq13)],[.c (.p (.sl Qq13))],Yeu.fn⟩
theorem Yiy:Z6f.ok prog 19:=fun a r h=>TCon.frz (c:=Yeu) ok19 rfl a r h
def Yev:TCon:=Znk 3 1 8 Qq10
theorem ok20:Yev.ok prog 20:=Zjh (zero:=[.p (.int .i64 0)]) (by kernel_rfl) rfl (by decide) rfl
def Z6g:TCon:=⟨[.c (.sl Qq10)],[.c (.p (.sl Qq10))],Yev.fn⟩
theorem Yiz:Z6g.ok prog 20:=fun a r h=>TCon.frz (c:=Yev) ok20 rfl a r h
def Z8v:Tb:=[]
def F47:TFun:=⟨[2,5,8],[(2,qc [qn 1,[.boxN 27 10 [.any,.any,.any,.p db,.any,.any,.any,.any,.p db,.p (.int .u8)]],qn 1,[.c (.rowN 5 1 [.int .u8])],qn 37]),(5,qc [qn 1,[.boxN 27 10 [.any,.any,.any,.p db,.any,.any,.any,.any,.any,.p (.int .u8)]],qn 1,[.c (.rowN 5 1 [.int .u8])],qn 37]),(8,qc [qn 1,[.boxN 27 10 [.any,.any,.any,.any,.any,.any,.any,.any,.any,.p (.int .u8)]],qn 1,[.c (.rowN 5 1 [.int .u8])],qn 37])],[.a Qq11],[.c (.s 5 1 [.int .u8])],qc [qn 2,[.c (.rowN 5 1 [.int .u8])],qn 38],[],[],0⟩
def Z3n:=mkC Z8v prog 47 F47
theorem ok47:Z3n.ok prog 47:=mkO trivial
def Z6h:TCon:=⟨Z3n.args,[.c (.p (.sl [.int .u8]))],Z3n.fn⟩
theorem Yi0:Z6h.ok prog 47:=TCon.frz (c:=Z3n) ok47 rfl
def Zht (a0:Qy7):Option Qy11:=Z3n.fn (a0,())
def Zdn (n:Nat)(x0 x1:Bool)(x2:Int)(x3:Qy9):Option Qy11:=itr Z8v prog 47 F47 n 2 (x0,x1,x2,x3,())
def Zgn (n:Nat)(x0:Bool)(x1:Int)(x2:Qy9):Option Qy11:=itr Z8v prog 47 F47 n 5 (x0,x1,x2,())
def Zgo (n:Nat)(x0:Int)(x1:Qy9):Option Qy11:=itr Z8v prog 47 F47 n 8 (x0,x1,())
theorem Zz0 a0:Eq (Zht a0) <| bif ofNat a0.2.2.2.2.1.length>0 then Zdn fuel a0.2.2.2.1 a0.2.2.2.2.2.2.2.2.1 a0.2.2.2.2.2.2.2.2.2.1 ([(1,()),(2,())]++[(3,())]) else Zdn fuel a0.2.2.2.1 a0.2.2.2.2.2.2.2.2.1 a0.2.2.2.2.2.2.2.2.2.1 ([(1,()),(2,())]):=mkE
theorem Zvu n x0 x1 x2 x3:Eq (Zdn (n+1) x0 x1 x2 x3) <| bif Zc (x3.length+1) 1 then bif x1 then bif Zc (List.length (x3++[(4,())])+1) 1 then Zgn n x0 x2 (x3++[(4,())]++[(5,())]) else none else Zgn n x0 x2 (x3++[(4,())]) else none:=mkI
theorem Zvv n x0 x1 x2:Eq (Zgn (n+1) x0 x1 x2) <| bif Zc (x2.length+1) 1 then bif x0 then bif Zc (List.length (x2++[(6,())])+1) 1 then Zgo n x1 (x2++[(6,())]++[(8,())]) else none else bif Zc (List.length (x2++[(6,())])+1) 1 then Zgo n x1 (x2++[(6,())]++[(7,())]) else none else none:=mkI
theorem Zvw n x0 x1:Eq (Zgo (n+1) x0 x1) <| bif Zc (x1.length+1) 1 then bif x0==2 then bif Zc (List.length (x1++[(9,())])+1) 1 then some ((x1++[(9,())]++[(10,())],())) else none else some ((x1++[(9,())],())) else none:=mkI
def Ynb:Tb:=[(15,Zxo),(19,Z6f),(20,Z6g),(47,Z6h)]
def F17:TFun:=⟨[],[],[.a Qq11],[.a [.p (.sl [.int .u8]),.p (.int .u8),.p (.sl Qq5),.p (.sl Qq10),.p db,.p (.sl Qq5),.p (.int .u8),.p di,.p di,.p db,.p (.int .u8)],.c (.p di)],qc [qn 2,[.boxN 64 11 [.p (.sl [.int .u8]),.p (.int .u8),.p (.sl Qq5),.p (.sl Qq10),.p db,.p (.sl Qq5),.p (.int .u8),.p di,.p di,.p db,.p (.int .u8)]],qi,qn 27],[],[],0⟩
def Yew:=mkC Ynb prog 17 F17
theorem ok17:Yew.ok prog 17:=mkO ⟨ok15,Yiy,Yiz,Yi0,trivial⟩
def Zrd (a0:Qy7):Option (Qy8×Int×Unit):=Yew.fn (a0,())
theorem Yag a0:Eq (Zrd a0) <| match Qo a0 with | none=>none | some e0=>bif e0.2.1 !=0 then some ((([],0,[],[],false,[],0,0,0,false,0,()),e0.2.1,())) else match Zh 40 a0.2.1 with | none=>none | some e1=>match Zh 8 a0.2.2.1 with | none=>none | some e2=>match Zh 40 a0.2.2.2.2.1 with | none=>none | some e3=>match Zht (a0.1,e1.1,e2.1,a0.2.2.2.1,e3.1,a0.2.2.2.2.2) with | none=>none | some e4=>some ((e4.1,a0.1,e1.1,e2.1,a0.2.2.2.1,e3.1,a0.2.2.2.2.2),0,()):=mkE
def Yi1:Tb:=[]
def F70:TFun:=⟨[],[(6,qc [[.c (.p (.sl [.int .u8]))],[.c (.p (.sl [.int .u8]))],qn 10,qi,qi,qn 12])],[.c (.sl [.int .u8]),.c (.sl [.int .u8])],[.c (.p db)],qc [qn 4,qb,qn 21],[],[],0⟩
def Yex:=mkC Yi1 prog 70 F70
theorem ok70:Yex.ok prog 70:=mkO trivial
def Xu (a0 a1:Qy9):Option (Bool×Unit):=Yex.fn (a0,a1,())
def Yb (n:Nat)(x0 x1:Qy9)(x2 x3:Int):Option (Bool×Unit):=itr Yi1 prog 70 F70 n 6 (x0,x1,x2,x3,())
theorem Zd4 a0 a1:Eq (Xu a0 a1) <| bif ofNat a0.length !=ofNat a1.length then some (false,()) else Yb fuel a0 a1 (ofNat a0.length) 0:=mkE
theorem Zaf n x0 x1 x2 x3:Eq (Yb (n+1) x0 x1 x2 x3) <| bif x3<x2 then bif 0<=x3 then match x0[x3.toNat]? with | none=>none | some e0=>bif 0<=x3 then match x1[x3.toNat]? with | none=>none | some e1=>bif e0.1 !=e1.1 then some (false,()) else Yb n x0 x1 x2 (wrap .i64 (x3+1)) else none else none else some (true,()):=mkI
def Ync:Tb:=[(15,Zxo),(47,Z6h),(70,Yex)]
def F48:TFun:=⟨[],[],[.a Qq12],[.c (.p di)],qc [qn 2,qi,qn 18],[],[],0⟩
def Yey:=mkC Ync prog 48 F48
theorem ok48:Yey.ok prog 48:=mkO ⟨ok15,Yi0,ok70,trivial⟩
def Zfn (a0:Qy8):Option (Int×Unit):=Yey.fn (a0,())
theorem Zz1 a0:Eq (Zfn a0) <| match Qo a0.2 with | none=>none | some e0=>bif e0.2.1 !=0 then some (e0.2.1,()) else match Zht a0.2 with | none=>none | some e1=>match Xu a0.1 e1.1 with | none=>none | some e2=>bif !e2.1 then some (8,()) else some (0,()):=mkE
def Za5:Tb:=[(48,Yey)]
def F18:TFun:=⟨[13,25,38,52,54,66,78,93,86,99,114],[(13,qc [qn 1,qi,qn 1,[.boxN 64 11 [.any,.any,.any,.any,.p db,.any,.any,.any,.any,.p db,.p (.int .u8)]],qn 1,[.boxN 3 1 [.p di]],[.boxN 40 2 [.nil,.nil]],qn 2,qi,[.boxN 40 2 [.rowN 74 2 Qq9,.nil]],[.fnS 49 [.ptr 3 0]],[.fnS 50 [.ptr 3 0,.ptr 1 0]],qn 147]),(19,qc [[.c (.p (.int .u8))],qn 1,[.boxN 40 2 [.rowN 74 2 Qq9,.nil]],qn 5,[.c (.ptr 0 0)],qn 2,qi,qi,qn 13,qi,qn 1,[.boxN 64 11 [.any,.any,.any,.any,.p db,.any,.any,.any,.any,.p db,.p (.int .u8)]],qn 1,[.boxN 3 1 [.p di]],[.boxN 40 2 [.nil,.nil]],qn 2,qi,[.c (.ptr 0 0)],[.fnS 49 [.ptr 0 0]],[.fnS 50 [.ptr 0 0,.ptr 3 0]],qn 147]),(25,qc [qn 1,qi,qn 1,[.boxN 64 11 [.any,.any,.any,.any,.p db,.any,.any,.any,.any,.p db,.p (.int .u8)]],qn 1,[.boxN 3 1 [.p di]],[.boxN 40 2 [.nil,.nil]],qn 2,qi,[.boxN 40 2 [.rowN 74 2 Qq9,.nil]],[.fnS 49 [.ptr 3 0]],[.fnS 50 [.ptr 3 0,.ptr 1 0]],qi,qn 146]),(31,qc [[.c (.p (.int .u8))],qn 1,[.boxN 40 2 [.rowN 74 2 Qq9,.nil]],qn 3,qi,qn 1,[.c (.ptr 0 0)],qn 2,qi,qi,qn 13,qi,qn 1,[.boxN 64 11 [.any,.any,.any,.any,.p db,.any,.any,.any,.any,.p db,.p (.int .u8)]],qn 1,[.boxN 3 1 [.p di]],[.boxN 40 2 [.nil,.nil]],qn 2,qi,[.c (.ptr 0 0)],[.fnS 49 [.ptr 0 0]],[.fnS 50 [.ptr 0 0,.ptr 3 0]],qn 147]),(38,qc [qn 1,qi,qn 1,[.boxN 64 11 [.any,.any,.any,.any,.p db,.any,.any,.any,.any,.p db,.p (.int .u8)]],qn 1,[.boxN 3 1 [.p di]],[.boxN 40 2 [.nil,.nil]],qn 2,qi,[.boxN 40 2 [.rowN 74 2 Qq9,.nil]],[.fnS 49 [.ptr 3 0]],[.fnS 50 [.ptr 3 0,.ptr 1 0]],qi,qi,qn 145]),(45,qc [[.c (.p (.int .u8))],qn 1,[.boxN 40 2 [.rowN 74 2 Qq9,.nil]],qn 3,qi,qn 1,[.c (.ptr 0 0)],qn 2,qi,qi,qn 13,qi,qn 1,[.boxN 64 11 [.any,.any,.any,.any,.p db,.any,.any,.any,.any,.p db,.p (.int .u8)]],qn 1,[.boxN 3 1 [.p di]],[.boxN 40 2 [.nil,.nil]],qn 2,qi,[.c (.ptr 0 0)],[.fnS 49 [.ptr 0 0]],[.fnS 50 [.ptr 0 0,.ptr 3 0]],qi,qn 146]),(52,qc [qn 1,qi,qn 1,[.boxN 64 11 [.any,.any,.any,.any,.any,.any,.any,.any,.any,.p db,.p (.int .u8)]],qn 1,[.boxN 3 1 [.p di]],[.boxN 40 2 [.nil,.nil]],qn 2,qi,[.boxN 40 2 [.rowN 74 2 Qq9,.nil]],[.fnS 49 [.ptr 3 0]],[.fnS 50 [.ptr 3 0,.ptr 1 0]],qi,qi,[.c (.p (.int .u8))],qn 144]),(54,qc [qn 1,qi,qn 1,[.boxN 64 11 [.any,.any,.any,.any,.any,.any,.any,.any,.any,.p db,.p (.int .u8)]],qn 1,[.boxN 3 1 [.p di]],[.boxN 40 2 [.nil,.nil]],qn 2,qi,[.boxN 40 2 [.rowN 74 2 Qq9,.nil]],[.fnS 49 [.ptr 3 0]],[.fnS 50 [.ptr 3 0,.ptr 1 0]],qi,qi,qn 1,qi,qn 143]),(60,qc [[.c (.p (.int .u8))],qn 1,[.boxN 40 2 [.rowN 74 2 Qq9,.nil]],qn 3,qi,qn 1,[.c (.ptr 0 0)],qn 2,qi,qi,qn 13,qi,qn 1,[.boxN 64 11 [.any,.any,.any,.any,.any,.any,.any,.any,.any,.p db,.p (.int .u8)]],qn 1,[.boxN 3 1 [.p di]],[.boxN 40 2 [.nil,.nil]],qn 2,qi,[.c (.ptr 0 0)],[.fnS 49 [.ptr 0 0]],[.fnS 50 [.ptr 0 0,.ptr 3 0]],qi,qi,qn 145]),(66,qc [qn 1,qi,qn 1,[.boxN 64 11 [.any,.any,.any,.any,.any,.any,.any,.any,.any,.p db,.p (.int .u8)]],qn 1,[.boxN 3 1 [.p di]],[.boxN 40 2 [.nil,.nil]],qn 2,qi,[.boxN 40 2 [.rowN 74 2 Qq9,.nil]],[.fnS 49 [.ptr 3 0]],[.fnS 50 [.ptr 3 0,.ptr 1 0]],qi,qi,qn 1,qi,qi,qn 142]),(72,qc [[.c (.p (.int .u8))],qn 1,[.boxN 40 2 [.rowN 74 2 Qq9,.nil]],qn 3,qi,qn 1,[.c (.ptr 0 0)],qn 2,qi,qi,qn 13,qi,qn 1,[.boxN 64 11 [.any,.any,.any,.any,.any,.any,.any,.any,.any,.p db,.p (.int .u8)]],qn 1,[.boxN 3 1 [.p di]],[.boxN 40 2 [.nil,.nil]],qn 2,qi,[.c (.ptr 0 0)],[.fnS 49 [.ptr 0 0]],[.fnS 50 [.ptr 0 0,.ptr 3 0]],qi,qi,qn 1,qi,qn 143]),(78,qc [qn 1,qi,qn 1,[.boxN 64 11 [.any,.any,.any,.any,.any,.any,.any,.any,.any,.p db,.p (.int .u8)]],qn 1,[.boxN 3 1 [.p di]],[.boxN 40 2 [.nil,.nil]],qn 2,qi,[.boxN 40 2 [.rowN 74 2 Qq9,.rowN 89 5 Qq3]],[.fnS 49 [.ptr 3 0]],[.fnS 50 [.ptr 3 0,.ptr 1 0]],qi,qi,qn 1,qi,qi,qn 142]),(80,qc [qn 1,qi,qn 1,[.boxN 64 11 [.any,.any,.any,.any,.any,.any,.any,.any,.any,.p db,.p (.int .u8)]],qn 1,[.boxN 3 1 [.p di]],[.boxN 40 2 [.nil,.nil]],qn 2,qi,[.boxN 40 2 [.rowN 74 2 Qq9,.rowN 89 5 Qq3]],[.fnS 49 [.ptr 3 0]],[.fnS 50 [.ptr 3 0,.ptr 1 0]],qi,qi,qn 1,qi,qi,qn 54,qi,qi,qn 86]),(86,qc [qn 1,qi,qn 1,[.boxN 64 11 [.any,.any,.any,.any,.any,.any,.any,.any,.any,.p db,.p (.int .u8)]],qn 1,[.boxN 3 1 [.p di]],[.boxN 40 2 [.nil,.nil]],qn 2,qi,[.boxN 40 2 [.rowN 74 2 Qq9,.rowN 89 5 Qq3]],[.fnS 49 [.ptr 3 0]],[.fnS 50 [.ptr 3 0,.ptr 1 0]],qn 1,qi,qn 1,qi,qi,qn 142]),(88,qc [qn 1,qi,qn 1,[.boxN 64 11 [.any,.any,.any,.any,.any,.any,.any,.any,.any,.p db,.p (.int .u8)]],qn 1,[.boxN 3 1 [.p di]],[.boxN 40 2 [.nil,.nil]],qn 2,qi,[.boxN 40 2 [.rowN 74 2 Qq9,.rowN 89 5 Qq3]],[.fnS 49 [.ptr 3 0]],[.fnS 50 [.ptr 3 0,.ptr 1 0]],qi,qi,qn 1,qi,qi,qn 65,qi,qi,qn 75]),(93,qc [qn 1,qi,qn 1,[.boxN 64 11 [.any,.any,.any,.any,.any,.any,.any,.any,.any,.p db,.p (.int .u8)]],qn 1,[.boxN 3 1 [.p di]],[.boxN 40 2 [.nil,.nil]],qn 2,qi,[.boxN 40 2 [.rowN 74 2 Qq9,.rowN 89 5 Qq3]],[.fnS 49 [.ptr 3 0]],[.fnS 50 [.ptr 3 0,.ptr 1 0]],qi,qi,qn 1,qi,qi,qn 1,qi,qn 63,qi,qi,qn 75]),(99,qc [qn 1,qi,qn 1,[.boxN 64 11 [.any,.any,.any,.any,.any,.any,.any,.any,.any,.any,.p (.int .u8)]],qn 1,[.boxN 3 1 [.p di]],[.boxN 40 2 [.nil,.nil]],qn 3,[.boxN 40 2 [.rowN 74 2 Qq9,.rowN 89 5 Qq3]],[.fnS 49 [.ptr 3 0]],[.fnS 50 [.ptr 3 0,.ptr 1 0]],qn 3,qi,qi,qn 142]),(101,qc [qn 1,qi,qn 1,[.boxN 64 11 [.any,.any,.any,.any,.any,.any,.any,.any,.any,.p db,.p (.int .u8)]],qn 1,[.boxN 3 1 [.p di]],[.boxN 40 2 [.nil,.nil]],qn 3,[.boxN 40 2 [.rowN 74 2 Qq9,.rowN 89 5 Qq3]],[.fnS 49 [.ptr 3 0]],[.fnS 50 [.ptr 3 0,.ptr 1 0]],qn 1,qi,qn 1,qi,qi,qn 100,qi,qi,qn 40]),(107,qc [qn 1,qi,qn 1,[.boxN 64 11 [.any,.any,.any,.any,.any,.any,.any,.any,.any,.p db,.p (.int .u8)]],qn 1,[.boxN 3 1 [.p di]],[.boxN 40 2 [.nil,.nil]],qn 3,[.boxN 40 2 [.rowN 74 2 Qq9,.rowN 89 5 Qq3]],[.fnS 49 [.ptr 3 0]],[.fnS 50 [.ptr 3 0,.ptr 1 0]],qn 1,qi,qn 1,qi,qi,qn 2,qi,qn 97,qi,qi,qn 2,qi,qi,qn 36]),(114,qc [qn 3,[.boxN 64 11 [.any,.any,.any,.any,.any,.any,.any,.any,.any,.any,.p (.int .u8)]],qn 2,[.boxN 40 2 [.nil,.nil]],qn 3,[.boxN 40 2 [.rowN 74 2 Qq9,.rowN 89 5 Qq3]],[.fnS 49 [.ptr 2 0]],qn 148]),(116,qc [qn 3,[.boxN 64 11 [.any,.any,.any,.any,.any,.any,.any,.any,.any,.any,.p (.int .u8)]],qn 1,[.boxN 3 1 [.p di]],[.boxN 40 2 [.nil,.nil]],qn 3,[.boxN 40 2 [.rowN 74 2 Qq9,.rowN 89 5 Qq3]],[.fnS 49 [.ptr 3 0]],[.fnS 50 [.ptr 3 0,.ptr 1 0]],qn 3,qi,qi,qn 123,qi,qi,qn 17]),(129,qc [[.c (.p (.int .u8))],qn 1,[.boxN 40 2 [.rowN 74 2 Qq9,.rowN 89 5 Qq3]],qn 8,qi,qi,qn 18,[.boxN 40 2 [.nil,.nil]],qn 3,[.c (.ptr 0 0)],qn 149])],[.a Qq12,.c di,.c di],[.a [.s 74 2 Qq9,.s 89 5 Qq3],.c (.p di)],qc [qn 6,[.boxN 40 2 [.rowN 74 2 Qq9,.rowN 89 5 Qq3]],qi,qn 152],[(124,[49]),(121,[50]),(113,[50]),(98,[50]),(96,[50]),(95,[50]),(85,[50]),(67,[49]),(55,[49]),(40,[49]),(26,[49]),(14,[49])],[(19,[160]),(31,[160]),(45,[160]),(60,[160]),(72,[160]),(129,[160])],8⟩
def Z3o:=mkC Za5 prog 18 F18
theorem ok18:Z3o.ok prog 18:=mkO ⟨ok48,trivial⟩
def Yez:TCon:=⟨Z3o.args,[.a [.p (.sl Qq9),.p (.sl Qq3)],.c (.p di)],Z3o.fn⟩
theorem Ynd:Yez.ok prog 18:=TCon.frz (c:=Z3o) ok18 rfl
def Zn8 (a0:Qy8)(a1 a2:Int):Option Qy4:=Z3o.fn (a0,a1,a2,())
def Zhu (n:Nat)(x0:Int)(x1 x2:Bool)(x3 x4 x5:Int)(x6:Qy5):Option Qy4:=itr Za5 prog 18 F18 n 13 (x0,x1,x2,x3,x4,x5,x6,())
def Qv (n:Nat)(x0:Int)(x1:Qy5)(x2 x3 x4:Int)(x5 x6:Bool)(x7 x8 x9:Int):Option Qy4:=itr Za5 prog 18 F18 n 19 (x0,x1,x2,x3,x4,x5,x6,x7,x8,x9,())
def Zhv (n:Nat)(x0:Int)(x1 x2:Bool)(x3 x4 x5:Int)(x6:Qy5)(x7:Int):Option Qy4:=itr Za5 prog 18 F18 n 25 (x0,x1,x2,x3,x4,x5,x6,x7,())
def Zel (n:Nat)(x0:Int)(x1:Qy5)(x2 x3 x4 x5:Int)(x6 x7:Bool)(x8 x9 x10:Int):Option Qy4:=itr Za5 prog 18 F18 n 31 (x0,x1,x2,x3,x4,x5,x6,x7,x8,x9,x10,())
def Zem (n:Nat)(x0:Int)(x1 x2:Bool)(x3 x4 x5:Int)(x6:Qy5)(x7 x8:Int):Option Qy4:=itr Za5 prog 18 F18 n 38 (x0,x1,x2,x3,x4,x5,x6,x7,x8,())
def Zen (n:Nat)(x0:Int)(x1:Qy5)(x2 x3 x4 x5:Int)(x6 x7:Bool)(x8 x9 x10 x11:Int):Option Qy4:=itr Za5 prog 18 F18 n 45 (x0,x1,x2,x3,x4,x5,x6,x7,x8,x9,x10,x11,())
def Zeo (n:Nat)(x0:Int)(x1:Bool)(x2 x3 x4:Int)(x5:Qy5)(x6 x7 x8:Int):Option Qy4:=itr Za5 prog 18 F18 n 52 (x0,x1,x2,x3,x4,x5,x6,x7,x8,())
def Zhw (n:Nat)(x0:Int)(x1:Bool)(x2 x3 x4:Int)(x5:Qy5)(x6 x7 x8:Int):Option Qy4:=itr Za5 prog 18 F18 n 54 (x0,x1,x2,x3,x4,x5,x6,x7,x8,())
def Zep (n:Nat)(x0:Int)(x1:Qy5)(x2 x3 x4 x5:Int)(x6:Bool)(x7 x8 x9 x10 x11:Int):Option Qy4:=itr Za5 prog 18 F18 n 60 (x0,x1,x2,x3,x4,x5,x6,x7,x8,x9,x10,x11,())
def Zhx (n:Nat)(x0:Int)(x1:Bool)(x2 x3 x4:Int)(x5:Qy5)(x6 x7 x8 x9:Int):Option Qy4:=itr Za5 prog 18 F18 n 66 (x0,x1,x2,x3,x4,x5,x6,x7,x8,x9,())
def Zeq (n:Nat)(x0:Int)(x1:Qy5)(x2 x3 x4 x5:Int)(x6:Bool)(x7 x8 x9 x10 x11 x12:Int):Option Qy4:=itr Za5 prog 18 F18 n 72 (x0,x1,x2,x3,x4,x5,x6,x7,x8,x9,x10,x11,x12,())
def Zhy (n:Nat)(x0:Int)(x1:Bool)(x2 x3 x4:Int)(x5:Qy5)(x6:(List Qy2))(x7 x8 x9 x10:Int):Option Qy4:=itr Za5 prog 18 F18 n 78 (x0,x1,x2,x3,x4,x5,x6,x7,x8,x9,x10,())
def Zer (n:Nat)(x0:Int)(x1:Bool)(x2 x3 x4:Int)(x5:Qy5)(x6:(List Qy2))(x7 x8 x9 x10 x11 x12:Int):Option Qy4:=itr Za5 prog 18 F18 n 80 (x0,x1,x2,x3,x4,x5,x6,x7,x8,x9,x10,x11,x12,())
def Zhz (n:Nat)(x0:Int)(x1:Bool)(x2 x3 x4:Int)(x5:Qy5)(x6:(List Qy2))(x7 x8 x9:Int):Option Qy4:=itr Za5 prog 18 F18 n 86 (x0,x1,x2,x3,x4,x5,x6,x7,x8,x9,())
def Zco (n:Nat)(x0:Int)(x1:Bool)(x2 x3 x4:Int)(x5:Qy5)(x6:(List Qy2))(x7 x8 x9 x10 x11 x12:Int):Option Qy4:=itr Za5 prog 18 F18 n 88 (x0,x1,x2,x3,x4,x5,x6,x7,x8,x9,x10,x11,x12,())
def Zes (n:Nat)(x0:Int)(x1:Bool)(x2 x3 x4:Int)(x5:Qy5)(x6:(List Qy2))(x7 x8 x9 x10 x11 x12 x13:Int):Option Qy4:=itr Za5 prog 18 F18 n 93 (x0,x1,x2,x3,x4,x5,x6,x7,x8,x9,x10,x11,x12,x13,())
def Zh0 (n:Nat)(x0 x1 x2:Int)(x3:Qy5)(x4:(List Qy2))(x5 x6:Int):Option Qy4:=itr Za5 prog 18 F18 n 99 (x0,x1,x2,x3,x4,x5,x6,())
def Zdo (n:Nat)(x0:Int)(x1:Bool)(x2 x3:Int)(x4:Qy5)(x5:(List Qy2))(x6 x7 x8 x9 x10:Int):Option Qy4:=itr Za5 prog 18 F18 n 101 (x0,x1,x2,x3,x4,x5,x6,x7,x8,x9,x10,())
def Zbl (n:Nat)(x0:Int)(x1:Bool)(x2 x3:Int)(x4:Qy5)(x5:(List Qy2))(x6 x7 x8 x9 x10 x11 x12 x13:Int):Option Qy4:=itr Za5 prog 18 F18 n 107 (x0,x1,x2,x3,x4,x5,x6,x7,x8,x9,x10,x11,x12,x13,())
def Zgp (n:Nat)(x0:Int)(x1:Qy5)(x2:(List Qy2)):Option Qy4:=itr Za5 prog 18 F18 n 114 (x0,x1,x2,())
def Zdp (n:Nat)(x0 x1:Int)(x2:Qy5)(x3:(List Qy2))(x4 x5 x6 x7:Int):Option Qy4:=itr Za5 prog 18 F18 n 116 (x0,x1,x2,x3,x4,x5,x6,x7,())
def Zdq (n:Nat)(x0:Int)(x1:Qy5)(x2:(List Qy2))(x3 x4:Int):Option Qy4:=itr Za5 prog 18 F18 n 129 (x0,x1,x2,x3,x4,())
theorem Z6i a0 a1 a2:Eq (Zn8 a0 a1 a2) <| match Zfn a0 with | none=>none | some e0=>bif e0.1 !=0 then some ((([],[],()),e0.1,())) else let k1:=some ((([],[],()),2,()));bif a1<1 then k1 else bif a1>3 then k1 else bif a2<1 then k1 else bif a2>8 then k1 else Qv fuel 1 ([]) (ofNat a0.2.2.2.1.length) 0 a1 a0.2.2.2.2.1 a0.2.2.2.2.2.2.2.2.2.1 a0.2.2.2.2.2.2.2.2.2.2.1 a2 (ofNat a0.2.2.2.1.length):=mkE
theorem Zz2 n x0 x1 x2 x3 x4 x5 x6:Eq (Zhu (n+1) x0 x1 x2 x3 x4 x5 x6) <| Zel n 2 x6 (ofNat x6.length) x5 0 x0 x1 x2 x3 x4 x5:=mkI
theorem Zz3 n x0 x1 x2 x3 x4 x5 x6 x7 x8 x9:Eq (Qv (n+1) x0 x1 x2 x3 x4 x5 x6 x7 x8 x9) <| bif x3<x2 then bif Zc (x1.length+List.length [(x0,x3,())]) 16 then Qv n x0 (x1++[(x0,x3,())]) x2 (wrap .i64 (x3+1)) x4 x5 x6 x7 x8 x9 else none else Zhu n x4 x5 x6 x7 x8 x9 x1:=mkI
theorem Zz4 n x0 x1 x2 x3 x4 x5 x6 x7:Eq (Zhv (n+1) x0 x1 x2 x3 x4 x5 x6 x7) <| bif x2 then Zen n 3 x6 (ofNat x6.length) x5 0 x0 x1 x2 x3 x4 x5 x7 else Zem n 1 x1 x2 x3 x4 x5 x6 x7 x7:=mkI
theorem Zz5 n x0 x1 x2 x3 x4 x5 x6 x7 x8 x9 x10:Eq (Zel (n+1) x0 x1 x2 x3 x4 x5 x6 x7 x8 x9 x10) <| bif x4<x3 then bif Zc (x1.length+List.length [(x0,x4,())]) 16 then Zel n x0 (x1++[(x0,x4,())]) x2 x3 (wrap .i64 (x4+1)) x5 x6 x7 x8 x9 x10 else none else Zhv n x5 x6 x7 x8 x9 x10 x1 x2:=mkI
theorem Zz6 n x0 x1 x2 x3 x4 x5 x6 x7 x8:Eq (Zem (n+1) x0 x1 x2 x3 x4 x5 x6 x7 x8) <| bif x1 then Zeo n x0 x2 x3 x4 x5 x6 x7 x8 5 else Zeo n x0 x2 x3 x4 x5 x6 x7 x8 4:=mkI
theorem Zz7 n x0 x1 x2 x3 x4 x5 x6 x7 x8 x9 x10 x11:Eq (Zen (n+1) x0 x1 x2 x3 x4 x5 x6 x7 x8 x9 x10 x11) <| bif x4<x3 then bif Zc (x1.length+List.length [(x0,x4,())]) 16 then Zen n x0 (x1++[(x0,x4,())]) x2 x3 (wrap .i64 (x4+1)) x5 x6 x7 x8 x9 x10 x11 else none else Zem n x5 x6 x7 x8 x9 x10 x1 x11 x2:=mkI
theorem Zz8 n x0 x1 x2 x3 x4 x5 x6 x7 x8:Eq (Zeo (n+1) x0 x1 x2 x3 x4 x5 x6 x7 x8) <| Zep n x8 x5 (ofNat x5.length) x0 0 x0 x1 x2 x3 x4 x6 x7:=mkI
theorem Zz9 n x0 x1 x2 x3 x4 x5 x6 x7 x8:Eq (Zhw (n+1) x0 x1 x2 x3 x4 x5 x6 x7 x8) <| Zeq n 6 x5 (ofNat x5.length) 1 0 x0 x1 x2 x3 x4 x6 x7 x8:=mkI
theorem Z0a n x0 x1 x2 x3 x4 x5 x6 x7 x8 x9 x10 x11:Eq (Zep (n+1) x0 x1 x2 x3 x4 x5 x6 x7 x8 x9 x10 x11) <| bif x4<x3 then bif Zc (x1.length+List.length [(x0,x4,())]) 16 then Zep n x0 (x1++[(x0,x4,())]) x2 x3 (wrap .i64 (x4+1)) x5 x6 x7 x8 x9 x10 x11 else none else Zhw n x5 x6 x7 x8 x9 x1 x10 x11 x2:=mkI
theorem Z0b n x0 x1 x2 x3 x4 x5 x6 x7 x8 x9:Eq (Zhx (n+1) x0 x1 x2 x3 x4 x5 x6 x7 x8 x9) <| Zer n x0 x1 x2 x3 x4 x5 ([]) x6 x7 x8 x9 x4 0:=mkI
theorem Z0c n x0 x1 x2 x3 x4 x5 x6 x7 x8 x9 x10 x11 x12:Eq (Zeq (n+1) x0 x1 x2 x3 x4 x5 x6 x7 x8 x9 x10 x11 x12) <| bif x4<x3 then bif Zc (x1.length+List.length [(x0,x4,())]) 16 then Zeq n x0 (x1++[(x0,x4,())]) x2 x3 (wrap .i64 (x4+1)) x5 x6 x7 x8 x9 x10 x11 x12 else none else Zhx n x5 x6 x7 x8 x9 x1 x10 x11 x12 x2:=mkI
theorem Z0d n x0 x1 x2 x3 x4 x5 x6 x7 x8 x9 x10:Eq (Zhy (n+1) x0 x1 x2 x3 x4 x5 x6 x7 x8 x9 x10) <| Zco n x0 x1 x2 x3 x4 x5 x6 x7 x8 x9 x10 x4 0:=mkI
theorem Z0e n x0 x1 x2 x3 x4 x5 x6 x7 x8 x9 x10 x11 x12:Eq (Zer (n+1) x0 x1 x2 x3 x4 x5 x6 x7 x8 x9 x10 x11 x12) <| bif x12<x11 then bif Zc (x6.length+List.length [(x12,0,wrap .i64 (x7+x12),0,x3,())]) 40 then Zer n x0 x1 x2 x3 x4 x5 (x6++[(x12,0,wrap .i64 (x7+x12),0,x3,())]) x7 x8 x9 x10 x11 (wrap .i64 (x12+1)) else none else Zhy n x0 x1 x2 x3 x4 x5 x6 x7 x8 x9 x10:=mkI
theorem Z0f n x0 x1 x2 x3 x4 x5 x6 x7 x8 x9:Eq (Zhz (n+1) x0 x1 x2 x3 x4 x5 x6 x7 x8 x9) <| Zdo n x0 x1 x2 x3 x5 x6 x7 x8 x9 x4 0:=mkI
theorem Z0g n x0 x1 x2 x3 x4 x5 x6 x7 x8 x9 x10 x11 x12:Eq (Zco (n+1) x0 x1 x2 x3 x4 x5 x6 x7 x8 x9 x10 x11 x12) <| bif x12<x11 then bif x1 then bif Zc (x6.length+List.length [(wrap .i64 (x7+x12),0,wrap .i64 (x8+x12),0,x3,())]) 40 then Zes n x0 x1 x2 x3 x4 x5 (x6++[(wrap .i64 (x7+x12),0,wrap .i64 (x8+x12),0,x3,())]) x7 x8 x9 x10 x12 x11 x12 else none else bif Zc (x6.length+List.length [(wrap .i64 (x7+x12),0,x9,x12,x3,())]) 40 then Zes n x0 x1 x2 x3 x4 x5 (x6++[(wrap .i64 (x7+x12),0,x9,x12,x3,())]) x7 x8 x9 x10 x12 x11 x12 else none else Zhz n x0 x1 x2 x3 x4 x5 x6 x8 x9 x10:=mkI
theorem Z0h n x0 x1 x2 x3 x4 x5 x6 x7 x8 x9 x10 x11 x12 x13:Eq (Zes (n+1) x0 x1 x2 x3 x4 x5 x6 x7 x8 x9 x10 x11 x12 x13) <| bif x2==2 then bif Zc (x6.length+List.length [(wrap .i64 (x7+x11),1,wrap .i64 (x10+1),x11,x3,())]) 40 then Zco n x0 x1 x2 x3 x4 x5 (x6++[(wrap .i64 (x7+x11),1,wrap .i64 (x10+1),x11,x3,())]) x7 x8 x9 x10 x12 (wrap .i64 (x13+1)) else none else Zco n x0 x1 x2 x3 x4 x5 x6 x7 x8 x9 x10 x12 (wrap .i64 (x13+1)):=mkI
theorem Z0i n x0 x1 x2 x3 x4 x5 x6:Eq (Zh0 (n+1) x0 x1 x2 x3 x4 x5 x6) <| Zdp n x1 x2 x3 x4 x5 x6 x0 0:=mkI
theorem Zvx n x0 x1 x2 x3 x4 x5 x6 x7 x8 x9 x10:Eq (Zdo (n+1) x0 x1 x2 x3 x4 x5 x6 x7 x8 x9 x10) <| bif x10<x9 then Zbl n x0 x1 x2 x3 x4 x5 x6 x7 x8 x10 x9 x10 x0 0 else Zh0 n x0 x2 x3 x4 x5 x7 x8:=mkI
theorem Zvy n x0 x1 x2 x3 x4 x5 x6 x7 x8 x9 x10 x11 x12 x13:Eq (Zbl (n+1) x0 x1 x2 x3 x4 x5 x6 x7 x8 x9 x10 x11 x12 x13) <| bif x13<x12 then bif x1 then bif Zc (x5.length+List.length [(wrap .i64 (x6+x9),x13,wrap .i64 (x7+x13),x9,x3,())]) 40 then Zbl n x0 x1 x2 x3 x4 (x5++[(wrap .i64 (x6+x9),x13,wrap .i64 (x7+x13),x9,x3,())]) x6 x7 x8 x9 x10 x11 x12 (wrap .i64 (x13+1)) else none else Zbl n x0 x1 x2 x3 x4 x5 x6 x7 x8 x9 x10 x11 x12 (wrap .i64 (x13+1)) else Zdo n x0 x1 x2 x3 x4 x5 x6 x7 x8 x10 (wrap .i64 (x11+1)):=mkI
theorem Zvz n x0 x1 x2:Eq (Zgp (n+1) x0 x1 x2) <| bif x0==2 then Zdq n 7 x1 x2 1 0 else some (((x1,x2,()),0,())):=mkI
theorem Zv0 n x0 x1 x2 x3 x4 x5 x6 x7:Eq (Zdp (n+1) x0 x1 x2 x3 x4 x5 x6 x7) <| bif x7<x6 then bif Zc (x3.length+List.length [(wrap .i64 (x4+x7),0,x5,x7,x1,())]) 40 then Zdp n x0 x1 x2 (x3++[(wrap .i64 (x4+x7),0,x5,x7,x1,())]) x4 x5 x6 (wrap .i64 (x7+1)) else none else Zgp n x0 x2 x3:=mkI
theorem Zv1 n x0 x1 x2 x3 x4:Eq (Zdq (n+1) x0 x1 x2 x3 x4) <| bif x4<x3 then bif Zc (x1.length+List.length [(x0,x4,())]) 16 then Zdq n x0 (x1++[(x0,x4,())]) x2 x3 (wrap .i64 (x4+1)) else none else some (((x1,x2,()),0,())):=mkI
def Yi2:TCon:=Znk 32 5 40 Qq14
theorem ok54:Yi2.ok prog 54:=Zjh (zero:=[.p (.bool false),.p (.int .i64 0),.p (.int .i64 0),.p (.int .i64 0),.p (.int .i64 0)]) (by kernel_rfl) rfl (by decide) rfl
def Yi3:Tb:=[(52,Z8b),(54,Yi2)]
def F22:TFun:=⟨[],[(17,qc [[.c (.p (.sl Qq4))],[.c (.fn 51 [])],qn 5,qi,qi,qn 19,qi,[.c (.p (.sl Qq4))],qn 2,[.boxN 81 9 [.any,.any,.any,.nil,.nil,.nil,.nil,.nil,.nil]],qn 22])],[.c di,.c (.sl Qq4)],[.a [.p (.int .u8),.p di,.p di,.p (.sl Qq2),.p (.sl Qq10),.p (.sl Qq1),.s 32 5 Qq4,.p (.sl Qq3),.p (.sl Qq6)],.c (.p di)],qc [qn 4,[.boxN 81 9 [.p (.int .u8),.p di,.p di,.p (.sl Qq2),.p (.sl Qq10),.p (.sl Qq1),.rowN 32 5 Qq4,.p (.sl Qq3),.p (.sl Qq6)]],qi,qn 21],[(23,[51]),(13,[72]),(10,[53])],[(17,[9,27])],8⟩
def Ye0:=mkC Yi3 prog 22 F22
theorem ok22:Ye0.ok prog 22:=mkO ⟨ok52,ok54,trivial⟩
def Zmo (a0:Int)(a1:(List Qy6)):Option Qy10:=Ye0.fn (a0,a1,())
def Zcp (n:Nat)(x0:(List Qy6))(x1 x2 x3:Int)(x4:(List Qy6)):Option Qy10:=itr Yi3 prog 22 F22 n 17 (x0,x1,x2,x3,x4,())
theorem Z0j a0 a1:Eq (Zmo a0 a1) <| let k1:Option Qy10:=some (((0,0,0,[],[],[],[],[],[],()),2,()));bif a0<0 then k1 else bif a0>=4 then k1 else bif ofNat a1.length>60 then some (((0,0,0,[],[],[],[],[],[],()),4,())) else Zcp fuel a1 (ofNat a1.length) 0 a0 a1:=mkE
theorem Zkk n x0 x1 x2 x3 x4:Eq (Zcp (n+1) x0 x1 x2 x3 x4) <| bif x2<x1 then bif 0<=x2 then match x0[x2.toNat]? with | none=>none | some e0=>match Zbh e0 with | none=>none | some e1=>bif e1.1 !=0 then bif x2>=0 then some (((0,0,0,[],[],[],[],[],[],()),8,())) else match Zh 40 x4 with | none=>none | some e2=>some (((1,x3,0,[],[],[],e2.1,[],[],()),0,())) else Zcp n x0 x1 (wrap .i64 (x2+1)) x3 x4 else none else match Zh 40 x4 with | none=>none | some e0=>some (((1,x3,0,[],[],[],e0.1,[],[],()),0,())):=mkI
def Ykv:Tb:=[]
def F110:TFun:=⟨[],[],[.c (.int .u32),.c (.int .u32)],[.c (.p (.int .u32)),.c (.p (.int .u32))],qc [qn 4,[.c (.p (.int .u32))],[.c (.p (.int .u32))],qn 11],[],[],0⟩
def Ye1:=mkC Ykv prog 110 F110
theorem Yne:Ye1.ok prog 110:=mkO trivial
def Ykw:Tb:=[]
def F111:TFun:=⟨[],[],[.c (.int .u64),.c (.int .u64)],[.c (.p (.int .u64)),.c (.p (.int .u64))],qc [qn 4,[.c (.p (.int .u64))],[.c (.p (.int .u64))],qn 45],[],[],0⟩
def Z6j:=mkC Ykw prog 111 F111
theorem Ynf:Z6j.ok prog 111:=mkO trivial
def Zim (a0 a1:Int):Option (Int×Int×Unit):=Z6j.fn (a0,a1,())
theorem Zn9 a0 a1:Eq (Zim a0 a1) <| some ((wrap .u64 (wrap .u64 (wrap .u64 (Int.fdiv a0 4294967296*Int.fdiv a1 4294967296)+Int.fdiv (wrap .u64 (wrap .u64 (Int.fdiv a0 4294967296*Go.bits Go.BinOp.and Go.IntKind.u64 a1 4294967295)+Int.fdiv (wrap .u64 (Go.bits Go.BinOp.and Go.IntKind.u64 a0 4294967295*Go.bits Go.BinOp.and Go.IntKind.u64 a1 4294967295)) 4294967296)) 4294967296)+Int.fdiv (wrap .u64 (Go.bits Go.BinOp.and Go.IntKind.u64 (wrap .u64 (wrap .u64 (Int.fdiv a0 4294967296*Go.bits Go.BinOp.and Go.IntKind.u64 a1 4294967295)+Int.fdiv (wrap .u64 (Go.bits Go.BinOp.and Go.IntKind.u64 a0 4294967295*Go.bits Go.BinOp.and Go.IntKind.u64 a1 4294967295)) 4294967296)) 4294967295+wrap .u64 (Go.bits Go.BinOp.and Go.IntKind.u64 a0 4294967295*Int.fdiv a1 4294967296))) 4294967296),wrap .u64 (a0*a1),())):=mkE
def Yng:Tb:=[(110,Ye1),(111,Z6j)]
def F89:TFun:=⟨[],[],[.c (.int .u64),.c (.int .u64)],[.c (.p (.int .u64)),.c (.p (.int .u64))],qc [qn 4,[.c (.p (.int .u64))],[.c (.p (.int .u64))],qn 24],[],[],0⟩
def Ye2:=mkC Yng prog 89 F89
theorem ok89:Ye2.ok prog 89:=mkO ⟨Yne,Ynf,trivial⟩
def Zgq (a0 a1:Int):Option (Int×Int×Unit):=Ye2.fn (a0,a1,())
theorem Zqu a0 a1:Eq (Zgq a0 a1) <| match Zim a0 a1 with | none=>none | some e0=>some e0:=mkE
def Z8w:Tb:=[(89,Ye2)]
def F73:TFun:=⟨[1,5],[(1,qc [[.c (.p (.sl Qq10))],qi,qn 46]),(5,qc [[.c (.p (.sl Qq10))],qn 5,[.c (.p (.int .u64))],qn 41]),(10,qc [qn 7,[.c (.rowN 2 1 Qq10)],qi,qn 39])],[.c (.sl Qq10),.c di],[.c (.s 2 1 Qq10)],qc [qn 4,[.c (.rowN 2 1 Qq10)],qn 43],[],[],0⟩
def Ye3:=mkC Z8w prog 73 F73
theorem ok73:Ye3.ok prog 73:=mkO ⟨ok89,trivial⟩
def Zao (a0:Qy9)(a1:Int):Option Qy11:=Ye3.fn (a0,a1,())
def Yx (n:Nat)(x0:Qy9)(x1:Int):Option Qy11:=itr Z8w prog 73 F73 n 1 (x0,x1,())
def Yy (n:Nat)(x0:Qy9)(x1:Int):Option Qy11:=itr Z8w prog 73 F73 n 5 (x0,x1,())
def Z9 (n:Nat)(x0:Qy9)(x1:Int):Option Qy11:=itr Z8w prog 73 F73 n 10 (x0,x1,())
theorem Zda a0 a1:Eq (Zao a0 a1) <| bif a1<0 then none else Yx fuel a0 a1:=mkE
theorem Zct n x0 x1:Eq (Yx (n+1) x0 x1) <| match Zgq (wrap .u64 (ofNat x0.length)) (wrap .u64 x1) with | none=>none | some e0=>bif e0.1>0 then none else bif e0.2.1>9223372036854775807 then none else Yy n x0 e0.2.1:=mkI
theorem Zcu n x0 x1:Eq (Yy (n+1) x0 x1) <| bif 0<=wrap .i64 x1 then bif 0<=wrap .i64 x1 then bif decide (toNat (wrap .i64 x1)<=toNat (wrap .i64 x1))&&(decide (8*toNat (wrap .i64 x1)<=281474976710656)&&decide (toNat (wrap .i64 x1)<=9223372036854775807)) then Z9 n (List.take (min x0.length (List.length (List.replicate (α:=Int×Unit) (toNat (wrap .i64 x1)) (0,())))) x0++List.drop (min x0.length (List.length (List.replicate (α:=Int×Unit) (toNat (wrap .i64 x1)) (0,())))) (List.replicate (toNat (wrap .i64 x1)) (0,()))) (ofNat (min x0.length (List.length (List.replicate (α:=Int×Unit) (toNat (wrap .i64 x1)) (0,()))))) else none else none else none:=mkI
theorem Zcq n x0 x1:Eq (Z9 (n+1) x0 x1) <| bif x1<ofNat x0.length then bif 0<=x1 then bif x1.toNat<=x0.length then bif x1.toNat=x0.length then bif 0<=x1 then bif decide (0<=x1.toNat)&&decide (x1.toNat<=x0.length) then none else none else none else bif 0<=x1 then bif decide (0<=x1.toNat)&&decide (x1.toNat<=x0.length) then bif x1.toNat+(x0.length - x1.toNat)<=x0.length then Z9 n (List.take x1.toNat x0++(List.take (min (List.length (List.take x1.toNat (List.drop 0 x0))) (x0.length - x1.toNat)) (List.take x1.toNat (List.drop 0 x0))++List.drop (x1.toNat+min (List.length (List.take x1.toNat (List.drop 0 x0))) (x0.length - x1.toNat)) x0)) (wrap .i64 (x1+ofNat (min (List.length (List.take x1.toNat (List.drop 0 x0))) (x0.length - x1.toNat)))) else none else none else none else none else none else some (x0,()):=mkI
def Ynh:Tb:=[(73,Ye3)]
def F55:TFun:=⟨[],[],[.c di],[.c (.s 2 1 Qq10),.c (.p di)],qc [qn 2,[.c (.rowN 2 1 Qq10)],qi,qn 9],[],[],0⟩
def Z8x:=mkC Ynh prog 55 F55
theorem ok55:Z8x.ok prog 55:=mkO ⟨ok73,trivial⟩
def Zg3 (a0:Int):Option (List (Int×Unit)×Int×Unit):=Z8x.fn (a0,())
theorem Z3p a0:Eq (Zg3 a0) <| bif a0<1 then some ([],2,()) else bif a0>4 then some ([],2,()) else match Zao [((-9223372036854775808),())] a0 with | none=>none | some e0=>some (e0.1,0,()):=mkE
def Yni:Tb:=[(55,Z8x)]
def F26:TFun:=⟨[],[],[.c di,.c di],[.a [.p (.int .u8),.p di,.p di,.p (.sl Qq2),.s 2 1 Qq10,.p (.sl Qq1),.p (.sl Qq4),.p (.sl Qq3),.p (.sl Qq6)],.c (.p di)],qc [qn 4,[.boxN 81 9 [.p (.int .u8),.p di,.p di,.p (.sl Qq2),.rowN 2 1 Qq10,.p (.sl Qq1),.p (.sl Qq4),.p (.sl Qq3),.p (.sl Qq6)]],qi,qn 22],[],[],0⟩
def Ye4:=mkC Yni prog 26 F26
theorem ok26:Ye4.ok prog 26:=mkO ⟨ok55,trivial⟩
def Z0k (a0 a1:Int):Option Qy10:=Ye4.fn (a0,a1,())
theorem Yah a0 a1:Eq (Z0k a0 a1) <| match Zg3 a1 with | none=>none | some e0=>let k1:Option Qy10:=some (((0,0,0,[],[],[],[],[],[],()),2,()));bif e0.2.1 !=0 then k1 else bif a0<0 then k1 else bif a0>=3 then k1 else some (((4,a0,0,[],e0.1,[],[],[],[],()),0,())):=mkE
def Ynj:Tb:=[]
def F23:TFun:=⟨[],[],[.c di],[.a [.p (.int .u8),.p di,.p di,.p (.sl Qq2),.s 2 1 Qq10,.p (.sl Qq1),.p (.sl Qq4),.p (.sl Qq3),.p (.sl Qq6)],.c (.p di)],qc [qn 2,[.boxN 81 9 [.p (.int .u8),.p di,.p di,.p (.sl Qq2),.rowN 2 1 Qq10,.p (.sl Qq1),.p (.sl Qq4),.p (.sl Qq3),.p (.sl Qq6)]],qi,qn 11],[],[],0⟩
def Z3q:=mkC Ynj prog 23 F23
theorem ok23:Z3q.ok prog 23:=mkO trivial
def Ye5:TCon:=⟨Z3q.args,[.a [.p (.int .u8),.p di,.p di,.p (.sl Qq2),.p (.sl Qq10),.p (.sl Qq1),.p (.sl Qq4),.p (.sl Qq3),.p (.sl Qq6)],.c (.p di)],Z3q.fn⟩
theorem Ynk:Ye5.ok prog 23:=TCon.frz (c:=Z3q) ok23 rfl
def Zmp (a0:Int):Option Qy10:=Z3q.fn (a0,())
theorem Z0l a0:Eq (Zmp a0) <| let k1:Option Qy10:=some (((0,0,0,[],[],[],[],[],[],()),2,()));bif a0<0 then k1 else bif a0>=4 then k1 else some (((2,a0,0,[],[((-9223372036854775808),())],[],[],[],[],()),0,())):=mkE
def Ynl:Tb:=[]
def F24:TFun:=⟨[],[],[.c di],[.a [.p (.int .u8),.p di,.p di,.p (.sl Qq2),.p (.sl Qq10),.p (.sl Qq1),.p (.sl Qq4),.p (.sl Qq3),.p (.sl Qq6)],.c (.p di)],qc [qn 2,[.boxN 81 9 [.p (.int .u8),.p di,.p di,.p (.sl Qq2),.p (.sl Qq10),.p (.sl Qq1),.p (.sl Qq4),.p (.sl Qq3),.p (.sl Qq6)]],qi,qn 10],[],[],0⟩
def Ye6:=mkC Ynl prog 24 F24
theorem ok24:Ye6.ok prog 24:=mkO trivial
def Zt9 (a0:Int):Option Qy10:=Ye6.fn (a0,())
theorem Z6k a0:Eq (Zt9 a0) <| let k1:Option Qy10:=some (((0,0,0,[],[],[],[],[],[],()),2,()));bif a0<0 then k1 else bif a0>=4 then k1 else some (((3,a0,0,[],[],[],[],[],[],()),0,())):=mkE
def Ynm:Tb:=[(55,Z8x)]
def F27:TFun:=⟨[],[],[.c di],[.a [.p (.int .u8),.p di,.p di,.p (.sl Qq2),.s 2 1 Qq10,.p (.sl Qq1),.p (.sl Qq4),.p (.sl Qq3),.p (.sl Qq6)],.c (.p di)],qc [qn 2,[.boxN 81 9 [.p (.int .u8),.p di,.p di,.p (.sl Qq2),.rowN 2 1 Qq10,.p (.sl Qq1),.p (.sl Qq4),.p (.sl Qq3),.p (.sl Qq6)]],qi,qn 17],[],[],0⟩
def Z3r:=mkC Ynm prog 27 F27
theorem ok27:Z3r.ok prog 27:=mkO ⟨ok55,trivial⟩
def Ye7:TCon:=⟨Z3r.args,[.a [.p (.int .u8),.p di,.p di,.p (.sl Qq2),.p (.sl Qq10),.p (.sl Qq1),.p (.sl Qq4),.p (.sl Qq3),.p (.sl Qq6)],.c (.p di)],Z3r.fn⟩
theorem Ynn:Ye7.ok prog 27:=TCon.frz (c:=Z3r) ok27 rfl
def Zua (a0:Int):Option Qy10:=Z3r.fn (a0,())
theorem Z6l a0:Eq (Zua a0) <| let k1:Option Qy10:=some (((0,0,0,[],[],[],[],[],[],()),2,()));bif a0<0 then k1 else bif a0>=3 then k1 else match Zg3 2 with | none=>none | some e0=>some (((5,a0,0,[],e0.1,[],[],[],[],()),0,())):=mkE
def Yno:Tb:=[]
def F29:TFun:=⟨[],[],[.c db],[.a [.p (.int .u8),.p di,.p di,.p (.sl Qq2),.p (.sl Qq10),.p (.sl Qq1),.p (.sl Qq4),.p (.sl Qq3),.p (.sl Qq6)]],qc [qn 2,[.boxN 81 9 [.p (.int .u8),.p di,.p di,.p (.sl Qq2),.p (.sl Qq10),.p (.sl Qq1),.p (.sl Qq4),.p (.sl Qq3),.p (.sl Qq6)]],qn 5],[],[],0⟩
def Z8y:=mkC Yno prog 29 F29
theorem ok29:Z8y.ok prog 29:=mkO trivial
def Zub (a0:Bool):Option (Qy1×Unit):=Z8y.fn (a0,())
theorem Zuc a0:Eq (Zub a0) <| bif a0 then some (((7,0,0,[],[],[],[],[],[],()),())) else some (((6,0,0,[],[],[],[],[],[],()),())):=mkE
def Ynp:Tb:=[]
def F31:TFun:=⟨[],[],[.c di],[.a [.p di,.p (.sl Qq7)],.c (.p di)],qc [qn 2,[.boxN 92 2 [.p di,.p (.sl Qq7)]],qi,qn 9],[],[],0⟩
def Ye8:=mkC Ynp prog 31 F31
theorem ok31:Ye8.ok prog 31:=mkO trivial
def Zgb (a0:Int):Option ((Int×List (Int×Int×Int×Int×Int×Int×Int×Int×Int×Int×Unit)×Unit)×Int×Unit):=Ye8.fn (a0,())
theorem Zv2 a0:Eq (Zgb a0) <| bif a0<1 then some (((0,[],()),2,())) else bif a0>8 then some (((0,[],()),2,())) else some (((a0,[],()),0,())):=mkE
def Ynq:Tb:=[(22,Ye0)]
def F21:TFun:=⟨[],[],[.c di,.q [.sl [.sl Qq4]]],[.a [.p (.int .u8),.p di,.p di,.p (.sl Qq2),.p (.sl Qq10),.p (.sl Qq1),.s 32 5 Qq4,.p (.sl Qq3),.p (.sl Qq6)],.c (.p di)],qc [qn 3,[.boxN 81 9 [.p (.int .u8),.p di,.p di,.p (.sl Qq2),.p (.sl Qq10),.p (.sl Qq1),.rowN 32 5 Qq4,.p (.sl Qq3),.p (.sl Qq6)]],qi,qn 8],[],[],0⟩
def Ye9:=mkC Ynq prog 21 F21
theorem ok21:Ye9.ok prog 21:=mkO ⟨ok22,trivial⟩
def Zh1 (a0:Int)(a1:(List (List Qy6×Unit)×Unit)):Option Qy10:=Ye9.fn (a0,a1,())
theorem Zud a0 a1:Eq (Zh1 a0 a1) <| bif 0<=a0 then match a1.1[a0.toNat]? with | none=>none | some e0=>match Zmo a0 e0.1 with | none=>none | some e1=>some (e1.1,e1.2.1,()) else none:=mkE
def Ynr:Tb:=[(26,Ye4)]
def F25:TFun:=⟨[],[],[.c di,.q Qq11],[.a [.p (.int .u8),.p di,.p di,.p (.sl Qq2),.s 2 1 Qq10,.p (.sl Qq1),.p (.sl Qq4),.p (.sl Qq3),.p (.sl Qq6)],.c (.p di)],qc [qn 3,[.boxN 81 9 [.p (.int .u8),.p di,.p di,.p (.sl Qq2),.rowN 2 1 Qq10,.p (.sl Qq1),.p (.sl Qq4),.p (.sl Qq3),.p (.sl Qq6)]],qi,qn 7],[],[],0⟩
def Yfa:=mkC Ynr prog 25 F25
theorem ok25:Yfa.ok prog 25:=mkO ⟨ok26,trivial⟩
def Zh2 (a0:Int)(a1:Qy7):Option Qy10:=Yfa.fn (a0,a1,())
theorem Zue a0 a1:Eq (Zh2 a0 a1) <| match Z0k a0 (ofNat a1.2.2.1.length) with | none=>none | some e0=>some (e0.1,e0.2.1,()):=mkE
def Yns:Tb:=[(29,Z8y)]
def F28:TFun:=⟨[],[],[.c di],[.a [.p (.int .u8),.p di,.p di,.p (.sl Qq2),.p (.sl Qq10),.p (.sl Qq1),.p (.sl Qq4),.p (.sl Qq3),.p (.sl Qq6)],.c (.p di)],qc [qn 2,[.boxN 81 9 [.p (.int .u8),.p di,.p di,.p (.sl Qq2),.p (.sl Qq10),.p (.sl Qq1),.p (.sl Qq4),.p (.sl Qq3),.p (.sl Qq6)]],qi,qn 1],[],[],0⟩
def Yfb:=mkC Yns prog 28 F28
theorem ok28:Yfb.ok prog 28:=mkO ⟨ok29,trivial⟩
def Zh3 (a0:Int):Option Qy10:=Yfb.fn (a0,())
theorem Zuf a0:Eq (Zh3 a0) <| match Zub false with | none=>none | some e0=>some (e0.1,0,()):=mkE
def Ynt:Tb:=[(29,Z8y)]
def F30:TFun:=⟨[],[],[.c di],[.a [.p (.int .u8),.p di,.p di,.p (.sl Qq2),.p (.sl Qq10),.p (.sl Qq1),.p (.sl Qq4),.p (.sl Qq3),.p (.sl Qq6)],.c (.p di)],qc [qn 2,[.boxN 81 9 [.p (.int .u8),.p di,.p di,.p (.sl Qq2),.p (.sl Qq10),.p (.sl Qq1),.p (.sl Qq4),.p (.sl Qq3),.p (.sl Qq6)]],qi,qn 1],[],[],0⟩
def Yfc:=mkC Ynt prog 30 F30
theorem ok30:Yfc.ok prog 30:=mkO ⟨ok29,trivial⟩
def Zh4 (a0:Int):Option Qy10:=Yfc.fn (a0,())
theorem Zug a0:Eq (Zh4 a0) <| match Zub true with | none=>none | some e0=>some (e0.1,0,()):=mkE
def tab7:Tb:=[(15,Zxo),(16,Yet),(17,Yew),(18,Yez),(19,Z6f),(20,Z6g),(21,Ye9),(25,Yfa),(23,Ye5),(24,Ye6),(27,Ye7),(28,Yfb),(30,Yfc),(31,Ye8)]
def F7:TFun:=⟨[9,11,33,35,41,46],[(9,qc [qn 2,qi,qi,[.boxN 27 10 [.p (.int .u8),.p (.sl Qq5),.p (.sl Qq10),.p db,.p (.sl Qq5),.p (.int .u8),.p di,.p di,.p db,.p (.int .u8)]],[.boxN 28 1 [.p (.sl [.sl Qq4])]],qn 2,[.boxN 44 14 [.any,.nil,.nil,.any,.nil,.any,.any,.any,.any,.any,.nil,.nil,.nil,.nil]],qn 140]),(11,qc [qn 2,qi,qi,[.boxN 27 10 [.p (.int .u8),.p (.sl Qq5),.p (.sl Qq10),.p db,.p (.sl Qq5),.p (.int .u8),.p di,.p di,.p db,.p (.int .u8)]],[.boxN 28 1 [.p (.sl [.sl Qq4])]],qn 2,[.boxN 44 14 [.any,.nil,.nil,.any,.nil,.any,.any,.any,.any,.any,.nil,.nil,.nil,.nil]],qn 35,[.c (.p (.sl [.sl Qq4]))],qi,qi,qn 102]),(33,qc [qn 8,[.boxN 44 14 [.any,.nil,.nil,.any,.nil,.any,.any,.any,.any,.any,.nil,.nil,.nil,.nil]],qn 8,[.boxN 40 2 [.any,.p (.sl Qq3)]],[.boxN 44 14 [.p (.int .u8),.p (.sl Qq5),.p (.sl Qq10),.p db,.p (.sl Qq5),.p (.int .u8),.p di,.p di,.p db,.p (.int .u8),.p (.sl Qq9),.p (.sl Qq3),.rowN 81 9 Qq8,.nil]],qn 130]),(35,qc [qn 4,[.boxN 27 10 [.p (.int .u8),.p (.sl Qq5),.p (.sl Qq10),.p db,.p (.sl Qq5),.p (.int .u8),.p di,.p di,.p db,.p (.int .u8)]],[.boxN 28 1 [.p (.sl [.sl Qq4])]],qn 2,[.boxN 44 14 [.any,.nil,.nil,.any,.nil,.any,.any,.any,.any,.any,.nil,.nil,.nil,.nil]],qn 8,[.boxN 40 2 [.any,.p (.sl Qq3)]],[.boxN 44 14 [.p (.int .u8),.p (.sl Qq5),.p (.sl Qq10),.p db,.p (.sl Qq5),.p (.int .u8),.p di,.p di,.p db,.p (.int .u8),.p (.sl Qq9),.p (.sl Qq3),.rowN 81 9 Qq8,.nil]],[.boxN 87 7 [.fnp 21 1 0,.fn 23 [],.fn 24 [],.fnp 25 0 0,.fn 27 [],.fn 28 [],.fn 30 []]],qn 76,[.c (.p (.sl Qq9))],qi,qi,qn 50]),(41,qc [qn 4,[.boxN 27 10 [.p (.int .u8),.p (.sl Qq5),.p (.sl Qq10),.p db,.p (.sl Qq5),.p (.int .u8),.p di,.p di,.p db,.p (.int .u8)]],[.boxN 28 1 [.p (.sl [.sl Qq4])]],qn 2,[.boxN 44 14 [.any,.nil,.nil,.any,.nil,.any,.any,.any,.any,.any,.nil,.nil,.nil,.nil]],qn 8,[.boxN 40 2 [.any,.p (.sl Qq3)]],[.boxN 44 14 [.p (.int .u8),.p (.sl Qq5),.p (.sl Qq10),.p db,.p (.sl Qq5),.p (.int .u8),.p di,.p di,.p db,.p (.int .u8),.p (.sl Qq9),.p (.sl Qq3),.rowN 81 9 Qq8,.nil]],[.boxN 87 7 [.fnp 21 1 0,.fn 23 [],.fn 24 [],.fnp 25 0 0,.fn 27 [],.fn 28 [],.fn 30 []]],qn 2,[.boxN 81 9 [.p (.int .u8),.p di,.p di,.p (.sl Qq2),.p (.sl Qq10),.p (.sl Qq1),.p (.sl Qq4),.p (.sl Qq3),.p (.sl Qq6)]],qn 73,[.c (.p (.sl Qq9))],qi,qi,qn 50]),(46,qc [qn 8,[.boxN 44 14 [.any,.nil,.nil,.any,.nil,.any,.any,.any,.any,.any,.nil,.nil,.nil,.nil]],qn 9,[.boxN 44 14 [.p (.int .u8),.p (.sl Qq5),.p (.sl Qq10),.p db,.p (.sl Qq5),.p (.int .u8),.p di,.p di,.p db,.p (.int .u8),.p (.sl Qq9),.p (.sl Qq3),.rowN 81 9 Qq8,.rowN 92 2 [.int .i64,.sl Qq7]]],qn 106,[.c (.p (.sl Qq3))],qi,qi,qn 21])],[.a Qq11,.c (.sl [.sl Qq4]),.c di,.c di],[.a [.p (.int .u8),.p (.sl Qq5),.p (.sl Qq10),.p db,.p (.sl Qq5),.p (.int .u8),.p di,.p di,.p db,.p (.int .u8),.p (.sl Qq9),.p (.sl Qq3),.s 81 9 Qq8,.s 92 2 [.int .i64,.sl Qq7]],.c (.p di)],qc [qn 8,[.boxN 44 14 [.p (.int .u8),.p (.sl Qq5),.p (.sl Qq10),.p db,.p (.sl Qq5),.p (.int .u8),.p di,.p di,.p db,.p (.int .u8),.p (.sl Qq9),.p (.sl Qq3),.rowN 81 9 Qq8,.rowN 92 2 [.int .i64,.sl Qq7]]],qi,qn 139],[],[],0⟩
def con7:=mkC tab7 prog 7 F7
theorem ok7:con7.ok prog 7:=mkO ⟨ok15,ok16,ok17,Ynd,Yiy,Yiz,ok21,ok25,Ynk,ok24,Ynn,ok28,ok30,ok31,trivial⟩
def Ynu:TCon:=⟨con7.args,[.a [.p (.int .u8),.p (.sl Qq5),.p (.sl Qq10),.p db,.p (.sl Qq5),.p (.int .u8),.p di,.p di,.p db,.p (.int .u8),.p (.sl Qq9),.p (.sl Qq3),.p (.sl Qq8),.p (.sl [.int .i64,.sl Qq7])],.c (.p di)],con7.fn⟩
theorem ok7p:Ynu.ok prog 7:=TCon.frz (c:=con7) ok7 rfl
def Zqb (a0:Qy7)(a1:(List (List Qy6×Unit)))(a2 a3:Int):Option Qy3:=con7.fn (a0,a1,a2,a3,())
def Yh (n:Nat)(x0 x1 x2:Int)(x3:(List Qy2))(x4:Qy9)(x5:Bool)(x6:(List Qy2))(x7 x8 x9:Int)(x10:Bool)(x11:Int)(x12:(List (List Qy6×Unit))):Option Qy3:=itr tab7 prog 7 F7 n 9 (x0,x1,x2,x3,x4,x5,x6,x7,x8,x9,x10,x11,x12,())
def Yu (n:Nat)(x0 x1 x2:Int)(x3:(List Qy2))(x4:Qy9)(x5:Bool)(x6:(List Qy2))(x7 x8 x9:Int)(x10:Bool)(x11:Int)(x12 x13:(List (List Qy6×Unit)))(x14 x15:Int):Option Qy3:=itr tab7 prog 7 F7 n 11 (x0,x1,x2,x3,x4,x5,x6,x7,x8,x9,x10,x11,x12,x13,x14,x15,())
def Qi (n:Nat)(x0:(List Qy2))(x1:Int)(x2:(List Qy2))(x3:Qy9)(x4:Bool)(x5:(List Qy2))(x6 x7 x8:Int)(x9:Bool)(x10:Int)(x11:Qy5)(x12:(List Qy2))(x13:(List Qy1)):Option Qy3:=itr tab7 prog 7 F7 n 33 (x0,x1,x2,x3,x4,x5,x6,x7,x8,x9,x10,x11,x12,x13,())
def Zz (n:Nat)(x0:Int)(x1:(List Qy2))(x2:Qy9)(x3:Bool)(x4:(List Qy2))(x5 x6 x7:Int)(x8:Bool)(x9:Int)(x10:(List (List Qy6×Unit)))(x11:(List Qy2))(x12:Int)(x13:(List Qy2))(x14:Qy9)(x15:Bool)(x16:(List Qy2))(x17 x18 x19:Int)(x20:Bool)(x21:Int)(x22:Qy5)(x23:(List Qy2))(x24:(List Qy1))(x25:Qy5)(x26 x27:Int):Option Qy3:=itr tab7 prog 7 F7 n 35 (x0,x1,x2,x3,x4,x5,x6,x7,x8,x9,x10,x11,x12,x13,x14,x15,x16,x17,x18,x19,x20,x21,x22,x23,x24,x25,x26,x27,())
def Zq (n:Nat)(x0:Int)(x1:(List Qy2))(x2:Qy9)(x3:Bool)(x4:(List Qy2))(x5 x6 x7:Int)(x8:Bool)(x9:Int)(x10:(List (List Qy6×Unit)))(x11:(List Qy2))(x12:Int)(x13:(List Qy2))(x14:Qy9)(x15:Bool)(x16:(List Qy2))(x17 x18 x19:Int)(x20:Bool)(x21:Int)(x22:Qy5)(x23:(List Qy2))(x24:(List Qy1))(x25 x26 x27:Int)(x28:(List (Int×Int×Int×Int×Int×Int×Int×Int×Int×Int×Int×Unit)))(x29:Qy9)(x30:(List (Int×Int×Int×Int×Int×Int×Int×Int×Int×Int×Int×Unit)))(x31:(List Qy6))(x32:(List Qy2))(x33:(List (Int×Int×Int×Unit)))(x34:Qy5)(x35 x36:Int):Option Qy3:=itr tab7 prog 7 F7 n 41 (x0,x1,x2,x3,x4,x5,x6,x7,x8,x9,x10,x11,x12,x13,x14,x15,x16,x17,x18,x19,x20,x21,x22,x23,x24,x25,x26,x27,x28,x29,x30,x31,x32,x33,x34,x35,x36,())
def Yv (n:Nat)(x0:Int)(x1:(List Qy2))(x2:Qy9)(x3:Bool)(x4:(List Qy2))(x5 x6 x7:Int)(x8:Bool)(x9:Int)(x10:Qy5)(x11:(List Qy2))(x12:(List Qy1))(x13:(List (Int×List (Int×Int×Int×Int×Int×Int×Int×Int×Int×Int×Unit)×Unit)))(x14:(List Qy2))(x15 x16:Int):Option Qy3:=itr tab7 prog 7 F7 n 46 (x0,x1,x2,x3,x4,x5,x6,x7,x8,x9,x10,x11,x12,x13,x14,x15,x16,())
theorem Zv3 a0 a1 a2 a3:Eq (Zqb a0 a1 a2 a3) <| match Qo a0 with | none=>none | some e0=>bif e0.2.1 !=0 then some (((0,[],[],false,[],0,0,0,false,0,[],[],[],[],()),e0.2.1,())) else bif ofNat a1.length !=ofNat a0.2.2.1.length then some (((0,[],[],false,[],0,0,0,false,0,[],[],[],[],()),2,())) else Yu fuel a2 a3 a0.1 a0.2.1 a0.2.2.1 a0.2.2.2.1 a0.2.2.2.2.1 a0.2.2.2.2.2.1 a0.2.2.2.2.2.2.1 a0.2.2.2.2.2.2.2.1 a0.2.2.2.2.2.2.2.2.1 a0.2.2.2.2.2.2.2.2.2.1 a1 a1 (ofNat a1.length) 0:=mkE
theorem Zuh n x0 x1 x2 x3 x4 x5 x6 x7 x8 x9 x10 x11 x12:Eq (Yh (n+1) x0 x1 x2 x3 x4 x5 x6 x7 x8 x9 x10 x11 x12) <| match Zrd (x2,x3,x4,x5,x6,x7,x8,x9,x10,x11,()) with | none=>none | some e0=>bif e0.2.1 !=0 then some (((0,[],[],false,[],0,0,0,false,0,[],[],[],[],()),e0.2.1,())) else match Zn8 e0.1 x0 x1 with | none=>none | some e1=>bif e1.2.1 !=0 then some (((0,[],[],false,[],0,0,0,false,0,[],[],[],[],()),e1.2.1,())) else match Zh 40 x3 with | none=>none | some e2=>match Zh 40 x6 with | none=>none | some e3=>match Zh 8 x4 with | none=>none | some e4=>Zz n x2 e2.1 e4.1 x5 e3.1 x7 x8 x9 x10 x11 x12 e1.1.2.1 x2 e2.1 e4.1 x5 e3.1 x7 x8 x9 x10 x11 e1.1.1 e1.1.2.1 ([]) e1.1.1 (ofNat e1.1.1.length) 0:=mkI
theorem Zin n x0 x1 x2 x3 x4 x5 x6 x7 x8 x9 x10 x11 x12 x13 x14 x15:Eq (Yu (n+1) x0 x1 x2 x3 x4 x5 x6 x7 x8 x9 x10 x11 x12 x13 x14 x15) <| bif x15<x14 then bif 0<=x15 then match x13[x15.toNat]? with | none=>none | some e0=>match Zmn e0.1 with | none=>none | some e1=>bif e1.1 !=0 then some (((0,[],[],false,[],0,0,0,false,0,[],[],[],[],()),e1.1,())) else Yu n x0 x1 x2 x3 x4 x5 x6 x7 x8 x9 x10 x11 x12 x13 x14 (wrap .i64 (x15+1)) else none else Yh n x0 x1 x2 x3 x4 x5 x6 x7 x8 x9 x10 x11 x12:=mkI
theorem Zqv n x0 x1 x2 x3 x4 x5 x6 x7 x8 x9 x10 x11 x12 x13:Eq (Qi (n+1) x0 x1 x2 x3 x4 x5 x6 x7 x8 x9 x10 x11 x12 x13) <| Yv n x1 x2 x3 x4 x5 x6 x7 x8 x9 x10 x11 x12 x13 ([]) x0 (ofNat x0.length) 0:=mkI
theorem Zio n x0 x1 x2 x3 x4 x5 x6 x7 x8 x9 x10 x11 x12 x13 x14 x15 x16 x17 x18 x19 x20 x21 x22 x23 x24 x25 x26 x27:Eq (Zz (n+1) x0 x1 x2 x3 x4 x5 x6 x7 x8 x9 x10 x11 x12 x13 x14 x15 x16 x17 x18 x19 x20 x21 x22 x23 x24 x25 x26 x27) <| bif x27<x26 then bif 0<=x27 then match x25[x27.toNat]? with | none=>none | some e0=>bif 0<=wrap .u8 (e0.1 - 1) then bif toNat (wrap .u8 (e0.1 - 1))=nat_lit 6 then match Zh4 e0.2.1 with | none=>none | some e1=>bif e1.2.1 !=0 then some (((0,[],[],false,[],0,0,0,false,0,[],[],[],[],()),e1.2.1,())) else Zq n x0 x1 x2 x3 x4 x5 x6 x7 x8 x9 x10 x11 x12 x13 x14 x15 x16 x17 x18 x19 x20 x21 x22 x23 x24 e1.1.1 e1.1.2.1 e1.1.2.2.1 e1.1.2.2.2.1 e1.1.2.2.2.2.1 e1.1.2.2.2.2.2.1 e1.1.2.2.2.2.2.2.1 e1.1.2.2.2.2.2.2.2.1 e1.1.2.2.2.2.2.2.2.2.1 x25 x26 x27 else bif toNat (wrap .u8 (e0.1 - 1))=nat_lit 5 then match Zh3 e0.2.1 with | none=>none | some e1=>bif e1.2.1 !=0 then some (((0,[],[],false,[],0,0,0,false,0,[],[],[],[],()),e1.2.1,())) else Zq n x0 x1 x2 x3 x4 x5 x6 x7 x8 x9 x10 x11 x12 x13 x14 x15 x16 x17 x18 x19 x20 x21 x22 x23 x24 e1.1.1 e1.1.2.1 e1.1.2.2.1 e1.1.2.2.2.1 e1.1.2.2.2.2.1 e1.1.2.2.2.2.2.1 e1.1.2.2.2.2.2.2.1 e1.1.2.2.2.2.2.2.2.1 e1.1.2.2.2.2.2.2.2.2.1 x25 x26 x27 else bif toNat (wrap .u8 (e0.1 - 1))=nat_lit 4 then match Zua e0.2.1 with | none=>none | some e1=>bif e1.2.1 !=0 then some (((0,[],[],false,[],0,0,0,false,0,[],[],[],[],()),e1.2.1,())) else Zq n x0 x1 x2 x3 x4 x5 x6 x7 x8 x9 x10 x11 x12 x13 x14 x15 x16 x17 x18 x19 x20 x21 x22 x23 x24 e1.1.1 e1.1.2.1 e1.1.2.2.1 e1.1.2.2.2.1 e1.1.2.2.2.2.1 e1.1.2.2.2.2.2.1 e1.1.2.2.2.2.2.2.1 e1.1.2.2.2.2.2.2.2.1 e1.1.2.2.2.2.2.2.2.2.1 x25 x26 x27 else bif toNat (wrap .u8 (e0.1 - 1))=nat_lit 3 then match Zh2 e0.2.1 (x0,x1,x2,x3,x4,x5,x6,x7,x8,x9,()) with | none=>none | some e1=>bif List.isEmpty e1.1.2.2.2.1 then bif List.isEmpty e1.1.2.2.2.2.2.1 then bif List.isEmpty e1.1.2.2.2.2.2.2.1 then bif List.isEmpty e1.1.2.2.2.2.2.2.2.1 then bif List.isEmpty e1.1.2.2.2.2.2.2.2.2.1 then bif e1.2.1 !=0 then some (((0,[],[],false,[],0,0,0,false,0,[],[],[],[],()),e1.2.1,())) else Zq n x0 x1 x2 x3 x4 x5 x6 x7 x8 x9 x10 x11 x12 x13 x14 x15 x16 x17 x18 x19 x20 x21 x22 x23 x24 e1.1.1 e1.1.2.1 e1.1.2.2.1 e1.1.2.2.2.1 e1.1.2.2.2.2.1 e1.1.2.2.2.2.2.1 e1.1.2.2.2.2.2.2.1 e1.1.2.2.2.2.2.2.2.1 e1.1.2.2.2.2.2.2.2.2.1 x25 x26 x27 else none else none else none else none else none else bif toNat (wrap .u8 (e0.1 - 1))=nat_lit 2 then match Zt9 e0.2.1 with | none=>none | some e1=>bif e1.2.1 !=0 then some (((0,[],[],false,[],0,0,0,false,0,[],[],[],[],()),e1.2.1,())) else Zq n x0 x1 x2 x3 x4 x5 x6 x7 x8 x9 x10 x11 x12 x13 x14 x15 x16 x17 x18 x19 x20 x21 x22 x23 x24 e1.1.1 e1.1.2.1 e1.1.2.2.1 e1.1.2.2.2.1 e1.1.2.2.2.2.1 e1.1.2.2.2.2.2.1 e1.1.2.2.2.2.2.2.1 e1.1.2.2.2.2.2.2.2.1 e1.1.2.2.2.2.2.2.2.2.1 x25 x26 x27 else bif toNat (wrap .u8 (e0.1 - 1))=nat_lit 1 then match Zmp e0.2.1 with | none=>none | some e1=>bif e1.2.1 !=0 then some (((0,[],[],false,[],0,0,0,false,0,[],[],[],[],()),e1.2.1,())) else Zq n x0 x1 x2 x3 x4 x5 x6 x7 x8 x9 x10 x11 x12 x13 x14 x15 x16 x17 x18 x19 x20 x21 x22 x23 x24 e1.1.1 e1.1.2.1 e1.1.2.2.1 e1.1.2.2.2.1 e1.1.2.2.2.2.1 e1.1.2.2.2.2.2.1 e1.1.2.2.2.2.2.2.1 e1.1.2.2.2.2.2.2.2.1 e1.1.2.2.2.2.2.2.2.2.1 x25 x26 x27 else bif toNat (wrap .u8 (e0.1 - 1))=nat_lit 0 then match Zh1 e0.2.1 (x10,()) with | none=>none | some e1=>bif List.isEmpty e1.1.2.2.2.1 then bif List.isEmpty e1.1.2.2.2.2.1 then bif List.isEmpty e1.1.2.2.2.2.2.1 then bif List.isEmpty e1.1.2.2.2.2.2.2.2.1 then bif List.isEmpty e1.1.2.2.2.2.2.2.2.2.1 then bif e1.2.1 !=0 then some (((0,[],[],false,[],0,0,0,false,0,[],[],[],[],()),e1.2.1,())) else Zq n x0 x1 x2 x3 x4 x5 x6 x7 x8 x9 x10 x11 x12 x13 x14 x15 x16 x17 x18 x19 x20 x21 x22 x23 x24 e1.1.1 e1.1.2.1 e1.1.2.2.1 e1.1.2.2.2.1 e1.1.2.2.2.2.1 e1.1.2.2.2.2.2.1 e1.1.2.2.2.2.2.2.1 e1.1.2.2.2.2.2.2.2.1 e1.1.2.2.2.2.2.2.2.2.1 x25 x26 x27 else none else none else none else none else none else none else none else none else Qi n x11 x12 x13 x14 x15 x16 x17 x18 x19 x20 x21 x22 x23 x24:=mkI
theorem Zqw n x0 x1 x2 x3 x4 x5 x6 x7 x8 x9 x10 x11 x12 x13 x14 x15 x16 x17 x18 x19 x20 x21 x22 x23 x24 x25 x26 x27 x28 x29 x30 x31 x32 x33 x34 x35 x36:Eq (Zq (n+1) x0 x1 x2 x3 x4 x5 x6 x7 x8 x9 x10 x11 x12 x13 x14 x15 x16 x17 x18 x19 x20 x21 x22 x23 x24 x25 x26 x27 x28 x29 x30 x31 x32 x33 x34 x35 x36) <| bif Zc (x24.length+List.length [(x25,x26,x27,x28,x29,x30,x31,x32,x33,())]) 168 then Zz n x0 x1 x2 x3 x4 x5 x6 x7 x8 x9 x10 x11 x12 x13 x14 x15 x16 x17 x18 x19 x20 x21 x22 x23 (x24++[(x25,x26,x27,x28,x29,x30,x31,x32,x33,())]) x34 x35 (wrap .i64 (x36+1)) else none:=mkI
theorem Zip n x0 x1 x2 x3 x4 x5 x6 x7 x8 x9 x10 x11 x12 x13 x14 x15 x16:Eq (Yv (n+1) x0 x1 x2 x3 x4 x5 x6 x7 x8 x9 x10 x11 x12 x13 x14 x15 x16) <| bif x16<x15 then bif 0<=x16 then match x14[x16.toNat]? with | none=>none | some e0=>match Zgb e0.2.2.2.2.1 with | none=>none | some e1=>bif e1.2.1 !=0 then some (((0,[],[],false,[],0,0,0,false,0,[],[],[],[],()),e1.2.1,())) else bif Zc (x13.length+List.length [e1.1]) 32 then Yv n x0 x1 x2 x3 x4 x5 x6 x7 x8 x9 x10 x11 x12 (x13++[e1.1]) x14 x15 (wrap .i64 (x16+1)) else none else none else some (((x0,x1,x2,x3,x4,x5,x6,x7,x8,x9,x10,x11,x12,x13,()),0,())):=mkI
end
end Tg
