import Derived.Test.YtdppkfgoiagepaaGreatDoorBVT
/- Functions of the code, told plainly and checked by the kernel. -/
set_option linter.unusedVariables false
set_option linter.unusedSimpArgs false
set_option maxRecDepth 100000
namespace Tg
open Go.Abs hiding fuel
open Go.Proofs.Tryz (prog)
open Int (ofNat toNat)
open Go.IntKind (wrap)
noncomputable def Ycj:Tb:=[]
def F83:TFun:=⟨[],[],[.c di],[.c (.p db)],qc [qn 2,qb,qn 6],[],[],0⟩
noncomputable def Z1x:=mkC Ycj prog 83 F83
theorem ok83:Z1x.ok prog 83:=mkO trivial (by kernel_rfl)
noncomputable def Za6 (a0:Int):Option (Bool×Unit):=Z1x.fn (a0,())
theorem Zl4 a0:Eq (Za6 a0) <| bif a0≥(-1099511627776) then some (decide (a0≤1099511627776),()) else some (false,()):=mkE (by kernel_rfl)
noncomputable def Yck:Tb:=[(83,Z1x)]
def F84:TFun:=⟨[],[],[.c di],[.c (.p db)],qc [qn 2,qb,qn 6],[],[],0⟩
noncomputable def Z5t:=mkC Yck prog 84 F84
theorem ok84:Z5t.ok prog 84:=mkO ⟨ok83,trivial⟩ (by kernel_rfl)
noncomputable def Zd8 (a0:Int):Option (Bool×Unit):=Z5t.fn (a0,())
theorem Zl5 a0:Eq (Zd8 a0) <| (Za6 a0).bind fun e0=>bif e0.1 then some (true,()) else some (a0==9223372036854775807,()):=mkE (by kernel_rfl)
noncomputable def Ycl:Tb:=[(84,Z5t),(83,Z1x)]
def F74:TFun:=⟨[],[],[.a Vq7],[.a [.p (.int .u8),.p di,.p di,.p di,.p di,.p di,.p di,.p di,.p di,.p di],.c (.p di)],qc [qn 2,[.boxN 130 10 [.p (.int .u8),.p di,.p di,.p di,.p di,.p di,.p di,.p di,.p di,.p di]],qi,qn 30],[],[],0⟩
noncomputable def Z5u:=mkC Ycl prog 74 F74
theorem ok74:Z5u.ok prog 74:=mkO ⟨ok84,ok83,trivial⟩ (by kernel_rfl)
noncomputable def Zpz (a0:Vy3):Option (Vy4×Int×Unit):=Z5u.fn (a0,())
theorem Zuz a0:Eq (Zpz a0) <| let k1:Option (Vy4×Int×Unit):=some (((0,0,0,0,0,0,0,0,0,0,()),8,()));bif a0.1 then (Zd8 a0.2.1).bind fun e0=>bif !e0.1 then k1 else bif !(a0.2.2.1==0&&(a0.2.2.2.1==0&&(a0.2.2.2.2.1==0&&true))) then k1 else some (((2,0,0,0,a0.2.1,0,0,0,0,0,()),0,())) else bif a0.2.1 !=0 then k1 else (Za6 a0.2.2.2.1).bind fun e0=>bif !e0.1 then k1 else some (((1,a0.2.2.1,a0.2.2.2.1,a0.2.2.2.2.1,0,0,0,0,0,0,()),0,())):=mkE (by kernel_rfl)
noncomputable def Ycm:Tb:=[(74,Z5u)]
def F50:TFun:=⟨[],[],[.a Vq7],[.c (.p di)],qc [qn 2,qi,qn 8],[],[],0⟩
noncomputable def Z5v:=mkC Ycm prog 50 F50
theorem ok50:Z5v.ok prog 50:=mkO ⟨ok74,trivial⟩ (by kernel_rfl)
noncomputable def Zb3 (a0:Vy3):Option (Int×Unit):=Z5v.fn (a0,())
theorem Zne a0:Eq (Zb3 a0) <| (Zpz a0).bind fun e0=>some (e0.2.1,()):=mkE (by kernel_rfl)
end Tg
