import Derived.Test.YtenldcjkpgmpnaaGreatDoorTQz1
import Derived.Test.YtenldcjkpgmpnaaGreatDoorTME
/- Contracts that promise nothing, of functions that this law does not reach. -/
set_option linter.unusedVariables false
set_option linter.unusedSimpArgs false
namespace Tg
open Go.Abs
def Z0n (a0:Int×Int×Int×List (Int×Int×Int×Int×Int×Int×Int×Int×Int×Int×Int×Unit)×List (Int×Unit)×List (Int×Int×Int×Int×Int×Int×Int×Int×Int×Int×Int×Unit)×List (Bool×Int×Int×Int×Int×Unit)×List (Int×Int×Int×Int×Int×Unit)×List (Int×Int×Int×Unit)×Unit)(a1:List (Int×List (Int×Int×Int×Int×Int×Int×Int×Int×Int×Int×Unit)×Unit)):Option ((Int×Int×Int×List (Int×Int×Int×Int×Int×Int×Int×Int×Int×Int×Int×Unit)×List (Int×Unit)×List (Int×Int×Int×Int×Int×Int×Int×Int×Int×Int×Int×Unit)×List (Bool×Int×Int×Int×Int×Unit)×List (Int×Int×Int×Int×Int×Unit)×List (Int×Int×Int×Unit)×Unit)×List (Int×List (Int×Int×Int×Int×Int×Int×Int×Int×Int×Int×Unit)×Unit)×Int×Unit):=none
def Yjp:TCon:=⟨[.a [.int .u8,.int .i64,.int .i64,.sl [.int .i64,.int .u8,.int .i64,.int .i64,.int .i64,.int .i64,.int .i64,.int .i64,.int .i64,.int .i64,.int .i64],.sl [.int .i64],.sl [.int .i64,.int .i64,.int .i64,.int .i64,.int .i64,.int .i64,.int .i64,.int .i64,.int .i64,.int .i64,.int .i64],.sl [.bool,.int .i64,.int .i64,.int .i64,.int .i64],.sl [.int .i64,.int .i64,.int .i64,.int .i64,.int .i64],.sl [.int .i64,.int .i64,.int .i64]],.c (.sl [.int .i64,.sl [.int .u8,.int .i64,.int .i64,.int .i64,.int .i64,.int .i64,.int .i64,.int .i64,.int .i64,.int .i64]])],[.a [.p (.int .u8),.p (.int .i64),.p (.int .i64),.p (.sl [.int .i64,.int .u8,.int .i64,.int .i64,.int .i64,.int .i64,.int .i64,.int .i64,.int .i64,.int .i64,.int .i64]),.p (.sl [.int .i64]),.p (.sl [.int .i64,.int .i64,.int .i64,.int .i64,.int .i64,.int .i64,.int .i64,.int .i64,.int .i64,.int .i64,.int .i64]),.p (.sl [.bool,.int .i64,.int .i64,.int .i64,.int .i64]),.p (.sl [.int .i64,.int .i64,.int .i64,.int .i64,.int .i64]),.p (.sl [.int .i64,.int .i64,.int .i64])],.c (.p (.sl [.int .i64,.sl [.int .u8,.int .i64,.int .i64,.int .i64,.int .i64,.int .i64,.int .i64,.int .i64,.int .i64,.int .i64]])),.c (.p (.int .i64))],fun a=>Z0n a.1 a.2.1⟩
theorem Yt3:Yjp.ok Go.Proofs.Tryz.prog 73:=fun a r h=>by cases h
def Yd6 (a0:Int×Int×Int×List (Int×Int×Int×Int×Int×Int×Int×Int×Int×Int×Int×Unit)×List (Int×Unit)×List (Int×Int×Int×Int×Int×Int×Int×Int×Int×Int×Int×Unit)×List (Bool×Int×Int×Int×Int×Unit)×List (Int×Int×Int×Int×Int×Unit)×List (Int×Int×Int×Unit)×Unit)(a1:List (Int×List (Int×Int×Int×Int×Int×Int×Int×Int×Int×Int×Unit)×Unit)):Option (Int×(Int×Int×Int×List (Int×Int×Int×Int×Int×Int×Int×Int×Int×Int×Int×Unit)×List (Int×Unit)×List (Int×Int×Int×Int×Int×Int×Int×Int×Int×Int×Int×Unit)×List (Bool×Int×Int×Int×Int×Unit)×List (Int×Int×Int×Int×Int×Unit)×List (Int×Int×Int×Unit)×Unit)×Int×Unit):=none
def Yn7:TCon:=⟨[.a [.int .u8,.int .i64,.int .i64,.sl [.int .i64,.int .u8,.int .i64,.int .i64,.int .i64,.int .i64,.int .i64,.int .i64,.int .i64,.int .i64,.int .i64],.sl [.int .i64],.sl [.int .i64,.int .i64,.int .i64,.int .i64,.int .i64,.int .i64,.int .i64,.int .i64,.int .i64,.int .i64,.int .i64],.sl [.bool,.int .i64,.int .i64,.int .i64,.int .i64],.sl [.int .i64,.int .i64,.int .i64,.int .i64,.int .i64],.sl [.int .i64,.int .i64,.int .i64]],.c (.sl [.int .i64,.sl [.int .u8,.int .i64,.int .i64,.int .i64,.int .i64,.int .i64,.int .i64,.int .i64,.int .i64,.int .i64]])],[.c (.p (.int .i64)),.a [.p (.int .u8),.p (.int .i64),.p (.int .i64),.p (.sl [.int .i64,.int .u8,.int .i64,.int .i64,.int .i64,.int .i64,.int .i64,.int .i64,.int .i64,.int .i64,.int .i64]),.p (.sl [.int .i64]),.p (.sl [.int .i64,.int .i64,.int .i64,.int .i64,.int .i64,.int .i64,.int .i64,.int .i64,.int .i64,.int .i64,.int .i64]),.p (.sl [.bool,.int .i64,.int .i64,.int .i64,.int .i64]),.p (.sl [.int .i64,.int .i64,.int .i64,.int .i64,.int .i64]),.p (.sl [.int .i64,.int .i64,.int .i64])],.c (.p (.int .i64))],fun _=>none⟩
theorem ok36:Yn7.ok Go.Proofs.Tryz.prog 36:=fun a r h=>by cases h
def Z0o (a0:Int×List (Int×Int×Int×Int×Int×Unit)×List (Int×Unit)×Bool×List (Int×Int×Int×Int×Int×Unit)×Int×Int×Int×Bool×Int×List (Int×Int×Unit)×List (Int×Int×Int×Int×Int×Unit)×List (Int×Int×Int×List (Int×Int×Int×Int×Int×Int×Int×Int×Int×Int×Int×Unit)×List (Int×Unit)×List (Int×Int×Int×Int×Int×Int×Int×Int×Int×Int×Int×Unit)×List (Bool×Int×Int×Int×Int×Unit)×List (Int×Int×Int×Int×Int×Unit)×List (Int×Int×Int×Unit)×Unit)×List (Int×List (Int×Int×Int×Int×Int×Int×Int×Int×Int×Int×Unit)×Unit)×Unit)(a1:Int)(a2:Int)(a3:Int):Option ((Int×List (Int×Int×Int×Int×Int×Unit)×List (Int×Unit)×Bool×List (Int×Int×Int×Int×Int×Unit)×Int×Int×Int×Bool×Int×List (Int×Int×Unit)×List (Int×Int×Int×Int×Int×Unit)×List (Int×Int×Int×List (Int×Int×Int×Int×Int×Int×Int×Int×Int×Int×Int×Unit)×List (Int×Unit)×List (Int×Int×Int×Int×Int×Int×Int×Int×Int×Int×Int×Unit)×List (Bool×Int×Int×Int×Int×Unit)×List (Int×Int×Int×Int×Int×Unit)×List (Int×Int×Int×Unit)×Unit)×List (Int×List (Int×Int×Int×Int×Int×Int×Int×Int×Int×Int×Unit)×Unit)×Unit)×Int×Unit):=none
def Yjq:TCon:=⟨[.a [.int .u8,.sl [.int .u8,.int .i64,.int .i64,.int .i64,.int .i64],.sl [.int .i64],.bool,.sl [.int .u8,.int .i64,.int .i64,.int .i64,.int .i64],.int .u8,.int .i64,.int .i64,.bool,.int .u8,.sl [.int .u8,.int .i64],.sl [.int .i64,.int .i64,.int .i64,.int .i64,.int .i64],.sl [.int .u8,.int .i64,.int .i64,.sl [.int .i64,.int .u8,.int .i64,.int .i64,.int .i64,.int .i64,.int .i64,.int .i64,.int .i64,.int .i64,.int .i64],.sl [.int .i64],.sl [.int .i64,.int .i64,.int .i64,.int .i64,.int .i64,.int .i64,.int .i64,.int .i64,.int .i64,.int .i64,.int .i64],.sl [.bool,.int .i64,.int .i64,.int .i64,.int .i64],.sl [.int .i64,.int .i64,.int .i64,.int .i64,.int .i64],.sl [.int .i64,.int .i64,.int .i64]],.sl [.int .i64,.sl [.int .u8,.int .i64,.int .i64,.int .i64,.int .i64,.int .i64,.int .i64,.int .i64,.int .i64,.int .i64]]],.c (.int .i64),.c (.int .i64),.c (.int .i64)],[.a [.p (.int .u8),.p (.sl [.int .u8,.int .i64,.int .i64,.int .i64,.int .i64]),.p (.sl [.int .i64]),.p (.bool),.p (.sl [.int .u8,.int .i64,.int .i64,.int .i64,.int .i64]),.p (.int .u8),.p (.int .i64),.p (.int .i64),.p (.bool),.p (.int .u8),.p (.sl [.int .u8,.int .i64]),.p (.sl [.int .i64,.int .i64,.int .i64,.int .i64,.int .i64]),.p (.sl [.int .u8,.int .i64,.int .i64,.sl [.int .i64,.int .u8,.int .i64,.int .i64,.int .i64,.int .i64,.int .i64,.int .i64,.int .i64,.int .i64,.int .i64],.sl [.int .i64],.sl [.int .i64,.int .i64,.int .i64,.int .i64,.int .i64,.int .i64,.int .i64,.int .i64,.int .i64,.int .i64,.int .i64],.sl [.bool,.int .i64,.int .i64,.int .i64,.int .i64],.sl [.int .i64,.int .i64,.int .i64,.int .i64,.int .i64],.sl [.int .i64,.int .i64,.int .i64]]),.p (.sl [.int .i64,.sl [.int .u8,.int .i64,.int .i64,.int .i64,.int .i64,.int .i64,.int .i64,.int .i64,.int .i64,.int .i64]])],.c (.p (.int .i64))],fun a=>Z0o a.1 a.2.1 a.2.2.1 a.2.2.2.1⟩
theorem Yt4:Yjq.ok Go.Proofs.Tryz.prog 39:=fun a r h=>by cases h
end Tg

/- Functions of the code, told plainly and checked by the kernel. -/
set_option maxRecDepth 100000
namespace Tg
noncomputable section
open Go.Abs hiding fuel
open Go.Proofs.Tryz (prog)
open Int (ofNat toNat)
open Go.IntKind (wrap)
def Z99:TCon:=Zau 153 10 80 Wq8
theorem Yt5:Z99.ok prog 112:=Xk (zero:=[.p (.int .u8 0),.p (.int .i64 0),.p (.int .i64 0),.p (.int .i64 0),.p (.int .i64 0),.p (.int .i64 0),.p (.int .i64 0),.p (.int .i64 0),.p (.int .i64 0),.p (.int .i64 0)]) (by kernel_rfl) rfl (by decide) rfl
def Ycm:TCon:=⟨[.c (.sl Wq8)],[.c (.p (.sl Wq8))],Z99.fn⟩
theorem Yqs:Ycm.ok prog 112:=fun a r h=>TCon.frz (c:=Z99) Yt5 rfl a r h
def Yjr:TCon:=Zau 168 11 88 Wq12
theorem Yt6:Yjr.ok prog 117:=Xk (zero:=[.p (.int .i64 0),.p (.int .u8 0),.p (.int .i64 0),.p (.int .i64 0),.p (.int .i64 0),.p (.int .i64 0),.p (.int .i64 0),.p (.int .i64 0),.p (.int .i64 0),.p (.int .i64 0),.p (.int .i64 0)]) (by kernel_rfl) rfl (by decide) rfl
def Yjs:TCon:=Zau 2 1 8 Wq15
theorem Yt7:Yjs.ok prog 118:=Xk (zero:=[.p (.int .i64 0)]) (by kernel_rfl) rfl (by decide) rfl
def Yjt:TCon:=Zau 195 11 88 Wq11
theorem Yt8:Yjt.ok prog 119:=Xk (zero:=[.p (.int .i64 0),.p (.int .i64 0),.p (.int .i64 0),.p (.int .i64 0),.p (.int .i64 0),.p (.int .i64 0),.p (.int .i64 0),.p (.int .i64 0),.p (.int .i64 0),.p (.int .i64 0),.p (.int .i64 0)]) (by kernel_rfl) rfl (by decide) rfl
def Yju:TCon:=Zau 151 5 40 Wq16
theorem Yt9:Yju.ok prog 120:=Xk (zero:=[.p (.int .i64 0),.p (.int .i64 0),.p (.int .i64 0),.p (.int .i64 0),.p (.int .i64 0)]) (by kernel_rfl) rfl (by decide) rfl
def Yjv:TCon:=Zau 123 3 24 [.int .i64,.int .i64,.int .i64]
theorem Yua:Yjv.ok prog 121:=Xk (zero:=[.p (.int .i64 0),.p (.int .i64 0),.p (.int .i64 0)]) (by kernel_rfl) rfl (by decide) rfl
def Yjw:TCon:=Zau 88 2 32 [.int .i64,.sl Wq8]
theorem Yub:Yjw.ok prog 111:=Xk (zero:=[.p (.int .i64 0),.nil]) (by kernel_rfl) rfl (by decide) rfl
def Yjx:TCon:=Zau 61 9 168 Wq4
theorem Yuc:Yjx.ok prog 113:=Xk (zero:=[.p (.int .u8 0),.p (.int .i64 0),.p (.int .i64 0),.nil,.nil,.nil,.nil,.nil,.nil]) (by kernel_rfl) rfl (by decide) rfl
def Yud:Tb:=[(117,Yjr),(118,Yjs),(119,Yjt),(69,Z6s),(120,Yju),(121,Yjv)]
def F78:TFun:=⟨[],[],[.a Wq1],[.a [.p (.int .u8),.p di,.p di,.s 168 11 Wq6,.s 2 1 Wq15,.s 195 11 Wq7,.s 125 5 Wq9,.s 151 5 Wq5,.s 123 3 Wq13]],qc [qn 2,[.boxN 61 9 [.p (.int .u8),.p di,.p di,.rowN 168 11 Wq6,.rowN 2 1 Wq15,.rowN 195 11 Wq7,.rowN 125 5 Wq9,.rowN 151 5 Wq5,.rowN 123 3 Wq13]],qn 25],[],[],0⟩
def Yjy:=mkC Yud prog 78 F78
theorem ok78:Yjy.ok prog 78:=mkO ⟨Yt6,Yt7,Yt8,ok69,Yt9,Yua,trivial⟩
def Zop (a0:Wy1):Option (Wy1×Unit):=Yjy.fn (a0,())
theorem Z3o a0:Eq (Zop a0) <| (bif Zb a0.2.2.2.1.length 88 then some (a0.2.2.2.1,()) else none).bind fun e0=>(bif Zb a0.2.2.2.2.1.length 8 then some (a0.2.2.2.2.1,()) else none).bind fun e1=>(bif Zb a0.2.2.2.2.2.1.length 88 then some (a0.2.2.2.2.2.1,()) else none).bind fun e2=>(bif Zb a0.2.2.2.2.2.2.1.length 40 then some (a0.2.2.2.2.2.2.1,()) else none).bind fun e3=>(bif Zb a0.2.2.2.2.2.2.2.1.length 40 then some (a0.2.2.2.2.2.2.2.1,()) else none).bind fun e4=>(bif Zb a0.2.2.2.2.2.2.2.2.1.length 24 then some (a0.2.2.2.2.2.2.2.2.1,()) else none).bind fun e5=>some (((a0.1,a0.2.1,a0.2.2.1,e0.1,e1.1,e2.1,e3.1,e4.1,e5.1,()),())):=mkE
def Yqt:Tb:=[(95,Z5w),(140,Z12),(78,Yjy)]
def F114:TFun:=⟨[],[],[.a Wq1,.c (.sl Wq6)],[.a [.p (.int .u8),.p di,.p di,.s 168 11 Wq6,.s 2 1 Wq15,.s 195 11 Wq7,.s 125 5 Wq9,.s 151 5 Wq5,.s 123 3 Wq13],.c (.p di)],qc [qn 4,[.boxN 61 9 [.p (.int .u8),.p di,.p di,.rowN 168 11 Wq6,.rowN 2 1 Wq15,.rowN 195 11 Wq7,.rowN 125 5 Wq9,.rowN 151 5 Wq5,.rowN 123 3 Wq13]],qi,qn 27],[],[],0⟩
def Zrk:=mkC Yqt prog 114 F114
theorem Yn8:Zrk.ok prog 114:=mkO ⟨ok95,Yna,ok78,trivial⟩
def Ycn:TCon:=⟨Zrk.args,[.a [.p (.int .u8),.p di,.p di,.p (.sl Wq6),.p (.sl Wq15),.p (.sl Wq7),.p (.sl Wq9),.p (.sl Wq5),.p (.sl Wq13)],.c (.p di)],Zrk.fn⟩
theorem Yqu:Ycn.ok prog 114:=TCon.frz (c:=Zrk) Yn8 rfl
def Zfu (a0:Wy1)(a1:(List (Int×Int×Int×Int×Int×Int×Int×Int×Int×Int×Int×Unit))):Option (Wy1×Int×Unit):=Zrk.fn (a0,a1,())
theorem Z62 a0 a1:Eq (Zfu a0 a1) <| (Zar a0).bind fun e0=>bif e0.1 !=0 then some (((0,0,0,[],[],[],[],[],[],()),e0.1,())) else (Zir a1).bind fun e1=>bif !e1.1 then some (((0,0,0,[],[],[],[],[],[],()),8,())) else bif ofNat a1.length>wrap .i64 (4000 - ofNat a0.2.2.2.1.length) then some (((0,0,0,[],[],[],[],[],[],()),4,())) else (Zop a0).bind fun e2=>bif Zb (e2.1.2.2.2.1.length+a1.length) 88 then some ((e2.1.1,e2.1.2.1,e2.1.2.2.1,e2.1.2.2.2.1++a1,e2.1.2.2.2.2),0,()) else none:=mkE
def Yqv:Tb:=[(95,Z5w)]
def F115:TFun:=⟨[],[],[.a Wq1],[.c (.p di)],qc [qn 2,qi,qn 10],[],[],0⟩
def Yaa:=mkC Yqv prog 115 F115
theorem Yue:Yaa.ok prog 115:=mkO ⟨ok95,trivial⟩
def Zqd (a0:Wy1):Option (Int×Unit):=Yaa.fn (a0,())
theorem Zws a0:Eq (Zqd a0) <| (Zar a0).bind fun e0=>bif e0.1 !=0 then some (e0.1,()) else bif a0.1 !=1 then some (2,()) else some (0,()):=mkE
def Yco:Tb:=[(113,Yjx),(111,Yjw),(114,Ycn),(112,Ycm)]
def F74:TFun:=⟨[2],[(2,qc [qn 1,[.boxN 38 14 [.p (.int .u8),.p (.sl Wq3),.p (.sl Wq15),.p db,.p (.sl Wq3),.p (.int .u8),.p di,.p di,.p db,.p (.int .u8),.p (.sl Wq14),.p (.sl Wq5),.rowN 61 9 Wq1,.rowN 88 2 Wq2]],[.boxN 38 14 [.any,.nil,.nil,.any,.nil,.any,.any,.any,.any,.any,.nil,.nil,.nil,.nil]],qn 50]),(4,qc [qn 1,[.boxN 38 14 [.p (.int .u8),.p (.sl Wq3),.p (.sl Wq15),.p db,.p (.sl Wq3),.p (.int .u8),.p di,.p di,.p db,.p (.int .u8),.p (.sl Wq14),.p (.sl Wq5),.rowN 61 9 Wq1,.rowN 88 2 Wq2]],[.boxN 38 14 [.any,.nil,.nil,.any,.nil,.any,.any,.any,.any,.any,.nil,.nil,.nil,.nil]],qn 12,qi,qi,qn 36]),(11,qc [qn 1,[.boxN 38 14 [.p (.int .u8),.p (.sl Wq3),.p (.sl Wq15),.p db,.p (.sl Wq3),.p (.int .u8),.p di,.p di,.p db,.p (.int .u8),.p (.sl Wq14),.p (.sl Wq5),.rowN 61 9 Wq1,.rowN 88 2 Wq2]],[.boxN 38 14 [.any,.nil,.nil,.any,.nil,.any,.any,.any,.any,.any,.nil,.nil,.nil,.nil]],qn 32,qi,qi,qn 16])],[.a Wq10],[.a [.p (.int .u8),.p (.sl Wq3),.p (.sl Wq15),.p db,.p (.sl Wq3),.p (.int .u8),.p di,.p di,.p db,.p (.int .u8),.p (.sl Wq14),.p (.sl Wq5),.s 61 9 Wq1,.s 88 2 Wq2]],qc [qn 2,[.boxN 38 14 [.p (.int .u8),.p (.sl Wq3),.p (.sl Wq15),.p db,.p (.sl Wq3),.p (.int .u8),.p di,.p di,.p db,.p (.int .u8),.p (.sl Wq14),.p (.sl Wq5),.rowN 61 9 Wq1,.rowN 88 2 Wq2]],qn 50],[],[],0⟩
def Yjz:=mkC Yco prog 74 F74
theorem ok74:Yjz.ok prog 74:=mkO ⟨Yuc,Yub,Yqu,Yqs,trivial⟩
def Zjj (a0:Wy2):Option (Wy2×Unit):=Yjz.fn (a0,())
def Znz (n:Nat)(x0:Int)(x1:Wy3)(x2:(List (Int×Unit)))(x3:Bool)(x4:Wy3)(x5 x6 x7:Int)(x8:Bool)(x9:Int)(x10:(List (Int×Int×Unit)))(x11:Wy3)(x12:(List Wy1))(x13:Wy4):Option (Wy2×Unit):=itr Yco prog 74 F74 n 2 (x0,x1,x2,x3,x4,x5,x6,x7,x8,x9,x10,x11,x12,x13,())
def Zeq (n:Nat)(x0:Int)(x1:Wy3)(x2:(List (Int×Unit)))(x3:Bool)(x4:Wy3)(x5 x6 x7:Int)(x8:Bool)(x9:Int)(x10:(List (Int×Int×Unit)))(x11:Wy3)(x12:(List Wy1))(x13:Wy4)(x14 x15:Int):Option (Wy2×Unit):=itr Yco prog 74 F74 n 4 (x0,x1,x2,x3,x4,x5,x6,x7,x8,x9,x10,x11,x12,x13,x14,x15,())
def Zbp (n:Nat)(x0:Int)(x1:Wy3)(x2:(List (Int×Unit)))(x3:Bool)(x4:Wy3)(x5 x6 x7:Int)(x8:Bool)(x9:Int)(x10:(List (Int×Int×Unit)))(x11:Wy3)(x12:(List Wy1))(x13:Wy4)(x14 x15:Int):Option (Wy2×Unit):=itr Yco prog 74 F74 n 11 (x0,x1,x2,x3,x4,x5,x6,x7,x8,x9,x10,x11,x12,x13,x14,x15,())
theorem Z3p a0:Eq (Zjj a0) <| (bif Zb a0.2.2.2.2.2.2.2.2.2.2.2.2.1.length 168 then some (a0.2.2.2.2.2.2.2.2.2.2.2.2.1,()) else none).bind fun e0=>(bif Zb a0.2.2.2.2.2.2.2.2.2.2.2.2.2.1.length 32 then some (a0.2.2.2.2.2.2.2.2.2.2.2.2.2.1,()) else none).bind fun e1=>Zeq fuel a0.1 a0.2.1 a0.2.2.1 a0.2.2.2.1 a0.2.2.2.2.1 a0.2.2.2.2.2.1 a0.2.2.2.2.2.2.1 a0.2.2.2.2.2.2.2.1 a0.2.2.2.2.2.2.2.2.1 a0.2.2.2.2.2.2.2.2.2.1 a0.2.2.2.2.2.2.2.2.2.2.1 a0.2.2.2.2.2.2.2.2.2.2.2.1 e0.1 e1.1 (ofNat e0.1.length) 0:=mkE
theorem Zyq n x0 x1 x2 x3 x4 x5 x6 x7 x8 x9 x10 x11 x12 x13:Eq (Znz (n+1) x0 x1 x2 x3 x4 x5 x6 x7 x8 x9 x10 x11 x12 x13) <| Zbp n x0 x1 x2 x3 x4 x5 x6 x7 x8 x9 x10 x11 x12 x13 (ofNat x13.length) 0:=mkI
theorem Zn0 n x0 x1 x2 x3 x4 x5 x6 x7 x8 x9 x10 x11 x12 x13 x14 x15:Eq (Zeq (n+1) x0 x1 x2 x3 x4 x5 x6 x7 x8 x9 x10 x11 x12 x13 x14 x15) <| bif x15<x14 then ixb x12 x15 fun e0=>(Zfu e0 []).bind fun e1=>ixb x12 x15 fun e2=>Zeq n x0 x1 x2 x3 x4 x5 x6 x7 x8 x9 x10 x11 (List.set x12 x15.toNat (e1.1.1,e1.1.2.1,e1.1.2.2.1,e1.1.2.2.2.1,e1.1.2.2.2.2.1,e1.1.2.2.2.2.2.1,e1.1.2.2.2.2.2.2.1,e1.1.2.2.2.2.2.2.2.1,e1.1.2.2.2.2.2.2.2.2.1,e2.2.2.2.2.2.2.2.2.2)) x13 x14 (wrap .i64 (x15+1)) else Znz n x0 x1 x2 x3 x4 x5 x6 x7 x8 x9 x10 x11 x12 x13:=mkI
theorem Zme n x0 x1 x2 x3 x4 x5 x6 x7 x8 x9 x10 x11 x12 x13 x14 x15:Eq (Zbp (n+1) x0 x1 x2 x3 x4 x5 x6 x7 x8 x9 x10 x11 x12 x13 x14 x15) <| bif x15<x14 then ixb x13 x15 fun e0=>(Zf 80 e0.2.1).bind fun e1=>ixb x13 x15 fun e2=>Zbp n x0 x1 x2 x3 x4 x5 x6 x7 x8 x9 x10 x11 x12 (List.set x13 x15.toNat (e2.1,e1.1,e2.2.2)) x14 (wrap .i64 (x15+1)) else some (((x0,x1,x2,x3,x4,x5,x6,x7,x8,x9,x10,x11,x12,x13,()),())):=mkI
end
end Tg

/- Functions of the code, told plainly and checked by the kernel. -/
namespace Tg
noncomputable section
open Go.Abs hiding fuel
open Go.Proofs.Tryz (prog)
open Int (ofNat toNat)
open Go.IntKind (wrap)
def Yuf:Tb:=[(115,Yaa),(105,Z11),(69,Z9z),(114,Zrk)]
def F75:TFun:=⟨[],[],[.a Wq1],[.a [.p (.int .u8),.p di,.p di,.s 168 11 Wq6,.s 2 1 Wq15,.s 195 11 Wq7,.s 125 5 Wq9,.s 151 5 Wq5,.s 123 3 Wq13],.c (.p di)],qc [qn 2,[.boxN 61 9 [.p (.int .u8),.p di,.p di,.rowN 168 11 Wq6,.rowN 2 1 Wq15,.rowN 195 11 Wq7,.rowN 125 5 Wq9,.rowN 151 5 Wq5,.rowN 123 3 Wq13]],qi,qn 47],[],[],0⟩
def Z63:=mkC Yuf prog 75 F75
theorem ok75:Z63.ok prog 75:=mkO ⟨Yue,Ym9,Ynt,Yn8,trivial⟩
def Yj0:TCon:=⟨Z63.args,[.a [.p (.int .u8),.p di,.p di,.p (.sl Wq6),.p (.sl Wq15),.p (.sl Wq7),.p (.sl Wq9),.p (.sl Wq5),.p (.sl Wq13)],.c (.p di)],Z63.fn⟩
theorem Yug:Yj0.ok prog 75:=TCon.frz (c:=Z63) ok75 rfl
def Zmf (a0:Wy1):Option (Wy1×Int×Unit):=Z63.fn (a0,())
theorem Zyr a0:Eq (Zmf a0) <| (Zqd a0).bind fun e0=>bif e0.1 !=0 then some (((0,0,0,[],[],[],[],[],[],()),e0.1,())) else bif ofNat a0.2.2.2.1.length>0 then some (((0,0,0,[],[],[],[],[],[],()),18,())) else bif ofNat a0.2.2.2.2.2.2.1.length==0 then some (((0,0,0,[],[],[],[],[],[],()),6,())) else (a0.2.2.2.2.2.2.1[0]?).bind fun e1=>(Ziq e1).bind fun e2=>(Zf 40 a0.2.2.2.2.2.2.1).bind fun e3=>bif toNat (ofNat a0.2.2.2.2.2.2.1.length)=toNat (ofNat a0.2.2.2.2.2.2.1.length) then bif decide (1<=toNat (ofNat a0.2.2.2.2.2.2.1.length))&&decide (toNat (ofNat a0.2.2.2.2.2.2.1.length)<=e3.1.length) then bif 1=toNat (ofNat a0.2.2.2.2.2.2.1.length) then (Zfu (a0.1,a0.2.1,a0.2.2.1,a0.2.2.2.1,a0.2.2.2.2.1,a0.2.2.2.2.2.1,[],a0.2.2.2.2.2.2.2) [(0,e2.1)]).bind fun e4=>some (e4.1,e4.2.1,()) else (Zfu (a0.1,a0.2.1,a0.2.2.1,a0.2.2.2.1,a0.2.2.2.2.1,a0.2.2.2.2.2.1,List.drop 1 (List.take (toNat (ofNat a0.2.2.2.2.2.2.1.length)) e3.1),a0.2.2.2.2.2.2.2) [(0,e2.1)]).bind fun e4=>some (e4.1,e4.2.1,()) else none else none:=mkE
end
end Tg

/- Functions of the code, told plainly and checked by the kernel. -/
namespace Tg
noncomputable section
open Go.Abs hiding fuel
open Go.Proofs.Tryz (prog)
open Int (ofNat toNat)
open Go.IntKind (wrap)
def Yn9:Tb:=[(72,Z2l),(37,Z2q),(73,Yjp),(74,Yjz),(75,Yj0)]
def F35:TFun:=⟨[],[(12,qc [qn 2,[.boxN 38 14 [.p (.int .u8),.p (.sl Wq3),.p (.sl Wq15),.p db,.p (.sl Wq3),.p (.int .u8),.p di,.p di,.p db,.p (.int .u8),.p (.sl Wq14),.p (.sl Wq5),.rowN 61 9 Wq1,.rowN 88 2 Wq2]],qn 1,[.boxN 38 14 [.any,.nil,.nil,.any,.nil,.any,.any,.any,.any,.any,.nil,.nil,.nil,.nil]],qn 4,[.c (.p (.sl Wq2))],qn 34,[.c (.p (.sl Wq15))],qi,qi,qn 32])],[.a Wq10,.c di],[.a [.p (.int .u8),.p (.sl Wq3),.p (.sl Wq15),.p db,.p (.sl Wq3),.p (.int .u8),.p di,.p di,.p db,.p (.int .u8),.p (.sl Wq14),.p (.sl Wq5),.p (.sl Wq1),.p (.sl Wq2)],.c (.p db)],qc [qn 4,[.boxN 38 14 [.p (.int .u8),.p (.sl Wq3),.p (.sl Wq15),.p db,.p (.sl Wq3),.p (.int .u8),.p di,.p di,.p db,.p (.int .u8),.p (.sl Wq14),.p (.sl Wq5),.p (.sl Wq1),.p (.sl Wq2)]],qb,qn 73],[],[],0⟩
def Yj1:=mkC Yn9 prog 35 F35
theorem ok35:Yj1.ok prog 35:=mkO ⟨Yhq,Yhy,Yt3,ok74,Yug,trivial⟩
def Zjk (a0:Wy2)(a1:Int):Option (Wy2×Bool×Unit):=Yj1.fn (a0,a1,())
def Zwt (n:Nat)(x0:Int)(x1:Wy3)(x2:(List (Int×Unit)))(x3:Bool)(x4:Wy3)(x5 x6 x7:Int)(x8:Bool)(x9:Int)(x10:(List (Int×Int×Unit)))(x11:Wy3)(x12:(List Wy1))(x13 x14:Wy4)(x15:(List (Int×Unit)))(x16 x17:Int):Option (Wy2×Bool×Unit):=itr Yn9 prog 35 F35 n 12 (x0,x1,x2,x3,x4,x5,x6,x7,x8,x9,x10,x11,x12,x13,x14,x15,x16,x17,())
theorem Z3q a0 a1:Eq (Zjk a0 a1) <| ix a0.2.2.2.2.2.2.2.2.2.2.2.2.1 a1 fun e0=>bif ofNat e0.2.2.2.1.length>0 then (Yy (a0.2.2.2.2.2.2.2.2.2.2.1,a0.2.2.2.2.2.2.2.2.2.2.2.1,()) a1).bind fun e1=>(Zcp a0 e1.1).bind fun e2=>(Z0n e0 e2.1).bind fun e3=>(Zjj a0).bind fun e4=>ixb e4.1.2.2.2.2.2.2.2.2.2.2.2.2.1 a1 fun e5=>Zwt fuel e4.1.1 e4.1.2.1 e4.1.2.2.1 e4.1.2.2.2.1 e4.1.2.2.2.2.1 e4.1.2.2.2.2.2.1 e4.1.2.2.2.2.2.2.1 e4.1.2.2.2.2.2.2.2.1 e4.1.2.2.2.2.2.2.2.2.1 e4.1.2.2.2.2.2.2.2.2.2.1 e4.1.2.2.2.2.2.2.2.2.2.2.1 e4.1.2.2.2.2.2.2.2.2.2.2.2.1 (List.set e4.1.2.2.2.2.2.2.2.2.2.2.2.2.1 a1.toNat (e3.1.1,e3.1.2.1,e3.1.2.2.1,e3.1.2.2.2.1,e3.1.2.2.2.2.1,e3.1.2.2.2.2.2.1,e3.1.2.2.2.2.2.2.1,e3.1.2.2.2.2.2.2.2.1,e3.1.2.2.2.2.2.2.2.2.1,e5.2.2.2.2.2.2.2.2.2)) e4.1.2.2.2.2.2.2.2.2.2.2.2.2.2.1 e3.2.1 e1.1 (ofNat e1.1.length) 0 else bif e0.1 !=1 then some (a0,false,()) else (Zmf e0).bind fun e1=>(Zjj a0).bind fun e2=>ixb e2.1.2.2.2.2.2.2.2.2.2.2.2.2.1 a1 fun e3=>some (((e2.1.1,e2.1.2.1,e2.1.2.2.1,e2.1.2.2.2.1,e2.1.2.2.2.2.1,e2.1.2.2.2.2.2.1,e2.1.2.2.2.2.2.2.1,e2.1.2.2.2.2.2.2.2.1,e2.1.2.2.2.2.2.2.2.2.1,e2.1.2.2.2.2.2.2.2.2.2.1,e2.1.2.2.2.2.2.2.2.2.2.2.1,e2.1.2.2.2.2.2.2.2.2.2.2.2.1,List.set e2.1.2.2.2.2.2.2.2.2.2.2.2.2.1 a1.toNat (e1.1.1,e1.1.2.1,e1.1.2.2.1,e1.1.2.2.2.1,e1.1.2.2.2.2.1,e1.1.2.2.2.2.2.1,e1.1.2.2.2.2.2.2.1,e1.1.2.2.2.2.2.2.2.1,e1.1.2.2.2.2.2.2.2.2.1,e3.2.2.2.2.2.2.2.2.2),e2.1.2.2.2.2.2.2.2.2.2.2.2.2.2.1,()),true,())):=mkE
def tab8:Tb:=[(33,Yh1),(34,Yh6),(35,Yj1),(38,Z2k),(37,Z2q),(36,Yn7),(39,Yjq)]
def F8:TFun:=⟨[],[],[.a Wq10,.c di],[.a [.p (.int .u8),.p (.sl Wq3),.p (.sl Wq15),.p db,.p (.sl Wq3),.p (.int .u8),.p di,.p di,.p db,.p (.int .u8),.p (.sl Wq14),.p (.sl Wq5),.p (.sl Wq1),.p (.sl Wq2)],.c (.p di)],qc [qn 4,[.boxN 38 14 [.p (.int .u8),.p (.sl Wq3),.p (.sl Wq15),.p db,.p (.sl Wq3),.p (.int .u8),.p di,.p di,.p db,.p (.int .u8),.p (.sl Wq14),.p (.sl Wq5),.p (.sl Wq1),.p (.sl Wq2)]],qi,qn 50],[],[],0⟩
def con8:=mkC tab8 prog 8 F8
theorem ok8:con8.ok prog 8:=mkO ⟨ok33,ok34,ok35,Yhp,Yhy,ok36,Yt4,trivial⟩
def Zd9 (a0:Wy2)(a1:Int):Option (Wy2×Int×Unit):=con8.fn (a0,a1,())
theorem Zmg a0 a1:Eq (Zd9 a0 a1) <| (Ziz a0 a1).bind fun e0=>bif e0.1 !=0 then some (((0,[],[],false,[],0,0,0,false,0,[],[],[],[],()),e0.1,())) else (Zi2 a0 a1).bind fun e1=>bif !e1.1 then some (((0,[],[],false,[],0,0,0,false,0,[],[],[],[],()),6,())) else (Zjk a0 a1).bind fun e2=>bif e2.2.1 then some (e2.1,0,()) else ix a0.2.2.2.2.2.2.2.2.2.2.2.2.1 a1 fun e3=>(Xl (a0.2.2.2.2.2.2.2.2.2.2.1,a0.2.2.2.2.2.2.2.2.2.2.2.1,()) a1).bind fun e4=>(Zcp a0 e4.1).bind fun e5=>(Yd6 e3 e5.1).bind fun e6=>(Z0o a0 a1 e6.1 e6.2.1.2.2.1).bind fun e7=>some (e7.1,e7.2.1,()):=mkE
end
end Tg
