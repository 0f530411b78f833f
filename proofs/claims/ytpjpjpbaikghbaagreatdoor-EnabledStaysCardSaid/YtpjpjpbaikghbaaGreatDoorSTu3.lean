import Derived.Test.YtpjpjpbaikghbaaGreatDoorSME
import Derived.Test.YtpjpjpbaikghbaaGreatDoorSADb
import Derived.Test.YtpjpjpbaikghbaaGreatDoorSAL
set_option linter.all false
/- Functions of the code, told plainly and checked by the kernel. -/
set_option maxRecDepth 100000
namespace Tg
noncomputable section
open Go.Abs hiding fuel
open Go.Proofs.Tryz (prog)
open Int (ofNat toNat)
open Go.IntKind (wrap)
abbrev Zsh:List Go.Abs.RCT:=[.p (.int .u8),.p di,.p di,.p (.sl Tq3),.p (.sl Tq13),.p (.sl Tq2),.p (.sl Tq7),.p (.sl Tq6),.p (.sl Tq9)]
abbrev Z6b:List Go.Abs.SC:=[.p (.int .u8),.p (.sl Tq5),.p (.sl Tq13),.p db,.p (.sl Tq5),.p (.int .u8),.p di,.p di,.p db,.p (.int .u8),.p (.sl Tq17),.p (.sl Tq6),.rowN 59 9 Tq1,.rowN 75 2 Tq14]
abbrev Z6c:List Go.Abs.SC:=[.p (.int .u8),.p di,.p di,.p (.sl Tq3),.p (.sl Tq13),.p (.sl Tq2),.p (.sl Tq7),.p (.sl Tq6),.p (.sl Tq9)]
abbrev Yd8:List Go.Abs.SC:=[.p (.int .u8),.p di,.p di,.rowN 126 11 Tq3,.rowN 2 1 Tq13,.rowN 146 11 Tq2,.rowN 81 5 Tq7,.rowN 106 5 Tq6,.rowN 79 3 Tq9]
abbrev Yd9:List Go.Abs.RCT:=[.p (.int .u8),.p di,.p di,.s 126 11 Tq3,.s 2 1 Tq13,.s 146 11 Tq2,.s 81 5 Tq7,.s 106 5 Tq6,.s 79 3 Tq9]
abbrev Yea:List Go.Abs.SC:=[.any,.nil,.nil,.any,.nil,.any,.any,.any,.any,.any,.nil,.nil,.nil,.nil]
abbrev Yo5:List Go.Abs.SC:=[.p di,.any,.any,.any,.any,.any,.any,.any,.any,.any,.any]
def Yo6:TCon:=Zbt 108 10 80 Tq12
theorem ok60:Yo6.ok prog 60:=Qk (zero:=[.p (.int .u8 0),.p (.int .i64 0),.p (.int .i64 0),.p (.int .i64 0),.p (.int .i64 0),.p (.int .i64 0),.p (.int .i64 0),.p (.int .i64 0),.p (.int .i64 0),.p (.int .i64 0)]) (by kernel_rfl) rfl (by decide) rfl
def Yeb:TCon:=⟨[.c (.sl Tq12)],[.c (.p (.sl Tq12))],Yo6.fn⟩
theorem Yty:Yeb.ok prog 60:=λa r h=>TCon.frz (c:=Yo6) ok60 rfl a r h
def Ytz:TCon:=Zbt 126 11 88 Tq16
theorem ok68:Ytz.ok prog 68:=Qk (zero:=[.p (.int .i64 0),.p (.int .u8 0),.p (.int .i64 0),.p (.int .i64 0),.p (.int .i64 0),.p (.int .i64 0),.p (.int .i64 0),.p (.int .i64 0),.p (.int .i64 0),.p (.int .i64 0),.p (.int .i64 0)]) (by kernel_rfl) rfl (by decide) rfl
def Yhe:TCon:=Zbt 2 1 8 Tq13
theorem ok69:Yhe.ok prog 69:=Qk (zero:=[.p (.int .i64 0)]) (by kernel_rfl) rfl (by decide) rfl
def Yt0:TCon:=Zbt 146 11 88 Tq15
theorem ok70:Yt0.ok prog 70:=Qk (zero:=[.p (.int .i64 0),.p (.int .i64 0),.p (.int .i64 0),.p (.int .i64 0),.p (.int .i64 0),.p (.int .i64 0),.p (.int .i64 0),.p (.int .i64 0),.p (.int .i64 0),.p (.int .i64 0),.p (.int .i64 0)]) (by kernel_rfl) rfl (by decide) rfl
def Yhf:TCon:=Zbt 81 5 40 Tq20
theorem ok65:Yhf.ok prog 65:=Qk (zero:=[.p (.bool false),.p (.int .i64 0),.p (.int .i64 0),.p (.int .i64 0),.p (.int .i64 0)]) (by kernel_rfl) rfl (by decide) rfl
def Yo7:TCon:=⟨[.c (.sl Tq20)],[.c (.p (.sl Tq20))],Yhf.fn⟩
theorem Y0k:Yo7.ok prog 65:=λa r h=>TCon.frz (c:=Yhf) ok65 rfl a r h
def Yt1:TCon:=Zbt 106 5 40 Tq18
theorem ok71:Yt1.ok prog 71:=Qk (zero:=[.p (.int .i64 0),.p (.int .i64 0),.p (.int .i64 0),.p (.int .i64 0),.p (.int .i64 0)]) (by kernel_rfl) rfl (by decide) rfl
def Yt2:TCon:=Zbt 79 3 24 [.int .i64,.int .i64,.int .i64]
theorem ok72:Yt2.ok prog 72:=Qk (zero:=[.p (.int .i64 0),.p (.int .i64 0),.p (.int .i64 0)]) (by kernel_rfl) rfl (by decide) rfl
def Yo8:TCon:=Zbt 75 2 32 [.int .i64,.sl Tq12]
theorem ok59:Yo8.ok prog 59:=Qk (zero:=[.p (.int .i64 0),.nil]) (by kernel_rfl) rfl (by decide) rfl
def Yt3:TCon:=Zbt 59 9 168 Tq8
theorem ok61:Yt3.ok prog 61:=Qk (zero:=[.p (.int .u8 0),.p (.int .i64 0),.p (.int .i64 0),.nil,.nil,.nil,.nil,.nil,.nil]) (by kernel_rfl) rfl (by decide) rfl
def Y0l:Tb:=[(68,Ytz),(69,Yhe),(70,Yt0),(65,Yhf),(71,Yt1),(72,Yt2)]
def F38:TFun:=⟨[],[],[.a Tq1],[.a Yd9],qc [qn 2,[.boxN 59 9 Yd8],qn 25],[],[],0⟩
def Z3e:=mkC Y0l prog 38 F38
theorem ok38:Z3e.ok prog 38:=mkO ⟨ok68,ok69,ok70,ok65,ok71,ok72,trivial⟩
def Yec:TCon:=⟨Z3e.args,[.a Zsh],Z3e.fn⟩
theorem Yt4:Yec.ok prog 38:=TCon.frz (c:=Z3e) ok38 rfl
def Zd2(a0:Ty1):Option (Ty1×Unit):=Z3e.fn (a0,())
theorem Z6d a0:Eq (Zd2 a0)<|(bif Ze a0.2.2.2.1.length 88 then some (a0.2.2.2.1,())else none).bind λe0=>(bif Ze a0.2.2.2.2.1.length 8 then some (a0.2.2.2.2.1,())else none).bind λe1=>(bif Ze a0.2.2.2.2.2.1.length 88 then some (a0.2.2.2.2.2.1,())else none).bind λe2=>(bif Ze a0.2.2.2.2.2.2.1.length 40 then some (a0.2.2.2.2.2.2.1,())else none).bind λe3=>(bif Ze a0.2.2.2.2.2.2.2.1.length 40 then some (a0.2.2.2.2.2.2.2.1,())else none).bind λe4=>(bif Ze a0.2.2.2.2.2.2.2.2.1.length 24 then some (a0.2.2.2.2.2.2.2.2.1,())else none).bind λe5=>some (((a0.1,a0.2.1,a0.2.2.1,e0.1,e1.1,e2.1,e3.1,e4.1,e5.1,()),())):=mkE
def Y0m:Tb:=[(66,Zoa),(120,Z4x),(38,Z3e)]
def F62:TFun:=⟨[],[],[.a Tq1,.c (.sl Tq3)],[.a Yd9,.c (.p di)],qc [qn 4,[.boxN 59 9 Yd8],qi,qn 27],[],[],0⟩
def Zmw:=mkC Y0m prog 62 F62
theorem ok62:Zmw.ok prog 62:=mkO ⟨ok66,Ys6,ok38,trivial⟩
def Yo9:TCon:=⟨Zmw.args,[.a Zsh,.c (.p di)],Zmw.fn⟩
theorem Y0n:Yo9.ok prog 62:=TCon.frz (c:=Zmw) ok62 rfl
def Zm(a0:Ty1)(a1:(List Ty3)):Option Ty11:=Zmw.fn (a0,a1,())
theorem Z92 a0 a1:Eq (Zm a0 a1)<|(Yt a0).bind λe0=>bif e0.1 !=0 then some (((0,0,0,[],[],[],[],[],[],()),e0.1,()))else(Zi1 a1).bind λe1=>bif !e1.1 then some (((0,0,0,[],[],[],[],[],[],()),8,()))else bif ofNat a1.length>wrap .i64 (4000-ofNat a0.2.2.2.1.length)then some (((0,0,0,[],[],[],[],[],[],()),4,()))else(Zd2 a0).bind λe2=>bif Ze (e2.1.2.2.2.1.length+a1.length) 88 then some ((e2.1.1,e2.1.2.1,e2.1.2.2.1,e2.1.2.2.2.1++a1,e2.1.2.2.2.2),0,())else none:=mkE
def Y0o:Tb:=[(36,Ygy),(37,Yg8),(38,Yec)]
def F18:TFun:=⟨[],[],[.a Tq1,.c (.sl Tq14)],[.c (.p di),.a Zsh,.c (.p di)],qc [qn 4,qi,[.boxN 59 9 Z6c],qi,qn 32],[],[],0⟩
def Ypa:=mkC Y0o prog 18 F18
theorem ok18:Ypa.ok prog 18:=mkO ⟨ok36,ok37,Yt4,trivial⟩
def Zsi(a0:Ty1)(a1:(List Ty9)):Option (Int×Ty1×Int×Unit):=Ypa.fn (a0,a1,())
theorem Z93 a0 a1:Eq (Zsi a0 a1)<|(Zbb a0 a1 []).bind λe0=>bif e0.1 !=0 then some ((0,(0,0,0,[],[],[],[],[],[],()),e0.1,()))else(Zgj a0.2.2.1 a1).bind λe1=>let k1:Option (Int×Ty1×Int×Unit):=some ((0,(0,0,0,[],[],[],[],[],[],()),6,()));bif e1.1<0 then k1 else bif ofNat a0.2.2.2.1.length>0 then k1 else(Zd2 a0).bind λe2=>bif ofNat a1.length=0 then none else some ((e1.1,(e2.1.1,e2.1.2.1,Int.tmod (wrap .i64 (e1.1+1)) (ofNat a1.length),e2.1.2.2.2),0,())):=mkE
def Ypb:Tb:=[(36,Ygy),(58,Yol),(59,Yo8),(60,Yeb),(38,Yec)]
def F33:TFun:=⟨[19],[(19,qc [qn 2,[.boxN 59 9 Z6c],qn 1,[.boxN 59 9 [.any,.any,.any,.nil,.nil,.nil,.nil,.nil,.nil]],qn 3,[.boxN 126 11 Yo5],[.boxN 75 2 [.p di,.p (.sl Tq4)]],qn 1,[.c (.rowN 75 2 Tq14)],qn 69]),(21,qc [qn 2,[.boxN 59 9 Z6c],qn 1,[.boxN 59 9 [.any,.any,.any,.nil,.nil,.nil,.nil,.nil,.nil]],qn 3,[.boxN 126 11 Yo5],[.boxN 75 2 [.p di,.p (.sl Tq4)]],qn 1,[.c (.rowN 75 2 Tq14)],qn 41,qi,qi,qn 26])],[.a Tq1,.c (.sl Tq14)],[.a Zsh,.c (.s 75 2 Tq14),.c (.p di)],qc [qn 4,[.boxN 59 9 Z6c],[.c (.rowN 75 2 Tq14)],qi,qn 74],[],[],0⟩
def Z94:=mkC Ypb prog 33 F33
theorem ok33:Z94.ok prog 33:=mkO ⟨ok36,Yzy,ok59,Yty,Yt4,trivial⟩
def Ypc:TCon:=⟨Z94.args,[.a Zsh,.c (.p (.sl Tq14)),.c (.p di)],Z94.fn⟩
theorem Y0p:Ypc.ok prog 33:=TCon.frz (c:=Z94) ok33 rfl
def Zsj(a0:Ty1)(a1:(List Ty9)):Option (Ty1×List Ty9×Int×Unit):=Z94.fn (a0,a1,())
def Zol(n:Nat)(x0 x1 x2:Int)(x3:(List Ty3))(x4:Ty7)(x5:(List Ty3))(x6:Ty12)(x7:(List Ty5))(x8:(List Ty10))(x9 x10:Int)(x11:(List Ty4))(x12:(List Ty9)):Option (Ty1×List Ty9×Int×Unit):=itr Ypb prog 33 F33 n 19 (x0,x1,x2,x3,x4,x5,x6,x7,x8,x9,x10,x11,x12,())
def Zel(n:Nat)(x0 x1 x2:Int)(x3:(List Ty3))(x4:Ty7)(x5:(List Ty3))(x6:Ty12)(x7:(List Ty5))(x8:(List Ty10))(x9 x10:Int)(x11:(List Ty4))(x12:(List Ty9))(x13 x14:Int):Option (Ty1×List Ty9×Int×Unit):=itr Ypb prog 33 F33 n 21 (x0,x1,x2,x3,x4,x5,x6,x7,x8,x9,x10,x11,x12,x13,x14,())
theorem Z95 a0 a1:Eq (Zsj a0 a1)<|(Zbb a0 [] a1).bind λe0=>bif e0.1 !=0 then some (((0,0,0,[],[],[],[],[],[],()),[],e0.1,()))else bif ofNat a0.2.2.2.1.length==0 then some (((0,0,0,[],[],[],[],[],[],()),[],6,()))else(a0.2.2.2.1[0]?).bind λe1=>bif e1.1>=ofNat a1.length then some (((0,0,0,[],[],[],[],[],[],()),[],2,()))else ix a1 e1.1 λe2=>(Zmr e2 e1.2).bind λe3=>bif e3.2.1 !=0 then some (((0,0,0,[],[],[],[],[],[],()),[],e3.2.1,()))else(bif Ze a1.length 32 then some (a1,())else none).bind λe4=>Zel fuel a0.1 a0.2.1 a0.2.2.1 a0.2.2.2.1 a0.2.2.2.2.1 a0.2.2.2.2.2.1 a0.2.2.2.2.2.2.1 a0.2.2.2.2.2.2.2.1 a0.2.2.2.2.2.2.2.2.1 e1.1 e3.1.1 e3.1.2.1 e4.1 (ofNat e4.1.length) 0:=mkE
theorem Z07 n x0 x1 x2 x3 x4 x5 x6 x7 x8 x9 x10 x11 x12:Eq (Zol (n+1) x0 x1 x2 x3 x4 x5 x6 x7 x8 x9 x10 x11 x12)<|ixb x12 x9 λe0=>(Zd2 (x0,x1,x2,x3,x4,x5,x6,x7,x8,())).bind λe1=>bif 1<=e1.1.2.2.2.1.length then some (((e1.1.1,e1.1.2.1,e1.1.2.2.1,List.drop 1 (List.take e1.1.2.2.2.1.length e1.1.2.2.2.1),e1.1.2.2.2.2),List.set x12 x9.toNat (x10,x11,e0.2.2),0,()))else none:=mkI
theorem Zom n x0 x1 x2 x3 x4 x5 x6 x7 x8 x9 x10 x11 x12 x13 x14:Eq (Zel (n+1) x0 x1 x2 x3 x4 x5 x6 x7 x8 x9 x10 x11 x12 x13 x14)<|bif x14<x13 then ixb x12 x14 λe0=>(Zj 80 e0.2.1).bind λe1=>ixb x12 x14 λe2=>Zel n x0 x1 x2 x3 x4 x5 x6 x7 x8 x9 x10 x11 (List.set x12 x14.toNat (e2.1,e1.1,e2.2.2)) x13 (wrap .i64 (x14+1))else Zol n x0 x1 x2 x3 x4 x5 x6 x7 x8 x9 x10 x11 x12:=mkI
def Y0q:Tb:=[(66,Zoa)]
def F63:TFun:=⟨[],[],[.a Tq1],[.c (.p di)],qc [qn 2,qi,qn 10],[],[],0⟩
def Ypd:=mkC Y0q prog 63 F63
theorem ok63:Ypd.ok prog 63:=mkO ⟨ok66,trivial⟩
def Zq4(a0:Ty1):Option (Int×Unit):=Ypd.fn (a0,())
theorem Zyx a0:Eq (Zq4 a0)<|(Yt a0).bind λe0=>bif e0.1 !=0 then some (e0.1,())else bif a0.1 !=1 then some (2,())else some (0,()):=mkE
def Yed:Tb:=[(192,Ydw)]
def F146:TFun:=⟨[9],[(9,qc [[.c (.p (.sl Tq13))],qn 36]),(14,qc [[.c (.p (.sl Tq13))],qn 2,qi,qi,qn 32])],[.c (.sl Tq13)],[.c (.p di),.c (.p di)],qc [qn 2,qi,qi,qn 8],[(7,[191])],[(9,[12]),(14,[12])],8⟩
def Zyy:=mkC Yed prog 146 F146
theorem Ype:Zyy.ok prog 146:=mkO ⟨Yz6,trivial⟩
def Zez(a0:Ty7):Option Ty8:=Zyy.fn (a0,())
def Zmx(n:Nat)(x0:Ty7):Option Ty8:=itr Yed prog 146 F146 n 9 (x0,())
def Zb7(n:Nat)(x0:Ty7)(x1 x2:Int):Option Ty8:=itr Yed prog 146 F146 n 14 (x0,x1,x2,())
theorem Z08 a0:Eq (Zez a0)<|(Zmt a0).bind λe0=>bif e0.1 !=0 then some (0,e0.1,())else bif ofNat a0.length<1 then none else Zmx fuel a0:=mkE
theorem Zyz n x0:Eq (Zmx (n+1) x0)<|(x0[0]?).bind λe0=>Zb7 n x0 e0.1 1:=mkI
theorem Zj9 n x0 x1 x2:Eq (Zb7 (n+1) x0 x1 x2)<|bif x2<ofNat x0.length then ix x0 x2 λe0=>Zb7 n x0 (tmm false x1 e0.1) (wrap .i64 (x2+1))else some (x1,0,()):=mkI
def Yee:Tb:=[(146,Zyy),(190,Z50),(69,Yhe)]
def F145:TFun:=⟨[16],[(16,qc [[.c (.rowN 2 1 Tq13)],qn 33,qi,qn 32,[.c (.row 0)],qn 4]),(21,qc [[.c (.rowN 2 1 Tq13)],qn 2,qi,qi,qn 29,qi,qn 32,[.c (.row 0)],qn 4])],[.c (.sl Tq13),.c di,.c di],[.c (.s 2 1 Tq13),.c (.p db),.c (.p di)],qc [qn 6,[.c (.rowN 2 1 Tq13)],qb,qi,qn 38],[(14,[191])],[(16,[47]),(21,[47])],8⟩
def Zy0:=mkC Yee prog 145 F145
theorem Y0r:Zy0.ok prog 145:=mkO ⟨Ype,Ytu,ok69,trivial⟩
def Z6e:TCon:=⟨Zy0.args,[.c (.p (.sl Tq13)),.c (.p db),.c (.p di)],Zy0.fn⟩
theorem Ypf:Z6e.ok prog 145:=TCon.frz (c:=Zy0) Y0r rfl
def Zhg(a0:Ty7)(a1 a2:Int):Option (List (Int×Unit)×Bool×Int×Unit):=Zy0.fn (a0,a1,a2,())
def Zka(n:Nat)(x0:Ty7)(x1:Int):Option (List (Int×Unit)×Bool×Int×Unit):=itr Yee prog 145 F145 n 16 (x0,x1,())
def Zb8(n:Nat)(x0:Ty7)(x1 x2 x3:Int):Option (List (Int×Unit)×Bool×Int×Unit):=itr Yee prog 145 F145 n 21 (x0,x1,x2,x3,())
theorem Z09 a0 a1 a2:Eq (Zhg a0 a1 a2)<|(Zez a0).bind λe0=>bif e0.2.1 !=0 then some ([],false,e0.2.1,())else let k1:=some ([],false,2,());bif a1<0 then k1 else bif a1>=ofNat a0.length then k1 else(Zfk a2).bind λe1=>bif !e1.1 then k1 else(bif Ze a0.length 8 then some (a0,())else none).bind λe2=>ixb e2.1 a1 λe3=>ixb e2.1 a1 λe4=>bif ofNat (List.length (List.set e2.1 a1.toNat (tmm true e3.1 a2,e4.2)))<1 then none else Zka fuel (List.set e2.1 a1.toNat (tmm true e3.1 a2,e4.2)) e0.1:=mkE
theorem Zua n x0 x1:Eq (Zka (n+1) x0 x1)<|bif 0<x0.length then(x0[0]?).bind λe0=>Zb8 n x0 e0.1 1 x1 else none:=mkI
theorem Zkb n x0 x1 x2 x3:Eq (Zb8 (n+1) x0 x1 x2 x3)<|bif x2<ofNat x0.length then ixb x0 x2 λe0=>Zb8 n x0 (tmm false x1 e0.1) (wrap .i64 (x2+1)) x3 else some (x0,decide (x1>x3),0,()):=mkI
def Ypg:Tb:=[(125,Z4z)]
def F147:TFun:=⟨[],[(8,qc [qn 1,qi,qn 2,[.c (.rowN 146 11 Tq2)],[.c (.rowN 146 11 Tq2)],qn 9,[.c (.p (.sl Tq2))],qi,qi,qn 19])],[.c (.sl Tq2),.c di],[.c (.s 146 11 Tq2),.c (.s 146 11 Tq2),.c (.p di)],qc [qn 4,[.c (.rowN 146 11 Tq2)],[.c (.rowN 146 11 Tq2)],qi,qn 30],[],[],0⟩
def Zy1:=mkC Ypg prog 147 F147
theorem Y0s:Zy1.ok prog 147:=mkO ⟨Yly,trivial⟩
def Z6f:TCon:=⟨Zy1.args,[.c (.p (.sl Tq2)),.c (.p (.sl Tq2)),.c (.p di)],Zy1.fn⟩
theorem Yph:Z6f.ok prog 147:=TCon.frz (c:=Zy1) Y0s rfl
def Zjk(a0:(List Ty3))(a1:Int):Option (List Ty3×List Ty3×Int×Unit):=Zy1.fn (a0,a1,())
def Zbv(n:Nat)(x0:Int)(x1 x2 x3:(List Ty3))(x4 x5:Int):Option (List Ty3×List Ty3×Int×Unit):=itr Ypg prog 147 F147 n 8 (x0,x1,x2,x3,x4,x5,())
theorem Z6g a0 a1:Eq (Zjk a0 a1)<|(Zci a0).bind λe0=>bif e0.1 !=0 then some ([],[],e0.1,())else Zbv fuel a1 ([]) ([]) a0 (ofNat a0.length) 0:=mkE
theorem Zon n x0 x1 x2 x3 x4 x5:Eq (Zbv (n+1) x0 x1 x2 x3 x4 x5)<|bif x5<x4 then ix x3 x5 λe0=>bif e0.2.2.1<=x0 then bif Ze (x1.length+List.length [e0]) 88 then Zbv n x0 (x1++[e0]) x2 x3 x4 (wrap .i64 (x5+1))else none else bif Ze (x2.length+List.length [e0]) 88 then Zbv n x0 x1 (x2++[e0]) x3 x4 (wrap .i64 (x5+1))else none else some (x1,x2,0,()):=mkI
def Yw4:Tb:=[(44,Z2t)]
def F139:TFun:=⟨[],[],[.a Tq11],[.c (.p db)],qc [qn 2,qb,qn 9],[],[],0⟩
def Z6h:=mkC Yw4 prog 139 F139
theorem Yt5:Z6h.ok prog 139:=mkO ⟨ok44,trivial⟩
def Ze6(a0:Ty6):Option (Bool×Unit):=Z6h.fn (a0,())
theorem Zhh a0:Eq (Ze6 a0)<|(Yk a0).bind λe0=>some (e0.2.1==0,()):=mkE
def Y0t:Tb:=[(66,Zoa),(87,Zg1),(62,Zmw)]
def F80:TFun:=⟨[],[],[.a Tq1,.a Tq4],[.a Yd9,.c (.p di)],qc [qn 4,[.boxN 59 9 Yd8],qi,qn 72],[],[],0⟩
def Z96:=mkC Y0t prog 80 F80
theorem ok80:Z96.ok prog 80:=mkO ⟨ok66,ok87,ok62,trivial⟩
def Ypi:TCon:=⟨Z96.args,[.a Zsh,.c (.p di)],Z96.fn⟩
theorem Y0u:Ypi.ok prog 80:=TCon.frz (c:=Z96) ok80 rfl
def Zsk(a0:Ty1)(a1:Ty4):Option Ty11:=Z96.fn (a0,a1,())
theorem Z97 a0 a1:Eq (Zsk a0 a1)<|(Yt a0).bind λe0=>bif e0.1 !=0 then some (((0,0,0,[],[],[],[],[],[],()),e0.1,()))else let k1:Option Ty11:=(Zr a1).bind λe1=>bif e1.1 !=0 then some (((0,0,0,[],[],[],[],[],[],()),8,()))else let k5:Option Ty11:=let k7:Option Ty11:=bif tmm true (ofNat a0.2.2.2.2.2.2.2.1.length) (ofNat a0.2.2.2.2.2.2.2.2.1.length)==4000 then some (((0,0,0,[],[],[],[],[],[],()),4,()))else(Zm a0 []).bind λe2=>bif a0.1==7 then bif Ze (e2.1.2.2.2.2.2.2.2.2.1.length+List.length [(a1.2.1,a1.2.2.1,a1.2.2.2.1,())]) 24 then some (((e2.1.1,e2.1.2.1,e2.1.2.2.1,e2.1.2.2.2.1,e2.1.2.2.2.2.1,e2.1.2.2.2.2.2.1,e2.1.2.2.2.2.2.2.1,e2.1.2.2.2.2.2.2.2.1,e2.1.2.2.2.2.2.2.2.2.1++[(a1.2.1,a1.2.2.1,a1.2.2.2.1,())],()),0,()))else none else bif Ze (e2.1.2.2.2.2.2.2.2.1.length+List.length [a1.2.2.2.2.2]) 40 then some (((e2.1.1,e2.1.2.1,e2.1.2.2.1,e2.1.2.2.2.1,e2.1.2.2.2.2.1,e2.1.2.2.2.2.2.1,e2.1.2.2.2.2.2.2.1,e2.1.2.2.2.2.2.2.2.1++[a1.2.2.2.2.2],e2.1.2.2.2.2.2.2.2.2.1,()),0,()))else none;bif !a0.1==7 then bif a1.1 !=3 then some (((0,0,0,[],[],[],[],[],[],()),8,()))else k7 else k7;bif a0.1==7 then bif a1.1 !=4 then some (((0,0,0,[],[],[],[],[],[],()),8,()))else k5 else k5;bif !a0.1==7 then bif a0.1 !=6 then some (((0,0,0,[],[],[],[],[],[],()),2,()))else k1 else k1:=mkE
def Yhg:Tb:=[(61,Yt3),(59,Yo8),(62,Yo9),(60,Yeb)]
def F34:TFun:=⟨[2],[(2,qc [qn 1,[.boxN 35 14 Z6b],[.boxN 35 14 Yea],qn 50]),(4,qc [qn 1,[.boxN 35 14 Z6b],[.boxN 35 14 Yea],qn 12,qi,qi,qn 36]),(11,qc [qn 1,[.boxN 35 14 Z6b],[.boxN 35 14 Yea],qn 32,qi,qi,qn 16])],[.a Tq10],[.a [.p (.int .u8),.p (.sl Tq5),.p (.sl Tq13),.p db,.p (.sl Tq5),.p (.int .u8),.p di,.p di,.p db,.p (.int .u8),.p (.sl Tq17),.p (.sl Tq6),.s 59 9 Tq1,.s 75 2 Tq14]],qc [qn 2,[.boxN 35 14 Z6b],qn 50],[],[],0⟩
def Yhh:=mkC Yhg prog 34 F34
theorem ok34:Yhh.ok prog 34:=mkO ⟨ok61,ok59,Y0n,Yty,trivial⟩
def Zd3(a0:Ty2):Option (Ty2×Unit):=Yhh.fn (a0,())
def Zoo(n:Nat)(x0:Int)(x1:(List Ty5))(x2:Ty7)(x3:Bool)(x4:(List Ty5))(x5 x6 x7:Int)(x8:Bool)(x9:Int)(x10:(List Ty8))(x11:(List Ty5))(x12:(List Ty1))(x13:(List Ty9)):Option (Ty2×Unit):=itr Yhg prog 34 F34 n 2 (x0,x1,x2,x3,x4,x5,x6,x7,x8,x9,x10,x11,x12,x13,())
def Zem(n:Nat)(x0:Int)(x1:(List Ty5))(x2:Ty7)(x3:Bool)(x4:(List Ty5))(x5 x6 x7:Int)(x8:Bool)(x9:Int)(x10:(List Ty8))(x11:(List Ty5))(x12:(List Ty1))(x13:(List Ty9))(x14 x15:Int):Option (Ty2×Unit):=itr Yhg prog 34 F34 n 4 (x0,x1,x2,x3,x4,x5,x6,x7,x8,x9,x10,x11,x12,x13,x14,x15,())
def Zbe(n:Nat)(x0:Int)(x1:(List Ty5))(x2:Ty7)(x3:Bool)(x4:(List Ty5))(x5 x6 x7:Int)(x8:Bool)(x9:Int)(x10:(List Ty8))(x11:(List Ty5))(x12:(List Ty1))(x13:(List Ty9))(x14 x15:Int):Option (Ty2×Unit):=itr Yhg prog 34 F34 n 11 (x0,x1,x2,x3,x4,x5,x6,x7,x8,x9,x10,x11,x12,x13,x14,x15,())
theorem Z6i a0:Eq (Zd3 a0)<|(bif Ze a0.2.2.2.2.2.2.2.2.2.2.2.2.1.length 168 then some (a0.2.2.2.2.2.2.2.2.2.2.2.2.1,())else none).bind λe0=>(bif Ze a0.2.2.2.2.2.2.2.2.2.2.2.2.2.1.length 32 then some (a0.2.2.2.2.2.2.2.2.2.2.2.2.2.1,())else none).bind λe1=>Zem fuel a0.1 a0.2.1 a0.2.2.1 a0.2.2.2.1 a0.2.2.2.2.1 a0.2.2.2.2.2.1 a0.2.2.2.2.2.2.1 a0.2.2.2.2.2.2.2.1 a0.2.2.2.2.2.2.2.2.1 a0.2.2.2.2.2.2.2.2.2.1 a0.2.2.2.2.2.2.2.2.2.2.1 a0.2.2.2.2.2.2.2.2.2.2.2.1 e0.1 e1.1 (ofNat e0.1.length) 0:=mkE
theorem Z1a n x0 x1 x2 x3 x4 x5 x6 x7 x8 x9 x10 x11 x12 x13:Eq (Zoo (n+1) x0 x1 x2 x3 x4 x5 x6 x7 x8 x9 x10 x11 x12 x13)<|Zbe n x0 x1 x2 x3 x4 x5 x6 x7 x8 x9 x10 x11 x12 x13 (ofNat x13.length) 0:=mkI
theorem Zop n x0 x1 x2 x3 x4 x5 x6 x7 x8 x9 x10 x11 x12 x13 x14 x15:Eq (Zem (n+1) x0 x1 x2 x3 x4 x5 x6 x7 x8 x9 x10 x11 x12 x13 x14 x15)<|bif x15<x14 then ixb x12 x15 λe0=>(Zm e0 []).bind λe1=>ixb x12 x15 λe2=>Zem n x0 x1 x2 x3 x4 x5 x6 x7 x8 x9 x10 x11 (List.set x12 x15.toNat (e1.1.1,e1.1.2.1,e1.1.2.2.1,e1.1.2.2.2.1,e1.1.2.2.2.2.1,e1.1.2.2.2.2.2.1,e1.1.2.2.2.2.2.2.1,e1.1.2.2.2.2.2.2.2.1,e1.1.2.2.2.2.2.2.2.2.1,e2.2.2.2.2.2.2.2.2.2)) x13 x14 (wrap .i64 (x15+1))else Zoo n x0 x1 x2 x3 x4 x5 x6 x7 x8 x9 x10 x11 x12 x13:=mkI
theorem Zmy n x0 x1 x2 x3 x4 x5 x6 x7 x8 x9 x10 x11 x12 x13 x14 x15:Eq (Zbe (n+1) x0 x1 x2 x3 x4 x5 x6 x7 x8 x9 x10 x11 x12 x13 x14 x15)<|bif x15<x14 then ixb x13 x15 λe0=>(Zj 80 e0.2.1).bind λe1=>ixb x13 x15 λe2=>Zbe n x0 x1 x2 x3 x4 x5 x6 x7 x8 x9 x10 x11 x12 (List.set x13 x15.toNat (e2.1,e1.1,e2.2.2)) x14 (wrap .i64 (x15+1))else some (((x0,x1,x2,x3,x4,x5,x6,x7,x8,x9,x10,x11,x12,x13,()),())):=mkI
def Ypj:Tb:=[(249,Ydr),(250,Ydt)]
def F219:TFun:=⟨[],[(10,qc [qn 7,[.boxN 328 5 [.p di,.p di,.p di,.p di,.p di]],[.c (.rowN 2 1 Tq13)],qn 19,[.c (.p (.sl Tq5))],qi,qi,qn 49])],[.c (.sl Tq5),.a Tq9],[.c (.s 2 1 Tq13),.c (.p di)],qc [qn 4,[.c (.rowN 2 1 Tq13)],qi,qn 74],[],[],0⟩
def Zy2:=mkC Ypj prog 219 F219
theorem Y0v:Zy2.ok prog 219:=mkO ⟨Yzz,Yz1,trivial⟩
def Yhi:TCon:=⟨Zy2.args,[.c (.p (.sl Tq13)),.c (.p di)],Zy2.fn⟩
theorem Yw5:Yhi.ok prog 219:=TCon.frz (c:=Zy2) Y0v rfl
def Z3f(a0:(List Ty5))(a1:Ty10):Option (List (Int×Unit)×Int×Unit):=Zy2.fn (a0,a1,())
def Yp(n:Nat)(x0 x1 x2 x3 x4:Int)(x5:Ty7)(x6:(List Ty5))(x7 x8:Int):Option (List (Int×Unit)×Int×Unit):=itr Ypj prog 219 F219 n 10 (x0,x1,x2,x3,x4,x5,x6,x7,x8,())
theorem Z98 a0 a1:Eq (Z3f a0 a1)<|(Ztm a0).bind λe0=>bif e0.1 !=0 then some ([],e0.1,())else bif decide (toNat (ofNat a0.length)<=toNat (ofNat a0.length))&&(decide (8*toNat (ofNat a0.length)<=281474976710656)&&decide (toNat (ofNat a0.length)<=9223372036854775807))then Yp fuel 0 0 a1.1 a1.2.1 a1.2.2.1 (List.replicate (toNat (ofNat a0.length)) (0,())) a0 (ofNat a0.length) 0 else none:=mkE
theorem Zoq n x0 x1 x2 x3 x4 x5 x6 x7 x8:Eq (Yp (n+1) x0 x1 x2 x3 x4 x5 x6 x7 x8)<|bif x8<x7 then ix x6 x8 λe0=>bif e0.1==1 then ixb x5 x8 λe1=>Yp n x0 x1 x2 x3 x4 (List.set x5 x8.toNat (e0.2.1,e1.2)) x6 x7 (wrap .i64 (x8+1))else bif e0.1<=4 then bif 0<=e0.1 then bif e0.1.toNat=nat_lit 4 then ixb x5 x8 λe1=>Yp n x0 x1 x2 x3 x4 (List.set x5 x8.toNat (x4,e1.2)) x6 x7 (wrap .i64 (x8+1))else bif e0.1.toNat=nat_lit 3 then ixb x5 x8 λe1=>Yp n x0 x1 x2 x3 x4 (List.set x5 x8.toNat (x3,e1.2)) x6 x7 (wrap .i64 (x8+1))else bif e0.1.toNat=nat_lit 2 then ixb x5 x8 λe1=>Yp n x0 x1 x2 x3 x4 (List.set x5 x8.toNat (x2,e1.2)) x6 x7 (wrap .i64 (x8+1))else bif e0.1.toNat=nat_lit 1 then ixb x5 x8 λe1=>Yp n x0 x1 x2 x3 x4 (List.set x5 x8.toNat (x1,e1.2)) x6 x7 (wrap .i64 (x8+1))else bif e0.1.toNat=nat_lit 0 then ixb x5 x8 λe1=>Yp n x0 x1 x2 x3 x4 (List.set x5 x8.toNat (x0,e1.2)) x6 x7 (wrap .i64 (x8+1))else none else none else ixb x5 e0.2.2.1 λe1=>ixb x5 e0.2.2.2.1 λe2=>(Z5x e0.1 e1.1 e2.1).bind λe3=>bif e3.2.1 !=0 then some ([],e3.2.1,())else ixb x5 x8 λe4=>Yp n x0 x1 x2 x3 x4 (List.set x5 x8.toNat (e3.1,e4.2)) x6 x7 (wrap .i64 (x8+1))else some (x5,0,()):=mkI
def Yw6:Tb:=[(219,Yhi)]
def F184:TFun:=⟨[],[],[.c (.sl Tq5),.a Tq9],[.c (.p di),.c (.p di)],qc [qn 4,qi,qi,qn 17],[],[],0⟩
def Yef:=mkC Yw6 prog 184 F184
theorem Y0w:Yef.ok prog 184:=mkO ⟨Yw5,trivial⟩
def Zq5(a0:(List Ty5))(a1:Ty10):Option Ty8:=Yef.fn (a0,a1,())
theorem Yeg a0 a1:Eq (Zq5 a0 a1)<|(Z3f a0 a1).bind λe0=>bif e0.2.1 !=0 then some (0,e0.2.1,())else ix e0.1 (wrap .i64 (ofNat e0.1.length-1)) λe1=>some (e1.1,0,()):=mkE
def Yeh:Tb:=[(139,Z6h),(87,Zg1),(184,Yef)]
def F140:TFun:=⟨[6,13],[(6,qc [qn 2,[.boxN 27 10 [.p (.int .u8),.p (.sl Tq5),.any,.any,.any,.any,.any,.any,.p db,.any]],[.boxN 79 3 [.p di,.p di,.p di]],[.boxN 79 3 [.any,.any,.any]],qn 49]),(13,qc [qn 2,[.boxN 27 10 [.any,.any,.any,.any,.any,.any,.any,.any,.p db,.any]],[.boxN 79 3 [.p di,.any,.any]],[.boxN 79 3 [.any,.any,.any]],qn 4,[.boxN 79 3 [.p di,.p di,.p di]],qn 44])],[.a Tq11,.a Tq9],[.a [.p di,.p di,.p di],.c (.p db),.c (.p di)],qc [qn 4,[.boxN 79 3 [.p di,.p di,.p di]],qb,qi,qn 47],[],[],0⟩
def Yei:=mkC Yeh prog 140 F140
theorem Y0x:Yei.ok prog 140:=mkO ⟨Yt5,ok87,Y0w,trivial⟩
def Zgo(a0:Ty6)(a1:Ty10):Option (Ty10×Bool×Int×Unit):=Yei.fn (a0,a1,())
def Zdh(n:Nat)(x0:Int)(x1:(List Ty5))(x2:Bool)(x3 x4 x5:Int):Option (Ty10×Bool×Int×Unit):=itr Yeh prog 140 F140 n 6 (x0,x1,x2,x3,x4,x5,())
def Zam(n:Nat)(x0:Bool)(x1 x2 x3 x4:Int):Option (Ty10×Bool×Int×Unit):=itr Yeh prog 140 F140 n 13 (x0,x1,x2,x3,x4,())
theorem Zsl a0 a1:Eq (Zgo a0 a1)<|(Ze6 a0).bind λe0=>bif !e0.1 then some (((0,0,0,()),false,8,()))else(Zr (1,a1.1,a1.2.1,a1.2.2.1,0,0,0,0,0,0,())).bind λe1=>bif e1.1 !=0 then some (((0,0,0,()),false,8,()))else let k1:=Zdh fuel a0.1 a0.2.1 a0.2.2.2.2.2.2.2.2.1 a1.1 a1.2.1 a1.2.2.1;bif ofNat a0.2.2.2.2.1.length>0 then(Zq5 a0.2.2.2.2.1 a1).bind λe2=>bif e2.1==0 then some (((0,0,0,()),false,0,()))else k1 else k1:=mkE
theorem Zq6 n x0 x1 x2 x3 x4 x5:Eq (Zdh (n+1) x0 x1 x2 x3 x4 x5)<|bif x0 !=1 then(Zq5 x1 (x3,x4,x5,())).bind λe0=>Zam n x2 x3 0 x4 e0.1 else Zam n x2 x3 0 x4 0:=mkI
theorem Zpi n x0 x1 x2 x3 x4:Eq (Zam (n+1) x0 x1 x2 x3 x4)<|bif x0 then some (((x1,x3,x4,()),true,0,()))else some (((x2,x3,x4,()),true,0,())):=mkI
def Yw7:Tb:=[(44,Z2t)]
def F143:TFun:=⟨[],[],[.a Tq11],[.c (.p db)],qc [qn 2,qb,qn 14],[],[],0⟩
def Yej:=mkC Yw7 prog 143 F143
theorem Y0y:Yej.ok prog 143:=mkO ⟨ok44,trivial⟩
def Zq7(a0:Ty6):Option (Bool×Unit):=Yej.fn (a0,())
theorem Zy3 a0:Eq (Zq7 a0)<|(Yk a0).bind λe0=>bif e0.2.1==0 then some (!a0.2.2.2.1,())else some (false,()):=mkE
end
end Tg

/- Functions of the code, told plainly and checked by the kernel. -/
namespace Tg
noncomputable section
open Go.Abs hiding fuel
open Go.Proofs.Tryz (prog)
open Int (ofNat toNat)
open Go.IntKind (wrap)
def Yt6:Tb:=[(66,Zoa),(141,Ydu),(87,Zg1),(142,Ydv),(62,Zmw)]
def F77:TFun:=⟨[],[(21,qc [qn 3,[.boxN 59 9 [.p (.int .u8),.p di,.p di,.p (.sl Tq3),.p (.sl Tq13),.p (.sl Tq2),.p (.sl Tq7),.p (.sl Tq6),.p (.sl Tq9)]],[.boxN 108 10 [.p (.int .u8),.p di,.p di,.p di,.p di,.p di,.p di,.p di,.p di,.p di]],qn 1,[.boxN 59 9 [.any,.any,.any,.nil,.nil,.nil,.nil,.nil,.nil]],qn 4,[.c (.rowN 3 1 Tq13)],qn 58,qi,qi,qn 14])],[.a Tq1,.a Tq4,.c di],[.a [.p (.int .u8),.p di,.p di,.s 126 11 Tq3,.s 2 1 Tq13,.s 146 11 Tq2,.s 81 5 Tq7,.s 106 5 Tq6,.s 79 3 Tq9],.c (.p di)],qc [qn 6,[.boxN 59 9 [.p (.int .u8),.p di,.p di,.rowN 126 11 Tq3,.rowN 2 1 Tq13,.rowN 146 11 Tq2,.rowN 81 5 Tq7,.rowN 106 5 Tq6,.rowN 79 3 Tq9]],qi,qn 78],[],[],0⟩
def Ypk:=mkC Yt6 prog 77 F77
theorem ok77:Ypk.ok prog 77:=mkO ⟨ok66,Yz2,ok87,Yz3,ok62,trivial⟩
def Zsm(a0:Ty1)(a1:Ty4)(a2:Int):Option Ty11:=Ypk.fn (a0,a1,a2,())
def Zbw(n:Nat)(x0 x1 x2:Int)(x3:(List Ty3))(x4:Ty7)(x5:(List Ty3))(x6:Ty12)(x7:(List Ty5))(x8:(List Ty10))(x9 x10 x11 x12 x13 x14 x15 x16 x17 x18:Int)(x19:Ty7)(x20 x21:Int):Option Ty11:=itr Yt6 prog 77 F77 n 21 (x0,x1,x2,x3,x4,x5,x6,x7,x8,x9,x10,x11,x12,x13,x14,x15,x16,x17,x18,x19,x20,x21,())
theorem Z99 a0 a1 a2:Eq (Zsm a0 a1 a2)<|(Yt a0).bind λe0=>bif e0.1 !=0 then some (((0,0,0,[],[],[],[],[],[],()),e0.1,()))else(Z5y a1.2.1 a2).bind λe1=>bif a0.1 !=3 then some (((0,0,0,[],[],[],[],[],[],()),2,()))else bif e1.2.1 !=0 then some (((0,0,0,[],[],[],[],[],[],()),2,()))else(Zr a1).bind λe2=>bif e2.1 !=0 then some (((0,0,0,[],[],[],[],[],[],()),8,()))else let k1:Option Ty11:=bif ofNat a0.2.2.2.1.length>0 then some (((0,0,0,[],[],[],[],[],[],()),18,()))else bif a1.1==1 then(Zuu a1 [(e1.1,())]).bind λe3=>(Zm a0 e3.1).bind λe4=>some (e4.1,e4.2.1,())else Zbw fuel a0.1 a0.2.1 a0.2.2.1 a0.2.2.2.1 a0.2.2.2.2.1 a0.2.2.2.2.2.1 a0.2.2.2.2.2.2.1 a0.2.2.2.2.2.2.2.1 a0.2.2.2.2.2.2.2.2.1 a1.1 a1.2.1 a1.2.2.1 a1.2.2.2.1 a1.2.2.2.2.1 a1.2.2.2.2.2.1 a1.2.2.2.2.2.2.1 a1.2.2.2.2.2.2.2.1 a1.2.2.2.2.2.2.2.2.1 a1.2.2.2.2.2.2.2.2.2.1 ([]) a2 0;bif a1.1 !=1 then bif a1.1 !=2 then some (((0,0,0,[],[],[],[],[],[],()),8,()))else k1 else k1:=mkE
theorem Zor n x0 x1 x2 x3 x4 x5 x6 x7 x8 x9 x10 x11 x12 x13 x14 x15 x16 x17 x18 x19 x20 x21:Eq (Zbw (n+1) x0 x1 x2 x3 x4 x5 x6 x7 x8 x9 x10 x11 x12 x13 x14 x15 x16 x17 x18 x19 x20 x21)<|bif x21<x20 then bif Ze (x19.length+List.length [(x21,())]) 8 then Zbw n x0 x1 x2 x3 x4 x5 x6 x7 x8 x9 x10 x11 x12 x13 x14 x15 x16 x17 x18 (x19++[(x21,())]) x20 (wrap .i64 (x21+1))else none else(Zuu (x9,x10,x11,x12,x13,x14,x15,x16,x17,x18,()) x19).bind λe0=>(Zm (x0,x1,x2,x3,x4,x5,x6,x7,x8,()) e0.1).bind λe1=>some (e1.1,e1.2.1,()):=mkI
end
end Tg

/- Functions of the code, told plainly and checked by the kernel. -/
namespace Tg
noncomputable section
open Go.Abs hiding fuel
open Go.Proofs.Tryz (prog)
open Int (ofNat toNat)
open Go.IntKind (wrap)
abbrev Zy4:List Go.Abs.RCT:=[.p (.int .u8),.p di,.p di,.p (.sl Tq3),.p (.sl Tq13),.p (.sl Tq2),.p (.sl Tq7),.p (.sl Tq6),.p (.sl Tq9)]
abbrev Z6j:List Go.Abs.SC:=[.p (.int .u8),.p di,.p di,.rowN 126 11 Tq3,.rowN 2 1 Tq13,.rowN 146 11 Tq2,.rowN 81 5 Tq7,.rowN 106 5 Tq6,.rowN 79 3 Tq9]
abbrev Z6k:List Go.Abs.RCT:=[.p (.int .u8),.p di,.p di,.s 126 11 Tq3,.s 2 1 Tq13,.s 146 11 Tq2,.s 81 5 Tq7,.s 106 5 Tq6,.s 79 3 Tq9]
abbrev Yek:List Go.Abs.SC:=[.p (.int .u8),.p di,.p di,.p (.sl Tq3),.p (.sl Tq13),.p (.sl Tq2),.p (.sl Tq7),.p (.sl Tq6),.p (.sl Tq9)]
def Y0z:Tb:=[(63,Ypd),(64,Yge),(65,Yo7),(62,Zmw)]
def F35:TFun:=⟨[],[],[.a Tq1],[.a Z6k,.c (.p di)],qc [qn 2,[.boxN 59 9 Z6j],qi,qn 47],[],[],0⟩
def Yaa:=mkC Y0z prog 35 F35
theorem ok35:Yaa.ok prog 35:=mkO ⟨ok63,ok64,Y0k,ok62,trivial⟩
def Ypl:TCon:=⟨Yaa.args,[.a Zy4,.c (.p di)],Yaa.fn⟩
theorem Y00:Ypl.ok prog 35:=TCon.frz (c:=Yaa) ok35 rfl
def Zmz(a0:Ty1):Option Ty11:=Yaa.fn (a0,())
theorem Z1b a0:Eq (Zmz a0)<|(Zq4 a0).bind λe0=>bif e0.1 !=0 then some (((0,0,0,[],[],[],[],[],[],()),e0.1,()))else bif ofNat a0.2.2.2.1.length>0 then some (((0,0,0,[],[],[],[],[],[],()),18,()))else bif ofNat a0.2.2.2.2.2.2.1.length==0 then some (((0,0,0,[],[],[],[],[],[],()),6,()))else(a0.2.2.2.2.2.2.1[0]?).bind λe1=>(Zi0 e1).bind λe2=>(Zj 40 a0.2.2.2.2.2.2.1).bind λe3=>bif toNat (ofNat a0.2.2.2.2.2.2.1.length)=toNat (ofNat a0.2.2.2.2.2.2.1.length)then bif decide (1<=toNat (ofNat a0.2.2.2.2.2.2.1.length))&&decide (toNat (ofNat a0.2.2.2.2.2.2.1.length)<=e3.1.length)then bif 1=toNat (ofNat a0.2.2.2.2.2.2.1.length)then(Zm (a0.1,a0.2.1,a0.2.2.1,a0.2.2.2.1,a0.2.2.2.2.1,a0.2.2.2.2.2.1,[],a0.2.2.2.2.2.2.2) [(0,e2.1)]).bind λe4=>some (e4.1,e4.2.1,())else(Zm (a0.1,a0.2.1,a0.2.2.1,a0.2.2.2.1,a0.2.2.2.2.1,a0.2.2.2.2.2.1,List.drop 1 (List.take (toNat (ofNat a0.2.2.2.2.2.2.1.length)) e3.1),a0.2.2.2.2.2.2.2) [(0,e2.1)]).bind λe4=>some (e4.1,e4.2.1,())else none else none:=mkE
def Y01:Tb:=[(139,Z6h),(66,Zoa),(87,Zg1),(62,Zmw),(69,Yhe),(140,Yei)]
def F76:TFun:=⟨[],[],[.a Tq11,.a Tq1,.a Tq4],[.a Z6k,.c (.p di)],qc [qn 6,[.boxN 59 9 Z6j],qi,qn 116],[],[],0⟩
def Yab:=mkC Y01 prog 76 F76
theorem ok76:Yab.ok prog 76:=mkO ⟨Yt5,ok66,ok87,ok62,ok69,Y0x,trivial⟩
def Ypm:TCon:=⟨Yab.args,[.a Zy4,.c (.p di)],Yab.fn⟩
theorem Y02:Ypm.ok prog 76:=TCon.frz (c:=Yab) ok76 rfl
def Zm0(a0:Ty6)(a1:Ty1)(a2:Ty4):Option Ty11:=Yab.fn (a0,a1,a2,())
theorem Z1c a0 a1 a2:Eq (Zm0 a0 a1 a2)<|(Ze6 a0).bind λe0=>bif !e0.1 then some (((0,0,0,[],[],[],[],[],[],()),8,()))else(Yt a1).bind λe1=>bif e1.1 !=0 then some (((0,0,0,[],[],[],[],[],[],()),e1.1,()))else bif a1.1 !=2 then some (((0,0,0,[],[],[],[],[],[],()),2,()))else(Zr a2).bind λe2=>bif e2.1 !=0 then some (((0,0,0,[],[],[],[],[],[],()),8,()))else let k1:Option Ty11:=bif ofNat a1.2.2.2.1.length>0 then some (((0,0,0,[],[],[],[],[],[],()),18,()))else(a1.2.2.2.2.1[0]?).bind λe3=>let k3:=(Zm a1 []).bind λe4=>some (e4.1,e4.2.1,());bif a2.1==2 then bif a2.2.2.2.2.1<=e3.1 then k3 else(bif Ze a1.2.2.2.2.1.length 8 then some (a1.2.2.2.2.1,())else none).bind λe4=>bif 0<e4.1.length then(e4.1[0]?).bind λe5=>(Zm (a1.1,a1.2.1,a1.2.2.1,a1.2.2.2.1,List.set e4.1 0 (a2.2.2.2.2.1,e5.2),a1.2.2.2.2.2) [(0,a2)]).bind λe6=>some (e6.1,e6.2.1,())else none else bif a2.2.2.1<e3.1 then bif a0.2.2.2.2.2.2.2.2.2.1 !=2 then k3 else(Zm a1 [(1,4,a2.2.1,a2.2.2.1,a2.2.2.2.1,0,0,0,0,0,0,())]).bind λe4=>some (e4.1,e4.2.1,())else(Zgo a0 (a2.2.1,a2.2.2.1,a2.2.2.2.1,())).bind λe4=>bif !e4.2.1 then(Zm a1 []).bind λe5=>some (e5.1,e5.2.1,())else(Zm a1 [(0,1,e4.1.1,e4.1.2.1,e4.1.2.2.1,0,0,0,0,0,0,())]).bind λe5=>some (e5.1,e5.2.1,());bif a2.1 !=1 then bif a2.1 !=2 then some (((0,0,0,[],[],[],[],[],[],()),8,()))else k1 else k1:=mkE
def Yt7:Tb:=[(143,Yej),(66,Zoa),(87,Zg1),(144,Z6a),(62,Zmw),(145,Z6e),(146,Zyy),(147,Z6f),(194,Z5z)]
def F78:TFun:=⟨[],[(49,qc [[.c (.yl)],qn 1,[.boxN 27 10 [.p (.int .u8),.any,.any,.any,.any,.any,.any,.any,.any,.any]],qn 5,[.c (.p (.sl Tq2))],qi,qi,qn 23,[.c (.k 0)],qn 5,[.boxN 59 9 Yek],qn 2,[.boxN 59 9 [.any,.any,.any,.nil,.nil,.nil,.nil,.nil,.nil]],qn 12,[.boxN 52 1 [.rowN 126 11 Tq3]],[.boxN 225 1 [.fnp 148 3 0]],qn 118])],[.a Tq11,.a Tq1,.c di,.a Tq4],[.a Z6k,.c (.p di)],qc [qn 8,[.boxN 59 9 Z6j],qi,qn 131],[(58,[148]),(57,[4294967295]),(47,[193]),(44,[149])],[(49,[1,141])],8⟩
def Yac:=mkC Yt7 prog 78 F78
theorem ok78:Yac.ok prog 78:=mkO ⟨Y0y,ok66,ok87,Yo4,ok62,Ypf,Ype,Yph,Ytt,trivial⟩
def Ypn:TCon:=⟨Yac.args,[.a Zy4,.c (.p di)],Yac.fn⟩
theorem Y03:Ypn.ok prog 78:=TCon.frz (c:=Yac) ok78 rfl
def Zy5(a0:Ty6)(a1:Ty1)(a2:Int)(a3:Ty4):Option Ty11:=Yac.fn (a0,a1,a2,a3,())
def Zfm(n:Nat)(x0:Int)(x1:(List Ty3))(x2 x3 x4 x5 x6:Int)(x7:(List Ty3))(x8:Ty7)(x9:(List Ty3))(x10:Ty12)(x11:(List Ty5))(x12:(List Ty10))(x13:(List Ty3)):Option Ty11:=itr Yt7 prog 78 F78 n 49 (x0,x1,x2,x3,x4,x5,x6,x7,x8,x9,x10,x11,x12,x13,())
theorem Yel a0 a1 a2 a3:Eq (Zy5 a0 a1 a2 a3)<|(Zq7 a0).bind λe0=>bif !e0.1 then some (((0,0,0,[],[],[],[],[],[],()),8,()))else(Yt a1).bind λe1=>bif e1.1 !=0 then some (((0,0,0,[],[],[],[],[],[],()),e1.1,()))else bif a1.1 !=4 then some (((0,0,0,[],[],[],[],[],[],()),2,()))else bif a2<0 then some (((0,0,0,[],[],[],[],[],[],()),2,()))else bif a2>=ofNat a1.2.2.2.2.1.length then some (((0,0,0,[],[],[],[],[],[],()),2,()))else(Zr a3).bind λe2=>bif e2.1 !=0 then some (((0,0,0,[],[],[],[],[],[],()),8,()))else let k1:Option Ty11:=bif ofNat a1.2.2.2.1.length>0 then some (((0,0,0,[],[],[],[],[],[],()),18,()))else bif a3.1==1 then(Zd1 a1.2.2.2.2.2.1 (a0.2.2.2.2.2.1,a0.2.2.2.2.2.2.1,a0.2.2.2.2.2.2.2.1,()) (a3.2.1,a3.2.2.1,a3.2.2.2.1,()) 0).bind λe3=>bif e3.2.1 !=0 then some (((0,0,0,[],[],[],[],[],[],()),e3.2.1,()))else(Zm (a1.1,a1.2.1,a1.2.2.1,a1.2.2.2.1,a1.2.2.2.2.1,e3.1,a1.2.2.2.2.2.2) []).bind λe4=>some (e4.1,e4.2.1,())else(Zhg a1.2.2.2.2.1 a2 a3.2.2.2.2.1).bind λe3=>bif !e3.2.1 then(Zm (a1.1,a1.2.1,a1.2.2.1,a1.2.2.2.1,e3.1,a1.2.2.2.2.2) []).bind λe4=>some (e4.1,e4.2.1,())else(Zez e3.1).bind λe4=>(Zjk a1.2.2.2.2.2.1 e4.1).bind λe5=>Zfm fuel a0.1 e5.1 (ofNat e5.1.length) 0 a1.1 a1.2.1 a1.2.2.1 a1.2.2.2.1 e3.1 e5.2.1 a1.2.2.2.2.2.2.1 a1.2.2.2.2.2.2.2.1 a1.2.2.2.2.2.2.2.2.1 ([]);bif a3.1 !=1 then bif a3.1 !=2 then some (((0,0,0,[],[],[],[],[],[],()),8,()))else k1 else k1:=mkE
theorem Zq8 n x0 x1 x2 x3 x4 x5 x6 x7 x8 x9 x10 x11 x12 x13:Eq (Zfm (n+1) x0 x1 x2 x3 x4 x5 x6 x7 x8 x9 x10 x11 x12 x13)<|bif x3<x2 then ix x1 x3 λe0=>(Zde x0 (e0.2.2.2.1,e0.2.2.2.2.1,e0.2.2.2.2.2.1,e0.2.2.2.2.2.2.1,())).bind λe1=>bif Ze (x13.length+List.length [(0,3,0,0,0,0,e0.1,e0.2.1,e0.2.2.1,e1.1,0,())]) 88 then Zfm n x0 x1 x2 (wrap .i64 (x3+1)) x4 x5 x6 x7 x8 x9 x10 x11 x12 (x13++[(0,3,0,0,0,0,e0.1,e0.2.1,e0.2.2.1,e1.1,0,())])else none else(Zm (x4,x5,x6,x7,x8,x9,x10,x11,x12,()) x13).bind λe0=>some (e0.1,e0.2.1,()):=mkI
def Yw8:Tb:=[(44,Z2t)]
def F150:TFun:=⟨[],[],[.a Tq11],[.c (.p db)],qc [qn 2,qb,qn 13],[],[],0⟩
def Yem:=mkC Yw8 prog 150 F150
theorem Y04:Yem.ok prog 150:=mkO ⟨ok44,trivial⟩
def Zos(a0:Ty6):Option (Bool×Unit):=Yem.fn (a0,())
theorem Zub a0:Eq (Zos a0)<|(Yk a0).bind λe0=>bif e0.2.1==0 then some (a0.2.2.2.1,())else some (false,()):=mkE
def Yw9:Tb:=[(194,Z5z)]
def F151:TFun:=⟨[],[],[.a Tq11,.a Tq2],[.a [.p di,.p di,.p di,.p di,.p di],.c (.p db)],qc [qn 4,[.boxN 106 5 [.p di,.p di,.p di,.p di,.p di]],qb,qn 37],[],[],0⟩
def Yen:=mkC Yw9 prog 151 F151
theorem Y05:Yen.ok prog 151:=mkO ⟨Ytt,trivial⟩
def Zy6(a0:Ty6)(a1:Ty3):Option (Ty5×Bool×Unit):=Yen.fn (a0,a1,())
theorem Yeo a0 a1:Eq (Zy6 a0 a1)<|(Zde a0.1 (a1.2.2.2.1,a1.2.2.2.2.1,a1.2.2.2.2.2.1,a1.2.2.2.2.2.2.1,())).bind λe0=>(Zde a0.1 a1.2.2.2.2.2.2.2).bind λe1=>bif e0.2.1 !=0 then some (((0,0,0,0,0,()),false,()))else bif e1.2.1 !=0 then some (((0,0,0,0,0,()),false,()))else some (((a1.1,a1.2.1,a1.2.2.1,e0.1,e1.1,()),true,())):=mkE
def Yt8:Tb:=[(150,Yem),(66,Zoa),(87,Zg1),(144,Z6a),(62,Zmw),(145,Z6e),(146,Zyy),(147,Z6f),(151,Yen)]
def F79:TFun:=⟨[],[(43,qc [qn 4,[.boxN 27 10 [.p (.int .u8),.p (.sl Tq5),.p (.sl Tq13),.p db,.p (.sl Tq5),.p (.int .u8),.p di,.p di,.p db,.p (.int .u8)]],[.boxN 59 9 Yek],qn 2,[.boxN 59 9 [.any,.any,.any,.nil,.nil,.nil,.nil,.nil,.nil]],qn 12,[.c (.rowN 126 11 Tq3)],qn 106,[.c (.p (.sl Tq2))],qi,qi,qn 22])],[.a Tq11,.a Tq1,.c di,.a Tq4],[.a Z6k,.c (.p di)],qc [qn 8,[.boxN 59 9 Z6j],qi,qn 143],[],[],0⟩
def Yad:=mkC Yt8 prog 79 F79
theorem ok79:Yad.ok prog 79:=mkO ⟨Y04,ok66,ok87,Yo4,ok62,Ypf,Ype,Yph,Y05,trivial⟩
def Ypo:TCon:=⟨Yad.args,[.a Zy4,.c (.p di)],Yad.fn⟩
theorem Y06:Ypo.ok prog 79:=TCon.frz (c:=Yad) ok79 rfl
def Zsn(a0:Ty6)(a1:Ty1)(a2:Int)(a3:Ty4):Option Ty11:=Yad.fn (a0,a1,a2,a3,())
def Zbx(n:Nat)(x0:Int)(x1:(List Ty5))(x2:Ty7)(x3:Bool)(x4:(List Ty5))(x5 x6 x7:Int)(x8:Bool)(x9 x10 x11 x12:Int)(x13:(List Ty3))(x14:Ty7)(x15:(List Ty3))(x16:Ty12)(x17:(List Ty5))(x18:(List Ty10))(x19 x20:(List Ty3))(x21 x22:Int):Option Ty11:=itr Yt8 prog 79 F79 n 43 (x0,x1,x2,x3,x4,x5,x6,x7,x8,x9,x10,x11,x12,x13,x14,x15,x16,x17,x18,x19,x20,x21,x22,())
theorem Yae a0 a1 a2 a3:Eq (Zsn a0 a1 a2 a3)<|(Zos a0).bind λe0=>bif !e0.1 then some (((0,0,0,[],[],[],[],[],[],()),8,()))else(Yt a1).bind λe1=>bif e1.1 !=0 then some (((0,0,0,[],[],[],[],[],[],()),e1.1,()))else bif a1.1 !=5 then some (((0,0,0,[],[],[],[],[],[],()),2,()))else bif a2<0 then some (((0,0,0,[],[],[],[],[],[],()),2,()))else bif a2>1 then some (((0,0,0,[],[],[],[],[],[],()),2,()))else(Zr a3).bind λe2=>bif e2.1 !=0 then some (((0,0,0,[],[],[],[],[],[],()),8,()))else let k1:Option Ty11:=bif ofNat a1.2.2.2.1.length>0 then some (((0,0,0,[],[],[],[],[],[],()),18,()))else bif a3.1==1 then(Zd1 a1.2.2.2.2.2.1 (a0.2.2.2.2.2.1,a0.2.2.2.2.2.2.1,a0.2.2.2.2.2.2.2.1,()) (a3.2.1,a3.2.2.1,a3.2.2.2.1,()) a2).bind λe3=>bif e3.2.1 !=0 then some (((0,0,0,[],[],[],[],[],[],()),e3.2.1,()))else(Zm (a1.1,a1.2.1,a1.2.2.1,a1.2.2.2.1,a1.2.2.2.2.1,e3.1,a1.2.2.2.2.2.2) []).bind λe4=>some (e4.1,e4.2.1,())else(Zhg a1.2.2.2.2.1 a2 a3.2.2.2.2.1).bind λe3=>bif !e3.2.1 then(Zm (a1.1,a1.2.1,a1.2.2.1,a1.2.2.2.1,e3.1,a1.2.2.2.2.2) []).bind λe4=>some (e4.1,e4.2.1,())else(Zez e3.1).bind λe4=>(Zjk a1.2.2.2.2.2.1 e4.1).bind λe5=>Zbx fuel a0.1 a0.2.1 a0.2.2.1 a0.2.2.2.1 a0.2.2.2.2.1 a0.2.2.2.2.2.1 a0.2.2.2.2.2.2.1 a0.2.2.2.2.2.2.2.1 a0.2.2.2.2.2.2.2.2.1 a0.2.2.2.2.2.2.2.2.2.1 a1.1 a1.2.1 a1.2.2.1 a1.2.2.2.1 e3.1 e5.2.1 a1.2.2.2.2.2.2.1 a1.2.2.2.2.2.2.2.1 a1.2.2.2.2.2.2.2.2.1 ([]) e5.1 (ofNat e5.1.length) 0;bif a3.1 !=1 then bif a3.1 !=2 then some (((0,0,0,[],[],[],[],[],[],()),8,()))else k1 else k1:=mkE
theorem Zot n x0 x1 x2 x3 x4 x5 x6 x7 x8 x9 x10 x11 x12 x13 x14 x15 x16 x17 x18 x19 x20 x21 x22:Eq (Zbx (n+1) x0 x1 x2 x3 x4 x5 x6 x7 x8 x9 x10 x11 x12 x13 x14 x15 x16 x17 x18 x19 x20 x21 x22)<|bif x22<x21 then ix x20 x22 λe0=>(Zy6 (x0,x1,x2,x3,x4,x5,x6,x7,x8,x9,()) e0).bind λe1=>bif e1.2.1 then bif Ze (x19.length+List.length [(0,3,0,0,0,0,e1.1)]) 88 then Zbx n x0 x1 x2 x3 x4 x5 x6 x7 x8 x9 x10 x11 x12 x13 x14 x15 x16 x17 x18 (x19++[(0,3,0,0,0,0,e1.1)]) x20 x21 (wrap .i64 (x22+1))else none else Zbx n x0 x1 x2 x3 x4 x5 x6 x7 x8 x9 x10 x11 x12 x13 x14 x15 x16 x17 x18 x19 x20 x21 (wrap .i64 (x22+1))else(Zm (x10,x11,x12,x13,x14,x15,x16,x17,x18,()) x19).bind λe0=>some (e0.1,e0.2.1,()):=mkI
def Y07:Tb:=[(76,Ypm),(32,Zx1),(77,Ypk),(78,Ypn),(79,Ypo),(80,Ypi)]
def F43:TFun:=⟨[],[],[.a Tq10,.c di,.c di,.a Tq4],[.a Zy4,.c (.p di)],qc [qn 8,[.boxN 59 9 Yek],qi,qn 55],[],[],0⟩
def Ypp:=mkC Y07 prog 43 F43
theorem ok43:Ypp.ok prog 43:=mkO ⟨Y02,Ygv,ok77,Y03,Y06,Y0u,trivial⟩
def Zux(a0:Ty2)(a1 a2:Int)(a3:Ty4):Option Ty11:=Ypp.fn (a0,a1,a2,a3,())
theorem Yja a0 a1 a2 a3:Eq (Zux a0 a1 a2 a3)<|ix a0.2.2.2.2.2.2.2.2.2.2.2.2.1 a1 λe0=>bif e0.1==2 then(Zm0 (a0.1,a0.2.1,a0.2.2.1,a0.2.2.2.1,a0.2.2.2.2.1,a0.2.2.2.2.2.1,a0.2.2.2.2.2.2.1,a0.2.2.2.2.2.2.2.1,a0.2.2.2.2.2.2.2.2.1,a0.2.2.2.2.2.2.2.2.2.1,()) e0 a3).bind λe1=>some (e1.1,e1.2.1,())else bif e0.1==3 then(Ya (a0.2.2.2.2.2.2.2.2.2.2.1,a0.2.2.2.2.2.2.2.2.2.2.2.1,()) a1).bind λe1=>(Zsm e0 a3 (ofNat e1.1.length)).bind λe2=>some (e2.1,e2.2.1,())else bif e0.1==4 then(Zy5 (a0.1,a0.2.1,a0.2.2.1,a0.2.2.2.1,a0.2.2.2.2.1,a0.2.2.2.2.2.1,a0.2.2.2.2.2.2.1,a0.2.2.2.2.2.2.2.1,a0.2.2.2.2.2.2.2.2.1,a0.2.2.2.2.2.2.2.2.2.1,()) e0 a2 a3).bind λe1=>some (e1.1,e1.2.1,())else bif e0.1==5 then(Zsn (a0.1,a0.2.1,a0.2.2.1,a0.2.2.2.1,a0.2.2.2.2.1,a0.2.2.2.2.2.1,a0.2.2.2.2.2.2.1,a0.2.2.2.2.2.2.2.1,a0.2.2.2.2.2.2.2.2.1,a0.2.2.2.2.2.2.2.2.2.1,()) e0 a2 a3).bind λe1=>some (e1.1,e1.2.1,())else(Zsk e0 a3).bind λe1=>some (e1.1,e1.2.1,()):=mkE
end
end Tg

/- Functions of the code, told plainly and checked by the kernel. -/
namespace Tg
noncomputable section
open Go.Abs hiding fuel
open Go.Proofs.Tryz (prog)
open Int (ofNat toNat)
open Go.IntKind (wrap)
abbrev Yep:List Go.Abs.SC:=[.p (.int .u8),.p (.sl Tq5),.p (.sl Tq13),.p db,.p (.sl Tq5),.p (.int .u8),.p di,.p di,.p db,.p (.int .u8),.p (.sl Tq17),.p (.sl Tq6),.p (.sl Tq1),.p (.sl Tq14)]
abbrev Yeq:List Go.Abs.RCT:=[.p (.int .u8),.p (.sl Tq5),.p (.sl Tq13),.p db,.p (.sl Tq5),.p (.int .u8),.p di,.p di,.p db,.p (.int .u8),.p (.sl Tq17),.p (.sl Tq6),.p (.sl Tq1),.p (.sl Tq14)]
abbrev Ypq:List Go.Abs.SC:=[.p (.int .u8),.p (.sl Tq5),.p (.sl Tq13),.p db,.p (.sl Tq5),.p (.int .u8),.p di,.p di,.p db,.p (.int .u8),.p (.sl Tq17),.p (.sl Tq6),.rowN 59 9 Tq1,.rowN 75 2 Tq14]
abbrev Ypr:List Go.Abs.SC:=[.any,.nil,.nil,.any,.nil,.any,.any,.any,.any,.any,.nil,.nil,.nil,.nil]
def Yt9:Tb:=[(32,Zx1),(19,Z5q),(33,Ypc),(34,Yhh),(35,Ypl)]
def F17:TFun:=⟨[],[(12,qc [qn 2,[.boxN 35 14 Ypq],qn 1,[.boxN 35 14 Ypr],qn 4,[.c (.p (.sl Tq14))],qn 34,[.c (.p (.sl Tq13))],qi,qi,qn 32])],[.a Tq10,.c di],[.a Yeq,.c (.p db)],qc [qn 4,[.boxN 35 14 Yep],qb,qn 73],[],[],0⟩
def Yps:=mkC Yt9 prog 17 F17
theorem ok17:Yps.ok prog 17:=mkO ⟨Ygv,Ynx,Y0p,ok34,Y00,trivial⟩
def Zd4(a0:Ty2)(a1:Int):Option (Ty2×Bool×Unit):=Yps.fn (a0,a1,())
def Zdi(n:Nat)(x0:Int)(x1:(List Ty5))(x2:Ty7)(x3:Bool)(x4:(List Ty5))(x5 x6 x7:Int)(x8:Bool)(x9:Int)(x10:(List Ty8))(x11:(List Ty5))(x12:(List Ty1))(x13 x14:(List Ty9))(x15:Ty7)(x16 x17:Int):Option (Ty2×Bool×Unit):=itr Yt9 prog 17 F17 n 12 (x0,x1,x2,x3,x4,x5,x6,x7,x8,x9,x10,x11,x12,x13,x14,x15,x16,x17,())
theorem Zjl a0 a1:Eq (Zd4 a0 a1)<|ix a0.2.2.2.2.2.2.2.2.2.2.2.2.1 a1 λe0=>bif ofNat e0.2.2.2.1.length>0 then(Ya (a0.2.2.2.2.2.2.2.2.2.2.1,a0.2.2.2.2.2.2.2.2.2.2.2.1,()) a1).bind λe1=>(Zck a0 e1.1).bind λe2=>(Zsj e0 e2.1).bind λe3=>(Zd3 a0).bind λe4=>ixb e4.1.2.2.2.2.2.2.2.2.2.2.2.2.1 a1 λe5=>Zdi fuel e4.1.1 e4.1.2.1 e4.1.2.2.1 e4.1.2.2.2.1 e4.1.2.2.2.2.1 e4.1.2.2.2.2.2.1 e4.1.2.2.2.2.2.2.1 e4.1.2.2.2.2.2.2.2.1 e4.1.2.2.2.2.2.2.2.2.1 e4.1.2.2.2.2.2.2.2.2.2.1 e4.1.2.2.2.2.2.2.2.2.2.2.1 e4.1.2.2.2.2.2.2.2.2.2.2.2.1 (List.set e4.1.2.2.2.2.2.2.2.2.2.2.2.2.1 a1.toNat (e3.1.1,e3.1.2.1,e3.1.2.2.1,e3.1.2.2.2.1,e3.1.2.2.2.2.1,e3.1.2.2.2.2.2.1,e3.1.2.2.2.2.2.2.1,e3.1.2.2.2.2.2.2.2.1,e3.1.2.2.2.2.2.2.2.2.1,e5.2.2.2.2.2.2.2.2.2)) e4.1.2.2.2.2.2.2.2.2.2.2.2.2.2.1 e3.2.1 e1.1 (ofNat e1.1.length) 0 else bif e0.1 !=1 then some (a0,false,())else(Zmz e0).bind λe1=>(Zd3 a0).bind λe2=>ixb e2.1.2.2.2.2.2.2.2.2.2.2.2.2.1 a1 λe3=>some (((e2.1.1,e2.1.2.1,e2.1.2.2.1,e2.1.2.2.2.1,e2.1.2.2.2.2.1,e2.1.2.2.2.2.2.1,e2.1.2.2.2.2.2.2.1,e2.1.2.2.2.2.2.2.2.1,e2.1.2.2.2.2.2.2.2.2.1,e2.1.2.2.2.2.2.2.2.2.2.1,e2.1.2.2.2.2.2.2.2.2.2.2.1,e2.1.2.2.2.2.2.2.2.2.2.2.2.1,List.set e2.1.2.2.2.2.2.2.2.2.2.2.2.2.1 a1.toNat (e1.1.1,e1.1.2.1,e1.1.2.2.1,e1.1.2.2.2.1,e1.1.2.2.2.2.1,e1.1.2.2.2.2.2.1,e1.1.2.2.2.2.2.2.1,e1.1.2.2.2.2.2.2.2.1,e1.1.2.2.2.2.2.2.2.2.1,e3.2.2.2.2.2.2.2.2.2),e2.1.2.2.2.2.2.2.2.2.2.2.2.2.2.1,()),true,())):=mkE
theorem Zgp n x0 x1 x2 x3 x4 x5 x6 x7 x8 x9 x10 x11 x12 x13 x14 x15 x16 x17:Eq (Zdi (n+1) x0 x1 x2 x3 x4 x5 x6 x7 x8 x9 x10 x11 x12 x13 x14 x15 x16 x17)<|bif x17<x16 then ix x15 x17 λe0=>ix x14 x17 λe1=>ixb x13 e0.1 λe2=>Zdi n x0 x1 x2 x3 x4 x5 x6 x7 x8 x9 x10 x11 x12 (List.set x13 e0.1.toNat (e1.1,e1.2.1,e2.2.2)) x14 x15 x16 (wrap .i64 (x17+1))else some (((x0,x1,x2,x3,x4,x5,x6,x7,x8,x9,x10,x11,x12,x13,()),true,())):=mkI
def Yua:Tb:=[(20,Zx0),(42,Yok),(43,Ypp),(34,Yhh)]
def F21:TFun:=⟨[10],[(10,qc [qn 1,qi,qn 2,[.boxN 35 14 Yep],qn 3,[.boxN 35 14 Ypr],qn 1,qi,qn 1,[.boxN 75 2 [.p di,.p (.sl Tq4)]],qn 1,[.boxN 59 9 [.p (.int .u8),.p di,.p di,.p (.sl Tq3),.p (.sl Tq13),.p (.sl Tq2),.p (.sl Tq7),.p (.sl Tq6),.p (.sl Tq9)]],qn 47])],[.a Tq10,.c di,.c di,.c di],[.a [.p (.int .u8),.p (.sl Tq5),.p (.sl Tq13),.p db,.p (.sl Tq5),.p (.int .u8),.p di,.p di,.p db,.p (.int .u8),.p (.sl Tq17),.p (.sl Tq6),.s 59 9 Tq1,.s 75 2 Tq14],.c (.p di)],qc [qn 8,[.boxN 35 14 Ypq],qi,qn 52],[],[],0⟩
def Yaf:=mkC Yua prog 21 F21
theorem ok21:Yaf.ok prog 21:=mkO ⟨Ygu,ok42,ok43,ok34,trivial⟩
def Ypt:TCon:=⟨Yaf.args,[.a Yeq,.c (.p di)],Yaf.fn⟩
theorem Y08:Ypt.ok prog 21:=TCon.frz (c:=Yaf) ok21 rfl
def Zso(a0:Ty2)(a1 a2 a3:Int):Option (Ty2×Int×Unit):=Yaf.fn (a0,a1,a2,a3,())
def Zhu(n:Nat)(x0 x1:Int)(x2:(List Ty5))(x3:Ty7)(x4:Bool)(x5:(List Ty5))(x6 x7 x8:Int)(x9:Bool)(x10:Int)(x11:(List Ty8))(x12:(List Ty5))(x13:(List Ty1))(x14:(List Ty9))(x15 x16:Int)(x17:(List Ty4))(x18 x19 x20:Int)(x21:(List Ty3))(x22:Ty7)(x23:(List Ty3))(x24:Ty12)(x25:(List Ty5))(x26:(List Ty10)):Option (Ty2×Int×Unit):=itr Yua prog 21 F21 n 10 (x0,x1,x2,x3,x4,x5,x6,x7,x8,x9,x10,x11,x12,x13,x14,x15,x16,x17,x18,x19,x20,x21,x22,x23,x24,x25,x26,())
theorem Yag a0 a1 a2 a3:Eq (Zso a0 a1 a2 a3)<|(Yn (a0.2.2.2.2.2.2.2.2.2.2.1,a0.2.2.2.2.2.2.2.2.2.2.2.1,()) a1).bind λe0=>ix e0.1 a2 λe1=>ix a0.2.2.2.2.2.2.2.2.2.2.2.2.2.1 e1.1 λe2=>(Zjg e2).bind λe3=>(Zux a0 a1 a2 e3.1).bind λe4=>bif e4.2.1 !=0 then some (((0,[],[],false,[],0,0,0,false,0,[],[],[],[],()),e4.2.1,()))else bif a3>=0 then Zhu fuel a1 a0.1 a0.2.1 a0.2.2.1 a0.2.2.2.1 a0.2.2.2.2.1 a0.2.2.2.2.2.1 a0.2.2.2.2.2.2.1 a0.2.2.2.2.2.2.2.1 a0.2.2.2.2.2.2.2.2.1 a0.2.2.2.2.2.2.2.2.2.1 a0.2.2.2.2.2.2.2.2.2.2.1 a0.2.2.2.2.2.2.2.2.2.2.2.1 a0.2.2.2.2.2.2.2.2.2.2.2.2.1 a0.2.2.2.2.2.2.2.2.2.2.2.2.2.1 e1.1 e3.2.1.1 e3.2.1.2.1 e4.1.1 e4.1.2.1 a3 e4.1.2.2.2.1 e4.1.2.2.2.2.1 e4.1.2.2.2.2.2.1 e4.1.2.2.2.2.2.2.1 e4.1.2.2.2.2.2.2.2.1 e4.1.2.2.2.2.2.2.2.2.1 else Zhu fuel a1 a0.1 a0.2.1 a0.2.2.1 a0.2.2.2.1 a0.2.2.2.2.1 a0.2.2.2.2.2.1 a0.2.2.2.2.2.2.1 a0.2.2.2.2.2.2.2.1 a0.2.2.2.2.2.2.2.2.1 a0.2.2.2.2.2.2.2.2.2.1 a0.2.2.2.2.2.2.2.2.2.2.1 a0.2.2.2.2.2.2.2.2.2.2.2.1 a0.2.2.2.2.2.2.2.2.2.2.2.2.1 a0.2.2.2.2.2.2.2.2.2.2.2.2.2.1 e1.1 e3.2.1.1 e3.2.1.2.1 e4.1.1 e4.1.2.1 e4.1.2.2.1 e4.1.2.2.2.1 e4.1.2.2.2.2.1 e4.1.2.2.2.2.2.1 e4.1.2.2.2.2.2.2.1 e4.1.2.2.2.2.2.2.2.1 e4.1.2.2.2.2.2.2.2.2.1:=mkE
theorem Z1d n x0 x1 x2 x3 x4 x5 x6 x7 x8 x9 x10 x11 x12 x13 x14 x15 x16 x17 x18 x19 x20 x21 x22 x23 x24 x25 x26:Eq (Zhu (n+1) x0 x1 x2 x3 x4 x5 x6 x7 x8 x9 x10 x11 x12 x13 x14 x15 x16 x17 x18 x19 x20 x21 x22 x23 x24 x25 x26)<|(Zd3 (x1,x2,x3,x4,x5,x6,x7,x8,x9,x10,x11,x12,x13,x14,())).bind λe0=>ixb e0.1.2.2.2.2.2.2.2.2.2.2.2.2.1 x0 λe1=>ixb e0.1.2.2.2.2.2.2.2.2.2.2.2.2.2.1 x15 λe2=>some (((e0.1.1,e0.1.2.1,e0.1.2.2.1,e0.1.2.2.2.1,e0.1.2.2.2.2.1,e0.1.2.2.2.2.2.1,e0.1.2.2.2.2.2.2.1,e0.1.2.2.2.2.2.2.2.1,e0.1.2.2.2.2.2.2.2.2.1,e0.1.2.2.2.2.2.2.2.2.2.1,e0.1.2.2.2.2.2.2.2.2.2.2.1,e0.1.2.2.2.2.2.2.2.2.2.2.2.1,List.set e0.1.2.2.2.2.2.2.2.2.2.2.2.2.1 x0.toNat (x18,x19,x20,x21,x22,x23,x24,x25,x26,e1.2.2.2.2.2.2.2.2.2),List.set e0.1.2.2.2.2.2.2.2.2.2.2.2.2.2.1 x15.toNat (x16,x17,e2.2.2),()),0,())):=mkI
def tab8:Tb:=[(15,Yg5),(16,Yg9),(17,Yps),(20,Zx0),(19,Z5q),(18,Ypa),(21,Ypt)]
def F8:TFun:=⟨[],[],[.a Tq10,.c di],[.a Yeq,.c (.p di)],qc [qn 4,[.boxN 35 14 Yep],qi,qn 50],[],[],0⟩
def con8:=mkC tab8 prog 8 F8
theorem ok8:con8.ok prog 8:=mkO ⟨ok15,ok16,ok17,Ygu,Ynx,ok18,Y08,trivial⟩
def Zd5(a0:Ty2)(a1:Int):Option (Ty2×Int×Unit):=con8.fn (a0,a1,())
theorem Zhi a0 a1:Eq (Zd5 a0 a1)<|(Zgi a0 a1).bind λe0=>bif e0.1 !=0 then some (((0,[],[],false,[],0,0,0,false,0,[],[],[],[],()),e0.1,()))else(Zfj a0 a1).bind λe1=>bif !e1.1 then some (((0,[],[],false,[],0,0,0,false,0,[],[],[],[],()),6,()))else(Zd4 a0 a1).bind λe2=>bif e2.2.1 then some (e2.1,0,())else ix a0.2.2.2.2.2.2.2.2.2.2.2.2.1 a1 λe3=>(Yn (a0.2.2.2.2.2.2.2.2.2.2.1,a0.2.2.2.2.2.2.2.2.2.2.2.1,()) a1).bind λe4=>(Zck a0 e4.1).bind λe5=>(Zsi e3 e5.1).bind λe6=>(Zso a0 a1 e6.1 e6.2.1.2.2.1).bind λe7=>some (e7.1,e7.2.1,()):=mkE
end
end Tg

/- Functions of the code, told plainly and checked by the kernel. -/
namespace Tg
noncomputable section
open Go.Abs hiding fuel
open Go.Proofs.Tryz (prog)
open Int (ofNat toNat)
open Go.IntKind (wrap)
def tab6:Tb:=[(13,Yl4),(14,Ynt)]
def F6:TFun:=⟨[],[],[.a Sq2],[.c (.p db)],qc [qn 2,qb,qn 8],[],[],0⟩
def con6:=mkC tab6 prog 6 F6
theorem ok6:con6.ok prog 6:=mkO ⟨ok13,ok14,trivial⟩
def Zsp(a0:Sy2):Option (Bool×Unit):=con6.fn (a0,())
theorem Yah a0:Eq (Zsp a0)<|(Zlj a0).bind λe0=>bif !e0.1 then(Zmi a0).bind λe1=>some (e1.1==0,())else some (false,()):=mkE
def tab3:Tb:=[(5,con5),(6,con6),(7,con7),(8,con8),(9,Yto)]
def F3:TFun:=⟨[],[(21,qc [qn 1,qi,qn 5,qb,qn 4,[.c (.p (.sl [.int .i64]))],qi,qi,qn 68])],[.a Sq2,.c di,.c di],[.c (.p db)],qc [qn 6,qb,qn 76],[],[],0⟩
def con3:=mkC tab3 prog 3 F3
theorem ok3:con3.ok prog 3:=mkO ⟨ok5,ok6,ok7,ok8,ok9p,trivial⟩
def Zgq(a0:Sy2)(a1 a2:Int):Option (Bool×Unit):=con3.fn (a0,a1,a2,())
def Xp(n:Nat)(x0:Int)(x1:Bool)(x2:Sy5)(x3 x4:Int):Option (Bool×Unit):=itr tab3 prog 3 F3 n 21 (x0,x1,x2,x3,x4,())
theorem Zm1 a0 a1 a2:Eq (Zgq a0 a1 a2)<|(Zsp a0).bind λe0=>let k1:=some (true,());bif !e0.1 then k1 else bif a1==a2 then k1 else bif a1<0 then k1 else bif a1>=ofNat a0.2.2.2.2.2.2.2.2.2.2.2.2.1.length then k1 else(Zdd a0 a1).bind λe1=>(Zd5 a0 a2).bind λe2=>bif e1.2.1 !=0 then some (false,())else bif !e1.1 then k1 else bif e2.2.1 !=0 then k1 else(Zmn e2.1).bind λe3=>Xp fuel a1 true e3.1 e3.2.1 0:=mkE
theorem Zjm n x0 x1 x2 x3 x4:Eq (Xp (n+1) x0 x1 x2 x3 x4)<|bif x4<ofNat x2.length then ix x2 x4 λe0=>bif e0.1==x0 then bif x1 then some (x3==0,())else some (false,())else Xp n x0 x1 x2 x3 (wrap .i64 (x4+1))else some (false,()):=mkI
end
end Tg

/- Functions of the code, told plainly and checked by the kernel. -/
namespace Tg
open Go.Abs hiding fuel
open Go.Proofs.Tryz (prog)
open Int (ofNat toNat)
open Go.IntKind (wrap)
end Tg
