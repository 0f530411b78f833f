import Derived.Test.YtlnihcefchoofaaGreatDoorDME
import Derived.Test.YtlnihcefchoofaaGreatDoorDADb
import Derived.Test.YtlnihcefchoofaaGreatDoorDAL
set_option linter.all false
set_option maxRecDepth 100000
namespace Tg
noncomputable section
open Go.Abs hiding fuel
open Go.Proofs.Tryz (prog)
open Int (ofNat toNat)
open Go.IntKind (wrap)
abbrev Zst:List Go.Abs.RCT:=[.p (.int .u8),.p di,.p di,.p (.sl Tq3),.p (.sl Tq13),.p (.sl Tq2),.p (.sl Tq7),.p (.sl Tq6),.p (.sl Tq9)]
abbrev Z6t:List Go.Abs.SC:=[.p (.int .u8),.p (.sl Tq5),.p (.sl Tq13),.p db,.p (.sl Tq5),.p (.int .u8),.p di,.p di,.p db,.p (.int .u8),.p (.sl Tq17),.p (.sl Tq6),.rowN 56 9 Tq1,.rowN 64 2 Tq14]
abbrev Z6u:List Go.Abs.SC:=[.p (.int .u8),.p di,.p di,.p (.sl Tq3),.p (.sl Tq13),.p (.sl Tq2),.p (.sl Tq7),.p (.sl Tq6),.p (.sl Tq9)]
abbrev Yer:List Go.Abs.SC:=[.p (.int .u8),.p di,.p di,.rowN 125 11 Tq3,.rowN 2 1 Tq13,.rowN 152 11 Tq2,.rowN 80 5 Tq7,.rowN 109 5 Tq6,.rowN 78 3 Tq9]
abbrev Yes:List Go.Abs.RCT:=[.p (.int .u8),.p di,.p di,.s 125 11 Tq3,.s 2 1 Tq13,.s 152 11 Tq2,.s 80 5 Tq7,.s 109 5 Tq6,.s 78 3 Tq9]
abbrev Yet:List Go.Abs.SC:=[.any,.nil,.nil,.any,.nil,.any,.any,.any,.any,.any,.nil,.nil,.nil,.nil]
abbrev Ypo:List Go.Abs.SC:=[.p di,.any,.any,.any,.any,.any,.any,.any,.any,.any,.any]
def Ypp:TCon:=Zbu 111 10 80 Tq12
theorem ok60:Ypp.ok prog 67:=Qk (zero:=[.p (.int .u8 0),.p (.int .i64 0),.p (.int .i64 0),.p (.int .i64 0),.p (.int .i64 0),.p (.int .i64 0),.p (.int .i64 0),.p (.int .i64 0),.p (.int .i64 0),.p (.int .i64 0)]) (by kernel_rfl) rfl (by decide) rfl
def Yeu:TCon:=⟨[.c (.sl Tq12)],[.c (.p (.sl Tq12))],Ypp.fn⟩
theorem Yuk:Yeu.ok prog 67:=λa r h=>TCon.frz (c:=Ypp) ok60 rfl a r h
def Yul:TCon:=Zbu 125 11 88 Tq16
theorem ok68:Yul.ok prog 74:=Qk (zero:=[.p (.int .i64 0),.p (.int .u8 0),.p (.int .i64 0),.p (.int .i64 0),.p (.int .i64 0),.p (.int .i64 0),.p (.int .i64 0),.p (.int .i64 0),.p (.int .i64 0),.p (.int .i64 0),.p (.int .i64 0)]) (by kernel_rfl) rfl (by decide) rfl
def Yhw:TCon:=Zbu 2 1 8 Tq13
theorem ok69:Yhw.ok prog 75:=Qk (zero:=[.p (.int .i64 0)]) (by kernel_rfl) rfl (by decide) rfl
def Yum:TCon:=Zbu 152 11 88 Tq15
theorem ok70:Yum.ok prog 76:=Qk (zero:=[.p (.int .i64 0),.p (.int .i64 0),.p (.int .i64 0),.p (.int .i64 0),.p (.int .i64 0),.p (.int .i64 0),.p (.int .i64 0),.p (.int .i64 0),.p (.int .i64 0),.p (.int .i64 0),.p (.int .i64 0)]) (by kernel_rfl) rfl (by decide) rfl
def Yhx:TCon:=Zbu 80 5 40 Tq20
theorem ok65:Yhx.ok prog 72:=Qk (zero:=[.p (.bool false),.p (.int .i64 0),.p (.int .i64 0),.p (.int .i64 0),.p (.int .i64 0)]) (by kernel_rfl) rfl (by decide) rfl
def Ypq:TCon:=⟨[.c (.sl Tq20)],[.c (.p (.sl Tq20))],Yhx.fn⟩
theorem Y07:Ypq.ok prog 72:=λa r h=>TCon.frz (c:=Yhx) ok65 rfl a r h
def Yun:TCon:=Zbu 109 5 40 Tq18
theorem ok71:Yun.ok prog 77:=Qk (zero:=[.p (.int .i64 0),.p (.int .i64 0),.p (.int .i64 0),.p (.int .i64 0),.p (.int .i64 0)]) (by kernel_rfl) rfl (by decide) rfl
def Yuo:TCon:=Zbu 78 3 24 [.int .i64,.int .i64,.int .i64]
theorem ok72:Yuo.ok prog 78:=Qk (zero:=[.p (.int .i64 0),.p (.int .i64 0),.p (.int .i64 0)]) (by kernel_rfl) rfl (by decide) rfl
def Ypr:TCon:=Zbu 64 2 32 [.int .i64,.sl Tq12]
theorem ok59:Ypr.ok prog 66:=Qk (zero:=[.p (.int .i64 0),.nil]) (by kernel_rfl) rfl (by decide) rfl
def Yup:TCon:=Zbu 56 9 168 Tq8
theorem ok61:Yup.ok prog 68:=Qk (zero:=[.p (.int .u8 0),.p (.int .i64 0),.p (.int .i64 0),.nil,.nil,.nil,.nil,.nil,.nil]) (by kernel_rfl) rfl (by decide) rfl
def Y08:Tb:=[(74,Yul),(75,Yhw),(76,Yum),(72,Yhx),(77,Yun),(78,Yuo)]
def F38:TFun:=⟨[],[],[.a Tq1],[.a Yes],qc [qn 2,[.boxN 56 9 Yer],qn 25],[],[],0⟩
def Z3w:=mkC Y08 prog 41 F38
theorem ok38:Z3w.ok prog 41:=mkO ⟨ok68,ok69,ok70,ok65,ok71,ok72,trivial⟩
def Yev:TCon:=⟨Z3w.args,[.a Zst],Z3w.fn⟩
theorem Yuq:Yev.ok prog 41:=TCon.frz (c:=Z3w) ok38 rfl
def Zeb(a0:Ty1):Option (Ty1×Unit):=Z3w.fn (a0,())
theorem Z6v a0:Eq (Zeb a0)<|(bif Ze a0.2.2.2.1.length 88 then some (a0.2.2.2.1,())else none).bind λe0=>(bif Ze a0.2.2.2.2.1.length 8 then some (a0.2.2.2.2.1,())else none).bind λe1=>(bif Ze a0.2.2.2.2.2.1.length 88 then some (a0.2.2.2.2.2.1,())else none).bind λe2=>(bif Ze a0.2.2.2.2.2.2.1.length 40 then some (a0.2.2.2.2.2.2.1,())else none).bind λe3=>(bif Ze a0.2.2.2.2.2.2.2.1.length 40 then some (a0.2.2.2.2.2.2.2.1,())else none).bind λe4=>(bif Ze a0.2.2.2.2.2.2.2.2.1.length 24 then some (a0.2.2.2.2.2.2.2.2.1,())else none).bind λe5=>some (((a0.1,a0.2.1,a0.2.2.1,e0.1,e1.1,e2.1,e3.1,e4.1,e5.1,()),())):=mkE
def Y09:Tb:=[(62,Zol),(129,Z5e),(41,Z3w)]
def F62:TFun:=⟨[],[],[.a Tq1,.c (.sl Tq3)],[.a Yes,.c (.p di)],qc [qn 4,[.boxN 56 9 Yer],qi,qn 27],[],[],0⟩
def Znb:=mkC Y09 prog 69 F62
theorem ok62:Znb.ok prog 69:=mkO ⟨ok66,Yts,ok38,trivial⟩
def Yps:TCon:=⟨Znb.args,[.a Zst,.c (.p di)],Znb.fn⟩
theorem Y1a:Yps.ok prog 69:=TCon.frz (c:=Znb) ok62 rfl
def Zm(a0:Ty1)(a1:(List Ty3)):Option Ty11:=Znb.fn (a0,a1,())
theorem Yak a0 a1:Eq (Zm a0 a1)<|(Yu a0).bind λe0=>bif e0.1 !=0 then some (((0,0,0,[],[],[],[],[],[],()),e0.1,()))else(Zjb a1).bind λe1=>bif !e1.1 then some (((0,0,0,[],[],[],[],[],[],()),8,()))else bif ofNat a1.length>wrap .i64 (4000-ofNat a0.2.2.2.1.length)then some (((0,0,0,[],[],[],[],[],[],()),4,()))else(Zeb a0).bind λe2=>bif Ze (e2.1.2.2.2.1.length+a1.length) 88 then some ((e2.1.1,e2.1.2.1,e2.1.2.2.1,e2.1.2.2.2.1++a1,e2.1.2.2.2.2),0,())else none:=mkE
def Y1b:Tb:=[(39,Yhg),(40,Yhq),(41,Yev)]
def F18:TFun:=⟨[],[],[.a Tq1,.c (.sl Tq14)],[.c (.p di),.a Zst,.c (.p di)],qc [qn 4,qi,[.boxN 56 9 Z6u],qi,qn 32],[],[],0⟩
def Ypt:=mkC Y1b prog 18 F18
theorem ok18:Ypt.ok prog 18:=mkO ⟨ok36,ok37,Yuq,trivial⟩
def Zsu(a0:Ty1)(a1:(List Ty9)):Option (Int×Ty1×Int×Unit):=Ypt.fn (a0,a1,())
theorem Yal a0 a1:Eq (Zsu a0 a1)<|(Zba a0 a1 []).bind λe0=>bif e0.1 !=0 then some ((0,(0,0,0,[],[],[],[],[],[],()),e0.1,()))else(Zgu a0.2.2.1 a1).bind λe1=>let k1:Option (Int×Ty1×Int×Unit):=some ((0,(0,0,0,[],[],[],[],[],[],()),6,()));bif e1.1<0 then k1 else bif ofNat a0.2.2.2.1.length>0 then k1 else(Zeb a0).bind λe2=>bif ofNat a1.length=0 then none else some ((e1.1,(e2.1.1,e2.1.2.1,Int.tmod (wrap .i64 (e1.1+1)) (ofNat a1.length),e2.1.2.2.2),0,())):=mkE
def Ypu:Tb:=[(39,Yhg),(65,Yo4),(66,Ypr),(67,Yeu),(41,Yev)]
def F33:TFun:=⟨[19],[(19,qc [qn 2,[.boxN 56 9 Z6u],qn 1,[.boxN 56 9 [.any,.any,.any,.nil,.nil,.nil,.nil,.nil,.nil]],qn 3,[.boxN 125 11 Ypo],[.boxN 64 2 [.p di,.p (.sl Tq4)]],qn 1,[.c (.rowN 64 2 Tq14)],qn 69]),(21,qc [qn 2,[.boxN 56 9 Z6u],qn 1,[.boxN 56 9 [.any,.any,.any,.nil,.nil,.nil,.nil,.nil,.nil]],qn 3,[.boxN 125 11 Ypo],[.boxN 64 2 [.p di,.p (.sl Tq4)]],qn 1,[.c (.rowN 64 2 Tq14)],qn 41,qi,qi,qn 26])],[.a Tq1,.c (.sl Tq14)],[.a Zst,.c (.s 64 2 Tq14),.c (.p di)],qc [qn 4,[.boxN 56 9 Z6u],[.c (.rowN 64 2 Tq14)],qi,qn 74],[],[],0⟩
def Yam:=mkC Ypu prog 36 F33
theorem ok33:Yam.ok prog 36:=mkO ⟨ok36,Y0l,ok59,Yuk,Yuq,trivial⟩
def Ypv:TCon:=⟨Yam.args,[.a Zst,.c (.p (.sl Tq14)),.c (.p di)],Yam.fn⟩
theorem Y1c:Ypv.ok prog 36:=TCon.frz (c:=Yam) ok33 rfl
def Zsv(a0:Ty1)(a1:(List Ty9)):Option (Ty1×List Ty9×Int×Unit):=Yam.fn (a0,a1,())
def Zow(n:Nat)(x0 x1 x2:Int)(x3:(List Ty3))(x4:Ty7)(x5:(List Ty3))(x6:Ty12)(x7:(List Ty5))(x8:(List Ty10))(x9 x10:Int)(x11:(List Ty4))(x12:(List Ty9)):Option (Ty1×List Ty9×Int×Unit):=itr Ypu prog 36 F33 n 19 (x0,x1,x2,x3,x4,x5,x6,x7,x8,x9,x10,x11,x12,())
def Zet(n:Nat)(x0 x1 x2:Int)(x3:(List Ty3))(x4:Ty7)(x5:(List Ty3))(x6:Ty12)(x7:(List Ty5))(x8:(List Ty10))(x9 x10:Int)(x11:(List Ty4))(x12:(List Ty9))(x13 x14:Int):Option (Ty1×List Ty9×Int×Unit):=itr Ypu prog 36 F33 n 21 (x0,x1,x2,x3,x4,x5,x6,x7,x8,x9,x10,x11,x12,x13,x14,())
theorem Yan a0 a1:Eq (Zsv a0 a1)<|(Zba a0 [] a1).bind λe0=>bif e0.1 !=0 then some (((0,0,0,[],[],[],[],[],[],()),[],e0.1,()))else bif ofNat a0.2.2.2.1.length==0 then some (((0,0,0,[],[],[],[],[],[],()),[],6,()))else(a0.2.2.2.1[0]?).bind λe1=>bif e1.1>=ofNat a1.length then some (((0,0,0,[],[],[],[],[],[],()),[],2,()))else ix a1 e1.1 λe2=>(Zm6 e2 e1.2).bind λe3=>bif e3.2.1 !=0 then some (((0,0,0,[],[],[],[],[],[],()),[],e3.2.1,()))else(bif Ze a1.length 32 then some (a1,())else none).bind λe4=>Zet fuel a0.1 a0.2.1 a0.2.2.1 a0.2.2.2.1 a0.2.2.2.2.1 a0.2.2.2.2.2.1 a0.2.2.2.2.2.2.1 a0.2.2.2.2.2.2.2.1 a0.2.2.2.2.2.2.2.2.1 e1.1 e3.1.1 e3.1.2.1 e4.1 (ofNat e4.1.length) 0:=mkE
theorem Z1q n x0 x1 x2 x3 x4 x5 x6 x7 x8 x9 x10 x11 x12:Eq (Zow (n+1) x0 x1 x2 x3 x4 x5 x6 x7 x8 x9 x10 x11 x12)<|ixb x12 x9 λe0=>(Zeb (x0,x1,x2,x3,x4,x5,x6,x7,x8,())).bind λe1=>bif 1<=e1.1.2.2.2.1.length then some (((e1.1.1,e1.1.2.1,e1.1.2.2.1,List.drop 1 (List.take e1.1.2.2.2.1.length e1.1.2.2.2.1),e1.1.2.2.2.2),List.set x12 x9.toNat (x10,x11,e0.2.2),0,()))else none:=mkI
theorem Zox n x0 x1 x2 x3 x4 x5 x6 x7 x8 x9 x10 x11 x12 x13 x14:Eq (Zet (n+1) x0 x1 x2 x3 x4 x5 x6 x7 x8 x9 x10 x11 x12 x13 x14)<|bif x14<x13 then ixb x12 x14 λe0=>(Zj 80 e0.2.1).bind λe1=>ixb x12 x14 λe2=>Zet n x0 x1 x2 x3 x4 x5 x6 x7 x8 x9 x10 x11 (List.set x12 x14.toNat (e2.1,e1.1,e2.2.2)) x13 (wrap .i64 (x14+1))else Zow n x0 x1 x2 x3 x4 x5 x6 x7 x8 x9 x10 x11 x12:=mkI
def Y1d:Tb:=[(62,Zol)]
def F63:TFun:=⟨[],[],[.a Tq1],[.c (.p di)],qc [qn 2,qi,qn 10],[],[],0⟩
def Ypw:=mkC Y1d prog 70 F63
theorem ok63:Ypw.ok prog 70:=mkO ⟨ok66,trivial⟩
def Zrg(a0:Ty1):Option (Int×Unit):=Ypw.fn (a0,())
theorem Zzg a0:Eq (Zrg a0)<|(Yu a0).bind λe0=>bif e0.1 !=0 then some (e0.1,())else bif a0.1 !=1 then some (2,())else some (0,()):=mkE
def Yew:Tb:=[(197,Yef)]
def F146:TFun:=⟨[9],[(9,qc [[.c (.p (.sl Tq13))],qn 36]),(14,qc [[.c (.p (.sl Tq13))],qn 2,qi,qi,qn 32])],[.c (.sl Tq13)],[.c (.p di),.c (.p di)],qc [qn 2,qi,qi,qn 8],[(7,[196])],[(9,[12]),(14,[12])],8⟩
def Zzh:=mkC Yew prog 151 F146
theorem Ypx:Zzh.ok prog 151:=mkO ⟨Y0t,trivial⟩
def Ze7(a0:Ty7):Option Ty8:=Zzh.fn (a0,())
def Znc(n:Nat)(x0:Ty7):Option Ty8:=itr Yew prog 151 F146 n 9 (x0,())
def Zb9(n:Nat)(x0:Ty7)(x1 x2:Int):Option Ty8:=itr Yew prog 151 F146 n 14 (x0,x1,x2,())
theorem Z1r a0:Eq (Ze7 a0)<|(Zm8 a0).bind λe0=>bif e0.1 !=0 then some (0,e0.1,())else bif ofNat a0.length<1 then none else Znc fuel a0:=mkE
theorem Zzi n x0:Eq (Znc (n+1) x0)<|(x0[0]?).bind λe0=>Zb9 n x0 e0.1 1:=mkI
theorem Zkm n x0 x1 x2:Eq (Zb9 (n+1) x0 x1 x2)<|bif x2<ofNat x0.length then ix x0 x2 λe0=>Zb9 n x0 (tmm false x1 e0.1) (wrap .i64 (x2+1))else some (x1,0,()):=mkI
def Yex:Tb:=[(151,Zzh),(195,Z6i),(75,Yhw)]
def F145:TFun:=⟨[16],[(16,qc [[.c (.rowN 2 1 Tq13)],qn 33,qi,qn 32,[.c (.row 0)],qn 4]),(21,qc [[.c (.rowN 2 1 Tq13)],qn 2,qi,qi,qn 29,qi,qn 32,[.c (.row 0)],qn 4])],[.c (.sl Tq13),.c di,.c di],[.c (.s 2 1 Tq13),.c (.p db),.c (.p di)],qc [qn 6,[.c (.rowN 2 1 Tq13)],qb,qi,qn 38],[(14,[196])],[(16,[47]),(21,[47])],8⟩
def Zzj:=mkC Yex prog 150 F145
theorem Y1e:Zzj.ok prog 150:=mkO ⟨Ypx,Yug,ok69,trivial⟩
def Z6w:TCon:=⟨Zzj.args,[.c (.p (.sl Tq13)),.c (.p db),.c (.p di)],Zzj.fn⟩
theorem Ypy:Z6w.ok prog 150:=TCon.frz (c:=Zzj) Y1e rfl
def Zhq(a0:Ty7)(a1 a2:Int):Option (List (Int×Unit)×Bool×Int×Unit):=Zzj.fn (a0,a1,a2,())
def Zkn(n:Nat)(x0:Ty7)(x1:Int):Option (List (Int×Unit)×Bool×Int×Unit):=itr Yex prog 150 F145 n 16 (x0,x1,())
def Zca(n:Nat)(x0:Ty7)(x1 x2 x3:Int):Option (List (Int×Unit)×Bool×Int×Unit):=itr Yex prog 150 F145 n 21 (x0,x1,x2,x3,())
theorem Z1s a0 a1 a2:Eq (Zhq a0 a1 a2)<|(Ze7 a0).bind λe0=>bif e0.2.1 !=0 then some ([],false,e0.2.1,())else let k1:=some ([],false,2,());bif a1<0 then k1 else bif a1>=ofNat a0.length then k1 else(Zfu a2).bind λe1=>bif !e1.1 then k1 else(bif Ze a0.length 8 then some (a0,())else none).bind λe2=>ixb e2.1 a1 λe3=>ixb e2.1 a1 λe4=>bif ofNat (List.length (List.set e2.1 a1.toNat (tmm true e3.1 a2,e4.2)))<1 then none else Zkn fuel (List.set e2.1 a1.toNat (tmm true e3.1 a2,e4.2)) e0.1:=mkE
theorem Zup n x0 x1:Eq (Zkn (n+1) x0 x1)<|bif 0<x0.length then(x0[0]?).bind λe0=>Zca n x0 e0.1 1 x1 else none:=mkI
theorem Zko n x0 x1 x2 x3:Eq (Zca (n+1) x0 x1 x2 x3)<|bif x2<ofNat x0.length then ixb x0 x2 λe0=>Zca n x0 (tmm false x1 e0.1) (wrap .i64 (x2+1)) x3 else some (x0,decide (x1>x3),0,()):=mkI
def Ypz:Tb:=[(130,Z5g)]
def F147:TFun:=⟨[],[(8,qc [qn 1,qi,qn 2,[.c (.rowN 152 11 Tq2)],[.c (.rowN 152 11 Tq2)],qn 9,[.c (.p (.sl Tq2))],qi,qi,qn 19])],[.c (.sl Tq2),.c di],[.c (.s 152 11 Tq2),.c (.s 152 11 Tq2),.c (.p di)],qc [qn 4,[.c (.rowN 152 11 Tq2)],[.c (.rowN 152 11 Tq2)],qi,qn 30],[],[],0⟩
def Zzk:=mkC Ypz prog 152 F147
theorem Y1f:Zzk.ok prog 152:=mkO ⟨Ymg,trivial⟩
def Z6x:TCon:=⟨Zzk.args,[.c (.p (.sl Tq2)),.c (.p (.sl Tq2)),.c (.p di)],Zzk.fn⟩
theorem Yp0:Z6x.ok prog 152:=TCon.frz (c:=Zzk) Y1f rfl
def Zjt(a0:(List Ty3))(a1:Int):Option (List Ty3×List Ty3×Int×Unit):=Zzk.fn (a0,a1,())
def Zbw(n:Nat)(x0:Int)(x1 x2 x3:(List Ty3))(x4 x5:Int):Option (List Ty3×List Ty3×Int×Unit):=itr Ypz prog 152 F147 n 8 (x0,x1,x2,x3,x4,x5,())
theorem Z6y a0 a1:Eq (Zjt a0 a1)<|(Zck a0).bind λe0=>bif e0.1 !=0 then some ([],[],e0.1,())else Zbw fuel a1 ([]) ([]) a0 (ofNat a0.length) 0:=mkE
theorem Zoy n x0 x1 x2 x3 x4 x5:Eq (Zbw (n+1) x0 x1 x2 x3 x4 x5)<|bif x5<x4 then ix x3 x5 λe0=>bif e0.2.2.1<=x0 then bif Ze (x1.length+List.length [e0]) 88 then Zbw n x0 (x1++[e0]) x2 x3 x4 (wrap .i64 (x5+1))else none else bif Ze (x2.length+List.length [e0]) 88 then Zbw n x0 x1 (x2++[e0]) x3 x4 (wrap .i64 (x5+1))else none else some (x1,x2,0,()):=mkI
def Yxp:Tb:=[(30,Z3c)]
def F139:TFun:=⟨[],[],[.a Tq11],[.c (.p db)],qc [qn 2,qb,qn 9],[],[],0⟩
def Z6z:=mkC Yxp prog 144 F139
theorem Yur:Z6z.ok prog 144:=mkO ⟨ok44,trivial⟩
def Zfg(a0:Ty6):Option (Bool×Unit):=Z6z.fn (a0,())
theorem Zhr a0:Eq (Zfg a0)<|(Yl a0).bind λe0=>some (e0.2.1==0,()):=mkE
def Y1g:Tb:=[(62,Zol),(61,Zhc),(69,Znb)]
def F80:TFun:=⟨[],[],[.a Tq1,.a Tq4],[.a Yes,.c (.p di)],qc [qn 4,[.boxN 56 9 Yer],qi,qn 72],[],[],0⟩
def Yao:=mkC Y1g prog 86 F80
theorem ok80:Yao.ok prog 86:=mkO ⟨ok66,ok87,ok62,trivial⟩
def Yp1:TCon:=⟨Yao.args,[.a Zst,.c (.p di)],Yao.fn⟩
theorem Y1h:Yp1.ok prog 86:=TCon.frz (c:=Yao) ok80 rfl
def Zsw(a0:Ty1)(a1:Ty4):Option Ty11:=Yao.fn (a0,a1,())
theorem Yap a0 a1:Eq (Zsw a0 a1)<|(Yu a0).bind λe0=>bif e0.1 !=0 then some (((0,0,0,[],[],[],[],[],[],()),e0.1,()))else let k1:Option Ty11:=(Zt a1).bind λe1=>bif e1.1 !=0 then some (((0,0,0,[],[],[],[],[],[],()),8,()))else let k5:Option Ty11:=let k7:Option Ty11:=bif tmm true (ofNat a0.2.2.2.2.2.2.2.1.length) (ofNat a0.2.2.2.2.2.2.2.2.1.length)==4000 then some (((0,0,0,[],[],[],[],[],[],()),4,()))else(Zm a0 []).bind λe2=>bif a0.1==7 then bif Ze (e2.1.2.2.2.2.2.2.2.2.1.length+List.length [(a1.2.1,a1.2.2.1,a1.2.2.2.1,())]) 24 then some (((e2.1.1,e2.1.2.1,e2.1.2.2.1,e2.1.2.2.2.1,e2.1.2.2.2.2.1,e2.1.2.2.2.2.2.1,e2.1.2.2.2.2.2.2.1,e2.1.2.2.2.2.2.2.2.1,e2.1.2.2.2.2.2.2.2.2.1++[(a1.2.1,a1.2.2.1,a1.2.2.2.1,())],()),0,()))else none else bif Ze (e2.1.2.2.2.2.2.2.2.1.length+List.length [a1.2.2.2.2.2]) 40 then some (((e2.1.1,e2.1.2.1,e2.1.2.2.1,e2.1.2.2.2.1,e2.1.2.2.2.2.1,e2.1.2.2.2.2.2.1,e2.1.2.2.2.2.2.2.1,e2.1.2.2.2.2.2.2.2.1++[a1.2.2.2.2.2],e2.1.2.2.2.2.2.2.2.2.1,()),0,()))else none;bif !a0.1==7 then bif a1.1 !=3 then some (((0,0,0,[],[],[],[],[],[],()),8,()))else k7 else k7;bif a0.1==7 then bif a1.1 !=4 then some (((0,0,0,[],[],[],[],[],[],()),8,()))else k5 else k5;bif !a0.1==7 then bif a0.1 !=6 then some (((0,0,0,[],[],[],[],[],[],()),2,()))else k1 else k1:=mkE
def Yhy:Tb:=[(68,Yup),(66,Ypr),(69,Yps),(67,Yeu)]
def F34:TFun:=⟨[2],[(2,qc [qn 1,[.boxN 35 14 Z6t],[.boxN 35 14 Yet],qn 50]),(4,qc [qn 1,[.boxN 35 14 Z6t],[.boxN 35 14 Yet],qn 12,qi,qi,qn 36]),(11,qc [qn 1,[.boxN 35 14 Z6t],[.boxN 35 14 Yet],qn 32,qi,qi,qn 16])],[.a Tq10],[.a [.p (.int .u8),.p (.sl Tq5),.p (.sl Tq13),.p db,.p (.sl Tq5),.p (.int .u8),.p di,.p di,.p db,.p (.int .u8),.p (.sl Tq17),.p (.sl Tq6),.s 56 9 Tq1,.s 64 2 Tq14]],qc [qn 2,[.boxN 35 14 Z6t],qn 50],[],[],0⟩
def Yhz:=mkC Yhy prog 37 F34
theorem ok34:Yhz.ok prog 37:=mkO ⟨ok61,ok59,Y1a,Yuk,trivial⟩
def Zec(a0:Ty2):Option (Ty2×Unit):=Yhz.fn (a0,())
def Zoz(n:Nat)(x0:Int)(x1:(List Ty5))(x2:Ty7)(x3:Bool)(x4:(List Ty5))(x5 x6 x7:Int)(x8:Bool)(x9:Int)(x10:(List Ty8))(x11:(List Ty5))(x12:(List Ty1))(x13:(List Ty9)):Option (Ty2×Unit):=itr Yhy prog 37 F34 n 2 (x0,x1,x2,x3,x4,x5,x6,x7,x8,x9,x10,x11,x12,x13,())
def Zeu(n:Nat)(x0:Int)(x1:(List Ty5))(x2:Ty7)(x3:Bool)(x4:(List Ty5))(x5 x6 x7:Int)(x8:Bool)(x9:Int)(x10:(List Ty8))(x11:(List Ty5))(x12:(List Ty1))(x13:(List Ty9))(x14 x15:Int):Option (Ty2×Unit):=itr Yhy prog 37 F34 n 4 (x0,x1,x2,x3,x4,x5,x6,x7,x8,x9,x10,x11,x12,x13,x14,x15,())
def Zbd(n:Nat)(x0:Int)(x1:(List Ty5))(x2:Ty7)(x3:Bool)(x4:(List Ty5))(x5 x6 x7:Int)(x8:Bool)(x9:Int)(x10:(List Ty8))(x11:(List Ty5))(x12:(List Ty1))(x13:(List Ty9))(x14 x15:Int):Option (Ty2×Unit):=itr Yhy prog 37 F34 n 11 (x0,x1,x2,x3,x4,x5,x6,x7,x8,x9,x10,x11,x12,x13,x14,x15,())
theorem Z60 a0:Eq (Zec a0)<|(bif Ze a0.2.2.2.2.2.2.2.2.2.2.2.2.1.length 168 then some (a0.2.2.2.2.2.2.2.2.2.2.2.2.1,())else none).bind λe0=>(bif Ze a0.2.2.2.2.2.2.2.2.2.2.2.2.2.1.length 32 then some (a0.2.2.2.2.2.2.2.2.2.2.2.2.2.1,())else none).bind λe1=>Zeu fuel a0.1 a0.2.1 a0.2.2.1 a0.2.2.2.1 a0.2.2.2.2.1 a0.2.2.2.2.2.1 a0.2.2.2.2.2.2.1 a0.2.2.2.2.2.2.2.1 a0.2.2.2.2.2.2.2.2.1 a0.2.2.2.2.2.2.2.2.2.1 a0.2.2.2.2.2.2.2.2.2.2.1 a0.2.2.2.2.2.2.2.2.2.2.2.1 e0.1 e1.1 (ofNat e0.1.length) 0:=mkE
theorem Z1t n x0 x1 x2 x3 x4 x5 x6 x7 x8 x9 x10 x11 x12 x13:Eq (Zoz (n+1) x0 x1 x2 x3 x4 x5 x6 x7 x8 x9 x10 x11 x12 x13)<|Zbd n x0 x1 x2 x3 x4 x5 x6 x7 x8 x9 x10 x11 x12 x13 (ofNat x13.length) 0:=mkI
theorem Zo0 n x0 x1 x2 x3 x4 x5 x6 x7 x8 x9 x10 x11 x12 x13 x14 x15:Eq (Zeu (n+1) x0 x1 x2 x3 x4 x5 x6 x7 x8 x9 x10 x11 x12 x13 x14 x15)<|bif x15<x14 then ixb x12 x15 λe0=>(Zm e0 []).bind λe1=>ixb x12 x15 λe2=>Zeu n x0 x1 x2 x3 x4 x5 x6 x7 x8 x9 x10 x11 (List.set x12 x15.toNat (e1.1.1,e1.1.2.1,e1.1.2.2.1,e1.1.2.2.2.1,e1.1.2.2.2.2.1,e1.1.2.2.2.2.2.1,e1.1.2.2.2.2.2.2.1,e1.1.2.2.2.2.2.2.2.1,e1.1.2.2.2.2.2.2.2.2.1,e2.2.2.2.2.2.2.2.2.2)) x13 x14 (wrap .i64 (x15+1))else Zoz n x0 x1 x2 x3 x4 x5 x6 x7 x8 x9 x10 x11 x12 x13:=mkI
theorem Znd n x0 x1 x2 x3 x4 x5 x6 x7 x8 x9 x10 x11 x12 x13 x14 x15:Eq (Zbd (n+1) x0 x1 x2 x3 x4 x5 x6 x7 x8 x9 x10 x11 x12 x13 x14 x15)<|bif x15<x14 then ixb x13 x15 λe0=>(Zj 80 e0.2.1).bind λe1=>ixb x13 x15 λe2=>Zbd n x0 x1 x2 x3 x4 x5 x6 x7 x8 x9 x10 x11 x12 (List.set x13 x15.toNat (e2.1,e1.1,e2.2.2)) x14 (wrap .i64 (x15+1))else some (((x0,x1,x2,x3,x4,x5,x6,x7,x8,x9,x10,x11,x12,x13,()),())):=mkI
def Yp2:Tb:=[(260,Yea),(261,Yec)]
def F219:TFun:=⟨[],[(10,qc [qn 7,[.boxN 336 5 [.p di,.p di,.p di,.p di,.p di]],[.c (.rowN 2 1 Tq13)],qn 19,[.c (.p (.sl Tq5))],qi,qi,qn 49])],[.c (.sl Tq5),.a Tq9],[.c (.s 2 1 Tq13),.c (.p di)],qc [qn 4,[.c (.rowN 2 1 Tq13)],qi,qn 74],[],[],0⟩
def Zzl:=mkC Yp2 prog 222 F219
theorem Y1i:Zzl.ok prog 222:=mkO ⟨Y0m,Y0o,trivial⟩
def Yh0:TCon:=⟨Zzl.args,[.c (.p (.sl Tq13)),.c (.p di)],Zzl.fn⟩
theorem Yxq:Yh0.ok prog 222:=TCon.frz (c:=Zzl) Y1i rfl
def Z3x(a0:(List Ty5))(a1:Ty10):Option (List (Int×Unit)×Int×Unit):=Zzl.fn (a0,a1,())
def Yq(n:Nat)(x0 x1 x2 x3 x4:Int)(x5:Ty7)(x6:(List Ty5))(x7 x8:Int):Option (List (Int×Unit)×Int×Unit):=itr Yp2 prog 222 F219 n 10 (x0,x1,x2,x3,x4,x5,x6,x7,x8,())
theorem Yaq a0 a1:Eq (Z3x a0 a1)<|(Ztz a0).bind λe0=>bif e0.1 !=0 then some ([],e0.1,())else bif decide (toNat (ofNat a0.length)<=toNat (ofNat a0.length))&&(decide (8*toNat (ofNat a0.length)<=281474976710656)&&decide (toNat (ofNat a0.length)<=9223372036854775807))then Yq fuel 0 0 a1.1 a1.2.1 a1.2.2.1 (List.replicate (toNat (ofNat a0.length)) (0,())) a0 (ofNat a0.length) 0 else none:=mkE
theorem Zo1 n x0 x1 x2 x3 x4 x5 x6 x7 x8:Eq (Yq (n+1) x0 x1 x2 x3 x4 x5 x6 x7 x8)<|bif x8<x7 then ix x6 x8 λe0=>bif e0.1==1 then ixb x5 x8 λe1=>Yq n x0 x1 x2 x3 x4 (List.set x5 x8.toNat (e0.2.1,e1.2)) x6 x7 (wrap .i64 (x8+1))else bif e0.1<=4 then bif 0<=e0.1 then bif e0.1.toNat=nat_lit 4 then ixb x5 x8 λe1=>Yq n x0 x1 x2 x3 x4 (List.set x5 x8.toNat (x4,e1.2)) x6 x7 (wrap .i64 (x8+1))else bif e0.1.toNat=nat_lit 3 then ixb x5 x8 λe1=>Yq n x0 x1 x2 x3 x4 (List.set x5 x8.toNat (x3,e1.2)) x6 x7 (wrap .i64 (x8+1))else bif e0.1.toNat=nat_lit 2 then ixb x5 x8 λe1=>Yq n x0 x1 x2 x3 x4 (List.set x5 x8.toNat (x2,e1.2)) x6 x7 (wrap .i64 (x8+1))else bif e0.1.toNat=nat_lit 1 then ixb x5 x8 λe1=>Yq n x0 x1 x2 x3 x4 (List.set x5 x8.toNat (x1,e1.2)) x6 x7 (wrap .i64 (x8+1))else bif e0.1.toNat=nat_lit 0 then ixb x5 x8 λe1=>Yq n x0 x1 x2 x3 x4 (List.set x5 x8.toNat (x0,e1.2)) x6 x7 (wrap .i64 (x8+1))else none else none else ixb x5 e0.2.2.1 λe1=>ixb x5 e0.2.2.2.1 λe2=>(Z6f e0.1 e1.1 e2.1).bind λe3=>bif e3.2.1 !=0 then some ([],e3.2.1,())else ixb x5 x8 λe4=>Yq n x0 x1 x2 x3 x4 (List.set x5 x8.toNat (e3.1,e4.2)) x6 x7 (wrap .i64 (x8+1))else some (x5,0,()):=mkI
def Yxr:Tb:=[(222,Yh0)]
def F184:TFun:=⟨[],[],[.c (.sl Tq5),.a Tq9],[.c (.p di),.c (.p di)],qc [qn 4,qi,qi,qn 17],[],[],0⟩
def Yey:=mkC Yxr prog 189 F184
theorem Y1j:Yey.ok prog 189:=mkO ⟨Yxq,trivial⟩
def Zrh(a0:(List Ty5))(a1:Ty10):Option Ty8:=Yey.fn (a0,a1,())
theorem Yez a0 a1:Eq (Zrh a0 a1)<|(Z3x a0 a1).bind λe0=>bif e0.2.1 !=0 then some (0,e0.2.1,())else ix e0.1 (wrap .i64 (ofNat e0.1.length-1)) λe1=>some (e1.1,0,()):=mkE
def Ye0:Tb:=[(144,Z6z),(61,Zhc),(189,Yey)]
def F140:TFun:=⟨[6,13],[(6,qc [qn 2,[.boxN 27 10 [.p (.int .u8),.p (.sl Tq5),.any,.any,.any,.any,.any,.any,.p db,.any]],[.boxN 78 3 [.p di,.p di,.p di]],[.boxN 78 3 [.any,.any,.any]],qn 49]),(13,qc [qn 2,[.boxN 27 10 [.any,.any,.any,.any,.any,.any,.any,.any,.p db,.any]],[.boxN 78 3 [.p di,.any,.any]],[.boxN 78 3 [.any,.any,.any]],qn 4,[.boxN 78 3 [.p di,.p di,.p di]],qn 44])],[.a Tq11,.a Tq9],[.a [.p di,.p di,.p di],.c (.p db),.c (.p di)],qc [qn 4,[.boxN 78 3 [.p di,.p di,.p di]],qb,qi,qn 47],[],[],0⟩
def Ye1:=mkC Ye0 prog 145 F140
theorem Y1k:Ye1.ok prog 145:=mkO ⟨Yur,ok87,Y1j,trivial⟩
def Zgz(a0:Ty6)(a1:Ty10):Option (Ty10×Bool×Int×Unit):=Ye1.fn (a0,a1,())
def Zdj(n:Nat)(x0:Int)(x1:(List Ty5))(x2:Bool)(x3 x4 x5:Int):Option (Ty10×Bool×Int×Unit):=itr Ye0 prog 145 F140 n 6 (x0,x1,x2,x3,x4,x5,())
def Zal(n:Nat)(x0:Bool)(x1 x2 x3 x4:Int):Option (Ty10×Bool×Int×Unit):=itr Ye0 prog 145 F140 n 13 (x0,x1,x2,x3,x4,())
theorem Zsx a0 a1:Eq (Zgz a0 a1)<|(Zfg a0).bind λe0=>bif !e0.1 then some (((0,0,0,()),false,8,()))else(Zt (1,a1.1,a1.2.1,a1.2.2.1,0,0,0,0,0,0,())).bind λe1=>bif e1.1 !=0 then some (((0,0,0,()),false,8,()))else let k1:=Zdj fuel a0.1 a0.2.1 a0.2.2.2.2.2.2.2.2.1 a1.1 a1.2.1 a1.2.2.1;bif ofNat a0.2.2.2.2.1.length>0 then(Zrh a0.2.2.2.2.1 a1).bind λe2=>bif e2.1==0 then some (((0,0,0,()),false,0,()))else k1 else k1:=mkE
theorem Zri n x0 x1 x2 x3 x4 x5:Eq (Zdj (n+1) x0 x1 x2 x3 x4 x5)<|bif x0 !=1 then(Zrh x1 (x3,x4,x5,())).bind λe0=>Zal n x2 x3 0 x4 e0.1 else Zal n x2 x3 0 x4 0:=mkI
theorem Zps n x0 x1 x2 x3 x4:Eq (Zal (n+1) x0 x1 x2 x3 x4)<|bif x0 then some (((x1,x3,x4,()),true,0,()))else some (((x2,x3,x4,()),true,0,())):=mkI
def Yxs:Tb:=[(30,Z3c)]
def F143:TFun:=⟨[],[],[.a Tq11],[.c (.p db)],qc [qn 2,qb,qn 14],[],[],0⟩
def Ye2:=mkC Yxs prog 148 F143
theorem Y1l:Ye2.ok prog 148:=mkO ⟨ok44,trivial⟩
def Zrj(a0:Ty6):Option (Bool×Unit):=Ye2.fn (a0,())
theorem Zzm a0:Eq (Zrj a0)<|(Yl a0).bind λe0=>bif e0.2.1==0 then some (!a0.2.2.2.1,())else some (false,()):=mkE
end
noncomputable section
open Go.Abs hiding fuel
open Go.Proofs.Tryz (prog)
open Int (ofNat toNat)
open Go.IntKind (wrap)
def Yus:Tb:=[(62,Zol),(146,Yed),(61,Zhc),(147,Yee),(69,Znb)]
def F77:TFun:=⟨[],[(21,qc [qn 3,[.boxN 56 9 [.p (.int .u8),.p di,.p di,.p (.sl Tq3),.p (.sl Tq13),.p (.sl Tq2),.p (.sl Tq7),.p (.sl Tq6),.p (.sl Tq9)]],[.boxN 111 10 [.p (.int .u8),.p di,.p di,.p di,.p di,.p di,.p di,.p di,.p di,.p di]],qn 1,[.boxN 56 9 [.any,.any,.any,.nil,.nil,.nil,.nil,.nil,.nil]],qn 4,[.c (.rowN 3 1 Tq13)],qn 58,qi,qi,qn 14])],[.a Tq1,.a Tq4,.c di],[.a [.p (.int .u8),.p di,.p di,.s 125 11 Tq3,.s 2 1 Tq13,.s 152 11 Tq2,.s 80 5 Tq7,.s 109 5 Tq6,.s 78 3 Tq9],.c (.p di)],qc [qn 6,[.boxN 56 9 [.p (.int .u8),.p di,.p di,.rowN 125 11 Tq3,.rowN 2 1 Tq13,.rowN 152 11 Tq2,.rowN 80 5 Tq7,.rowN 109 5 Tq6,.rowN 78 3 Tq9]],qi,qn 78],[],[],0⟩
def Yp3:=mkC Yus prog 83 F77
theorem ok77:Yp3.ok prog 83:=mkO ⟨ok66,Y0p,ok87,Y0q,ok62,trivial⟩
def Zsy(a0:Ty1)(a1:Ty4)(a2:Int):Option Ty11:=Yp3.fn (a0,a1,a2,())
def Zbx(n:Nat)(x0 x1 x2:Int)(x3:(List Ty3))(x4:Ty7)(x5:(List Ty3))(x6:Ty12)(x7:(List Ty5))(x8:(List Ty10))(x9 x10 x11 x12 x13 x14 x15 x16 x17 x18:Int)(x19:Ty7)(x20 x21:Int):Option Ty11:=itr Yus prog 83 F77 n 21 (x0,x1,x2,x3,x4,x5,x6,x7,x8,x9,x10,x11,x12,x13,x14,x15,x16,x17,x18,x19,x20,x21,())
theorem Yar a0 a1 a2:Eq (Zsy a0 a1 a2)<|(Yu a0).bind λe0=>bif e0.1 !=0 then some (((0,0,0,[],[],[],[],[],[],()),e0.1,()))else(Z6g a1.2.1 a2).bind λe1=>bif a0.1 !=3 then some (((0,0,0,[],[],[],[],[],[],()),2,()))else bif e1.2.1 !=0 then some (((0,0,0,[],[],[],[],[],[],()),2,()))else(Zt a1).bind λe2=>bif e2.1 !=0 then some (((0,0,0,[],[],[],[],[],[],()),8,()))else let k1:Option Ty11:=bif ofNat a0.2.2.2.1.length>0 then some (((0,0,0,[],[],[],[],[],[],()),18,()))else bif a1.1==1 then(Zu8 a1 [(e1.1,())]).bind λe3=>(Zm a0 e3.1).bind λe4=>some (e4.1,e4.2.1,())else Zbx fuel a0.1 a0.2.1 a0.2.2.1 a0.2.2.2.1 a0.2.2.2.2.1 a0.2.2.2.2.2.1 a0.2.2.2.2.2.2.1 a0.2.2.2.2.2.2.2.1 a0.2.2.2.2.2.2.2.2.1 a1.1 a1.2.1 a1.2.2.1 a1.2.2.2.1 a1.2.2.2.2.1 a1.2.2.2.2.2.1 a1.2.2.2.2.2.2.1 a1.2.2.2.2.2.2.2.1 a1.2.2.2.2.2.2.2.2.1 a1.2.2.2.2.2.2.2.2.2.1 ([]) a2 0;bif a1.1 !=1 then bif a1.1 !=2 then some (((0,0,0,[],[],[],[],[],[],()),8,()))else k1 else k1:=mkE
theorem Zo2 n x0 x1 x2 x3 x4 x5 x6 x7 x8 x9 x10 x11 x12 x13 x14 x15 x16 x17 x18 x19 x20 x21:Eq (Zbx (n+1) x0 x1 x2 x3 x4 x5 x6 x7 x8 x9 x10 x11 x12 x13 x14 x15 x16 x17 x18 x19 x20 x21)<|bif x21<x20 then bif Ze (x19.length+List.length [(x21,())]) 8 then Zbx n x0 x1 x2 x3 x4 x5 x6 x7 x8 x9 x10 x11 x12 x13 x14 x15 x16 x17 x18 (x19++[(x21,())]) x20 (wrap .i64 (x21+1))else none else(Zu8 (x9,x10,x11,x12,x13,x14,x15,x16,x17,x18,()) x19).bind λe0=>(Zm (x0,x1,x2,x3,x4,x5,x6,x7,x8,()) e0.1).bind λe1=>some (e1.1,e1.2.1,()):=mkI
end
noncomputable section
open Go.Abs hiding fuel
open Go.Proofs.Tryz (prog)
open Int (ofNat toNat)
open Go.IntKind (wrap)
abbrev Zzn:List Go.Abs.RCT:=[.p (.int .u8),.p di,.p di,.p (.sl Tq3),.p (.sl Tq13),.p (.sl Tq2),.p (.sl Tq7),.p (.sl Tq6),.p (.sl Tq9)]
abbrev Z61:List Go.Abs.SC:=[.p (.int .u8),.p di,.p di,.rowN 125 11 Tq3,.rowN 2 1 Tq13,.rowN 152 11 Tq2,.rowN 80 5 Tq7,.rowN 109 5 Tq6,.rowN 78 3 Tq9]
abbrev Z62:List Go.Abs.RCT:=[.p (.int .u8),.p di,.p di,.s 125 11 Tq3,.s 2 1 Tq13,.s 152 11 Tq2,.s 80 5 Tq7,.s 109 5 Tq6,.s 78 3 Tq9]
abbrev Ye3:List Go.Abs.SC:=[.p (.int .u8),.p di,.p di,.p (.sl Tq3),.p (.sl Tq13),.p (.sl Tq2),.p (.sl Tq7),.p (.sl Tq6),.p (.sl Tq9)]
def Y1m:Tb:=[(70,Ypw),(71,Ygw),(72,Ypq),(69,Znb)]
def F35:TFun:=⟨[],[],[.a Tq1],[.a Z62,.c (.p di)],qc [qn 2,[.boxN 56 9 Z61],qi,qn 47],[],[],0⟩
def Yas:=mkC Y1m prog 38 F35
theorem ok35:Yas.ok prog 38:=mkO ⟨ok63,ok64,Y07,ok62,trivial⟩
def Yp4:TCon:=⟨Yas.args,[.a Zzn,.c (.p di)],Yas.fn⟩
theorem Y1n:Yp4.ok prog 38:=TCon.frz (c:=Yas) ok35 rfl
def Zne(a0:Ty1):Option Ty11:=Yas.fn (a0,())
theorem Z1u a0:Eq (Zne a0)<|(Zrg a0).bind λe0=>bif e0.1 !=0 then some (((0,0,0,[],[],[],[],[],[],()),e0.1,()))else bif ofNat a0.2.2.2.1.length>0 then some (((0,0,0,[],[],[],[],[],[],()),18,()))else bif ofNat a0.2.2.2.2.2.2.1.length==0 then some (((0,0,0,[],[],[],[],[],[],()),6,()))else(a0.2.2.2.2.2.2.1[0]?).bind λe1=>(Zja e1).bind λe2=>(Zj 40 a0.2.2.2.2.2.2.1).bind λe3=>bif toNat (ofNat a0.2.2.2.2.2.2.1.length)=toNat (ofNat a0.2.2.2.2.2.2.1.length)then bif decide (1<=toNat (ofNat a0.2.2.2.2.2.2.1.length))&&decide (toNat (ofNat a0.2.2.2.2.2.2.1.length)<=e3.1.length)then bif 1=toNat (ofNat a0.2.2.2.2.2.2.1.length)then(Zm (a0.1,a0.2.1,a0.2.2.1,a0.2.2.2.1,a0.2.2.2.2.1,a0.2.2.2.2.2.1,[],a0.2.2.2.2.2.2.2) [(0,e2.1)]).bind λe4=>some (e4.1,e4.2.1,())else(Zm (a0.1,a0.2.1,a0.2.2.1,a0.2.2.2.1,a0.2.2.2.2.1,a0.2.2.2.2.2.1,List.drop 1 (List.take (toNat (ofNat a0.2.2.2.2.2.2.1.length)) e3.1),a0.2.2.2.2.2.2.2) [(0,e2.1)]).bind λe4=>some (e4.1,e4.2.1,())else none else none:=mkE
def Y1o:Tb:=[(144,Z6z),(62,Zol),(61,Zhc),(69,Znb),(75,Yhw),(145,Ye1)]
def F76:TFun:=⟨[],[],[.a Tq11,.a Tq1,.a Tq4],[.a Z62,.c (.p di)],qc [qn 6,[.boxN 56 9 Z61],qi,qn 116],[],[],0⟩
def Yat:=mkC Y1o prog 82 F76
theorem ok76:Yat.ok prog 82:=mkO ⟨Yur,ok66,ok87,ok62,ok69,Y1k,trivial⟩
def Yp5:TCon:=⟨Yat.args,[.a Zzn,.c (.p di)],Yat.fn⟩
theorem Y1p:Yp5.ok prog 82:=TCon.frz (c:=Yat) ok76 rfl
def Znf(a0:Ty6)(a1:Ty1)(a2:Ty4):Option Ty11:=Yat.fn (a0,a1,a2,())
theorem Z1v a0 a1 a2:Eq (Znf a0 a1 a2)<|(Zfg a0).bind λe0=>bif !e0.1 then some (((0,0,0,[],[],[],[],[],[],()),8,()))else(Yu a1).bind λe1=>bif e1.1 !=0 then some (((0,0,0,[],[],[],[],[],[],()),e1.1,()))else bif a1.1 !=2 then some (((0,0,0,[],[],[],[],[],[],()),2,()))else(Zt a2).bind λe2=>bif e2.1 !=0 then some (((0,0,0,[],[],[],[],[],[],()),8,()))else let k1:Option Ty11:=bif ofNat a1.2.2.2.1.length>0 then some (((0,0,0,[],[],[],[],[],[],()),18,()))else(a1.2.2.2.2.1[0]?).bind λe3=>let k3:=(Zm a1 []).bind λe4=>some (e4.1,e4.2.1,());bif a2.1==2 then bif a2.2.2.2.2.1<=e3.1 then k3 else(bif Ze a1.2.2.2.2.1.length 8 then some (a1.2.2.2.2.1,())else none).bind λe4=>bif 0<e4.1.length then(e4.1[0]?).bind λe5=>(Zm (a1.1,a1.2.1,a1.2.2.1,a1.2.2.2.1,List.set e4.1 0 (a2.2.2.2.2.1,e5.2),a1.2.2.2.2.2) [(0,a2)]).bind λe6=>some (e6.1,e6.2.1,())else none else bif a2.2.2.1<e3.1 then bif a0.2.2.2.2.2.2.2.2.2.1 !=2 then k3 else(Zm a1 [(1,4,a2.2.1,a2.2.2.1,a2.2.2.2.1,0,0,0,0,0,0,())]).bind λe4=>some (e4.1,e4.2.1,())else(Zgz a0 (a2.2.1,a2.2.2.1,a2.2.2.2.1,())).bind λe4=>bif !e4.2.1 then(Zm a1 []).bind λe5=>some (e5.1,e5.2.1,())else(Zm a1 [(0,1,e4.1.1,e4.1.2.1,e4.1.2.2.1,0,0,0,0,0,0,())]).bind λe5=>some (e5.1,e5.2.1,());bif a2.1 !=1 then bif a2.1 !=2 then some (((0,0,0,[],[],[],[],[],[],()),8,()))else k1 else k1:=mkE
def Yut:Tb:=[(148,Ye2),(62,Zol),(61,Zhc),(149,Z6s),(69,Znb),(150,Z6w),(151,Zzh),(152,Z6x),(199,Z6h)]
def F78:TFun:=⟨[],[(49,qc [[.c (.yl)],qn 1,[.boxN 27 10 [.p (.int .u8),.any,.any,.any,.any,.any,.any,.any,.any,.any]],qn 5,[.c (.p (.sl Tq2))],qi,qi,qn 23,[.c (.k 0)],qn 5,[.boxN 56 9 Ye3],qn 2,[.boxN 56 9 [.any,.any,.any,.nil,.nil,.nil,.nil,.nil,.nil]],qn 12,[.boxN 49 1 [.rowN 125 11 Tq3]],[.boxN 235 1 [.fnp 153 3 0]],qn 118])],[.a Tq11,.a Tq1,.c di,.a Tq4],[.a Z62,.c (.p di)],qc [qn 8,[.boxN 56 9 Z61],qi,qn 131],[(58,[153]),(57,[4294967295]),(47,[198]),(44,[154])],[(49,[1,141])],8⟩
def Yau:=mkC Yut prog 84 F78
theorem ok78:Yau.ok prog 84:=mkO ⟨Y1l,ok66,ok87,Ypn,ok62,Ypy,Ypx,Yp0,Yuf,trivial⟩
def Yp6:TCon:=⟨Yau.args,[.a Zzn,.c (.p di)],Yau.fn⟩
theorem Y1q:Yp6.ok prog 84:=TCon.frz (c:=Yau) ok78 rfl
def Zzo(a0:Ty6)(a1:Ty1)(a2:Int)(a3:Ty4):Option Ty11:=Yau.fn (a0,a1,a2,a3,())
def Zfw(n:Nat)(x0:Int)(x1:(List Ty3))(x2 x3 x4 x5 x6:Int)(x7:(List Ty3))(x8:Ty7)(x9:(List Ty3))(x10:Ty12)(x11:(List Ty5))(x12:(List Ty10))(x13:(List Ty3)):Option Ty11:=itr Yut prog 84 F78 n 49 (x0,x1,x2,x3,x4,x5,x6,x7,x8,x9,x10,x11,x12,x13,())
theorem Ye4 a0 a1 a2 a3:Eq (Zzo a0 a1 a2 a3)<|(Zrj a0).bind λe0=>bif !e0.1 then some (((0,0,0,[],[],[],[],[],[],()),8,()))else(Yu a1).bind λe1=>bif e1.1 !=0 then some (((0,0,0,[],[],[],[],[],[],()),e1.1,()))else bif a1.1 !=4 then some (((0,0,0,[],[],[],[],[],[],()),2,()))else bif a2<0 then some (((0,0,0,[],[],[],[],[],[],()),2,()))else bif a2>=ofNat a1.2.2.2.2.1.length then some (((0,0,0,[],[],[],[],[],[],()),2,()))else(Zt a3).bind λe2=>bif e2.1 !=0 then some (((0,0,0,[],[],[],[],[],[],()),8,()))else let k1:Option Ty11:=bif ofNat a1.2.2.2.1.length>0 then some (((0,0,0,[],[],[],[],[],[],()),18,()))else bif a3.1==1 then(Zea a1.2.2.2.2.2.1 (a0.2.2.2.2.2.1,a0.2.2.2.2.2.2.1,a0.2.2.2.2.2.2.2.1,()) (a3.2.1,a3.2.2.1,a3.2.2.2.1,()) 0).bind λe3=>bif e3.2.1 !=0 then some (((0,0,0,[],[],[],[],[],[],()),e3.2.1,()))else(Zm (a1.1,a1.2.1,a1.2.2.1,a1.2.2.2.1,a1.2.2.2.2.1,e3.1,a1.2.2.2.2.2.2) []).bind λe4=>some (e4.1,e4.2.1,())else(Zhq a1.2.2.2.2.1 a2 a3.2.2.2.2.1).bind λe3=>bif !e3.2.1 then(Zm (a1.1,a1.2.1,a1.2.2.1,a1.2.2.2.1,e3.1,a1.2.2.2.2.2) []).bind λe4=>some (e4.1,e4.2.1,())else(Ze7 e3.1).bind λe4=>(Zjt a1.2.2.2.2.2.1 e4.1).bind λe5=>Zfw fuel a0.1 e5.1 (ofNat e5.1.length) 0 a1.1 a1.2.1 a1.2.2.1 a1.2.2.2.1 e3.1 e5.2.1 a1.2.2.2.2.2.2.1 a1.2.2.2.2.2.2.2.1 a1.2.2.2.2.2.2.2.2.1 ([]);bif a3.1 !=1 then bif a3.1 !=2 then some (((0,0,0,[],[],[],[],[],[],()),8,()))else k1 else k1:=mkE
theorem Zrk n x0 x1 x2 x3 x4 x5 x6 x7 x8 x9 x10 x11 x12 x13:Eq (Zfw (n+1) x0 x1 x2 x3 x4 x5 x6 x7 x8 x9 x10 x11 x12 x13)<|bif x3<x2 then ix x1 x3 λe0=>(Zdg x0 (e0.2.2.2.1,e0.2.2.2.2.1,e0.2.2.2.2.2.1,e0.2.2.2.2.2.2.1,())).bind λe1=>bif Ze (x13.length+List.length [(0,3,0,0,0,0,e0.1,e0.2.1,e0.2.2.1,e1.1,0,())]) 88 then Zfw n x0 x1 x2 (wrap .i64 (x3+1)) x4 x5 x6 x7 x8 x9 x10 x11 x12 (x13++[(0,3,0,0,0,0,e0.1,e0.2.1,e0.2.2.1,e1.1,0,())])else none else(Zm (x4,x5,x6,x7,x8,x9,x10,x11,x12,()) x13).bind λe0=>some (e0.1,e0.2.1,()):=mkI
def Yxt:Tb:=[(30,Z3c)]
def F150:TFun:=⟨[],[],[.a Tq11],[.c (.p db)],qc [qn 2,qb,qn 13],[],[],0⟩
def Ye5:=mkC Yxt prog 155 F150
theorem Y1r:Ye5.ok prog 155:=mkO ⟨ok44,trivial⟩
def Zo3(a0:Ty6):Option (Bool×Unit):=Ye5.fn (a0,())
theorem Zuq a0:Eq (Zo3 a0)<|(Yl a0).bind λe0=>bif e0.2.1==0 then some (a0.2.2.2.1,())else some (false,()):=mkE
def Yxu:Tb:=[(199,Z6h)]
def F151:TFun:=⟨[],[],[.a Tq11,.a Tq2],[.a [.p di,.p di,.p di,.p di,.p di],.c (.p db)],qc [qn 4,[.boxN 109 5 [.p di,.p di,.p di,.p di,.p di]],qb,qn 37],[],[],0⟩
def Ye6:=mkC Yxu prog 156 F151
theorem Y1s:Ye6.ok prog 156:=mkO ⟨Yuf,trivial⟩
def Zzp(a0:Ty6)(a1:Ty3):Option (Ty5×Bool×Unit):=Ye6.fn (a0,a1,())
theorem Ye7 a0 a1:Eq (Zzp a0 a1)<|(Zdg a0.1 (a1.2.2.2.1,a1.2.2.2.2.1,a1.2.2.2.2.2.1,a1.2.2.2.2.2.2.1,())).bind λe0=>(Zdg a0.1 a1.2.2.2.2.2.2.2).bind λe1=>bif e0.2.1 !=0 then some (((0,0,0,0,0,()),false,()))else bif e1.2.1 !=0 then some (((0,0,0,0,0,()),false,()))else some (((a1.1,a1.2.1,a1.2.2.1,e0.1,e1.1,()),true,())):=mkE
def Yuu:Tb:=[(155,Ye5),(62,Zol),(61,Zhc),(149,Z6s),(69,Znb),(150,Z6w),(151,Zzh),(152,Z6x),(156,Ye6)]
def F79:TFun:=⟨[],[(43,qc [qn 4,[.boxN 27 10 [.p (.int .u8),.p (.sl Tq5),.p (.sl Tq13),.p db,.p (.sl Tq5),.p (.int .u8),.p di,.p di,.p db,.p (.int .u8)]],[.boxN 56 9 Ye3],qn 2,[.boxN 56 9 [.any,.any,.any,.nil,.nil,.nil,.nil,.nil,.nil]],qn 12,[.c (.rowN 125 11 Tq3)],qn 106,[.c (.p (.sl Tq2))],qi,qi,qn 22])],[.a Tq11,.a Tq1,.c di,.a Tq4],[.a Z62,.c (.p di)],qc [qn 8,[.boxN 56 9 Z61],qi,qn 143],[],[],0⟩
def Yav:=mkC Yuu prog 85 F79
theorem ok79:Yav.ok prog 85:=mkO ⟨Y1r,ok66,ok87,Ypn,ok62,Ypy,Ypx,Yp0,Y1s,trivial⟩
def Yp7:TCon:=⟨Yav.args,[.a Zzn,.c (.p di)],Yav.fn⟩
theorem Y1t:Yp7.ok prog 85:=TCon.frz (c:=Yav) ok79 rfl
def Zsz(a0:Ty6)(a1:Ty1)(a2:Int)(a3:Ty4):Option Ty11:=Yav.fn (a0,a1,a2,a3,())
def Zby(n:Nat)(x0:Int)(x1:(List Ty5))(x2:Ty7)(x3:Bool)(x4:(List Ty5))(x5 x6 x7:Int)(x8:Bool)(x9 x10 x11 x12:Int)(x13:(List Ty3))(x14:Ty7)(x15:(List Ty3))(x16:Ty12)(x17:(List Ty5))(x18:(List Ty10))(x19 x20:(List Ty3))(x21 x22:Int):Option Ty11:=itr Yuu prog 85 F79 n 43 (x0,x1,x2,x3,x4,x5,x6,x7,x8,x9,x10,x11,x12,x13,x14,x15,x16,x17,x18,x19,x20,x21,x22,())
theorem Yaw a0 a1 a2 a3:Eq (Zsz a0 a1 a2 a3)<|(Zo3 a0).bind λe0=>bif !e0.1 then some (((0,0,0,[],[],[],[],[],[],()),8,()))else(Yu a1).bind λe1=>bif e1.1 !=0 then some (((0,0,0,[],[],[],[],[],[],()),e1.1,()))else bif a1.1 !=5 then some (((0,0,0,[],[],[],[],[],[],()),2,()))else bif a2<0 then some (((0,0,0,[],[],[],[],[],[],()),2,()))else bif a2>1 then some (((0,0,0,[],[],[],[],[],[],()),2,()))else(Zt a3).bind λe2=>bif e2.1 !=0 then some (((0,0,0,[],[],[],[],[],[],()),8,()))else let k1:Option Ty11:=bif ofNat a1.2.2.2.1.length>0 then some (((0,0,0,[],[],[],[],[],[],()),18,()))else bif a3.1==1 then(Zea a1.2.2.2.2.2.1 (a0.2.2.2.2.2.1,a0.2.2.2.2.2.2.1,a0.2.2.2.2.2.2.2.1,()) (a3.2.1,a3.2.2.1,a3.2.2.2.1,()) a2).bind λe3=>bif e3.2.1 !=0 then some (((0,0,0,[],[],[],[],[],[],()),e3.2.1,()))else(Zm (a1.1,a1.2.1,a1.2.2.1,a1.2.2.2.1,a1.2.2.2.2.1,e3.1,a1.2.2.2.2.2.2) []).bind λe4=>some (e4.1,e4.2.1,())else(Zhq a1.2.2.2.2.1 a2 a3.2.2.2.2.1).bind λe3=>bif !e3.2.1 then(Zm (a1.1,a1.2.1,a1.2.2.1,a1.2.2.2.1,e3.1,a1.2.2.2.2.2) []).bind λe4=>some (e4.1,e4.2.1,())else(Ze7 e3.1).bind λe4=>(Zjt a1.2.2.2.2.2.1 e4.1).bind λe5=>Zby fuel a0.1 a0.2.1 a0.2.2.1 a0.2.2.2.1 a0.2.2.2.2.1 a0.2.2.2.2.2.1 a0.2.2.2.2.2.2.1 a0.2.2.2.2.2.2.2.1 a0.2.2.2.2.2.2.2.2.1 a0.2.2.2.2.2.2.2.2.2.1 a1.1 a1.2.1 a1.2.2.1 a1.2.2.2.1 e3.1 e5.2.1 a1.2.2.2.2.2.2.1 a1.2.2.2.2.2.2.2.1 a1.2.2.2.2.2.2.2.2.1 ([]) e5.1 (ofNat e5.1.length) 0;bif a3.1 !=1 then bif a3.1 !=2 then some (((0,0,0,[],[],[],[],[],[],()),8,()))else k1 else k1:=mkE
theorem Zo4 n x0 x1 x2 x3 x4 x5 x6 x7 x8 x9 x10 x11 x12 x13 x14 x15 x16 x17 x18 x19 x20 x21 x22:Eq (Zby (n+1) x0 x1 x2 x3 x4 x5 x6 x7 x8 x9 x10 x11 x12 x13 x14 x15 x16 x17 x18 x19 x20 x21 x22)<|bif x22<x21 then ix x20 x22 λe0=>(Zzp (x0,x1,x2,x3,x4,x5,x6,x7,x8,x9,()) e0).bind λe1=>bif e1.2.1 then bif Ze (x19.length+List.length [(0,3,0,0,0,0,e1.1)]) 88 then Zby n x0 x1 x2 x3 x4 x5 x6 x7 x8 x9 x10 x11 x12 x13 x14 x15 x16 x17 x18 (x19++[(0,3,0,0,0,0,e1.1)]) x20 x21 (wrap .i64 (x22+1))else none else Zby n x0 x1 x2 x3 x4 x5 x6 x7 x8 x9 x10 x11 x12 x13 x14 x15 x16 x17 x18 x19 x20 x21 (wrap .i64 (x22+1))else(Zm (x10,x11,x12,x13,x14,x15,x16,x17,x18,()) x19).bind λe0=>some (e0.1,e0.2.1,()):=mkI
def Y1u:Tb:=[(82,Yp5),(35,Zyh),(83,Yp3),(84,Yp6),(85,Yp7),(86,Yp1)]
def F43:TFun:=⟨[],[],[.a Tq10,.c di,.c di,.a Tq4],[.a Zzn,.c (.p di)],qc [qn 8,[.boxN 56 9 Ye3],qi,qn 55],[],[],0⟩
def Yp8:=mkC Y1u prog 46 F43
theorem ok43:Yp8.ok prog 46:=mkO ⟨Y1p,Yhd,ok77,Y1q,Y1t,Y1h,trivial⟩
def Zvb(a0:Ty2)(a1 a2:Int)(a3:Ty4):Option Ty11:=Yp8.fn (a0,a1,a2,a3,())
theorem Yjt a0 a1 a2 a3:Eq (Zvb a0 a1 a2 a3)<|ix a0.2.2.2.2.2.2.2.2.2.2.2.2.1 a1 λe0=>bif e0.1==2 then(Znf (a0.1,a0.2.1,a0.2.2.1,a0.2.2.2.1,a0.2.2.2.2.1,a0.2.2.2.2.2.1,a0.2.2.2.2.2.2.1,a0.2.2.2.2.2.2.2.1,a0.2.2.2.2.2.2.2.2.1,a0.2.2.2.2.2.2.2.2.2.1,()) e0 a3).bind λe1=>some (e1.1,e1.2.1,())else bif e0.1==3 then(Ya (a0.2.2.2.2.2.2.2.2.2.2.1,a0.2.2.2.2.2.2.2.2.2.2.2.1,()) a1).bind λe1=>(Zsy e0 a3 (ofNat e1.1.length)).bind λe2=>some (e2.1,e2.2.1,())else bif e0.1==4 then(Zzo (a0.1,a0.2.1,a0.2.2.1,a0.2.2.2.1,a0.2.2.2.2.1,a0.2.2.2.2.2.1,a0.2.2.2.2.2.2.1,a0.2.2.2.2.2.2.2.1,a0.2.2.2.2.2.2.2.2.1,a0.2.2.2.2.2.2.2.2.2.1,()) e0 a2 a3).bind λe1=>some (e1.1,e1.2.1,())else bif e0.1==5 then(Zsz (a0.1,a0.2.1,a0.2.2.1,a0.2.2.2.1,a0.2.2.2.2.1,a0.2.2.2.2.2.1,a0.2.2.2.2.2.2.1,a0.2.2.2.2.2.2.2.1,a0.2.2.2.2.2.2.2.2.1,a0.2.2.2.2.2.2.2.2.2.1,()) e0 a2 a3).bind λe1=>some (e1.1,e1.2.1,())else(Zsw e0 a3).bind λe1=>some (e1.1,e1.2.1,()):=mkE
end
noncomputable section
open Go.Abs hiding fuel
open Go.Proofs.Tryz (prog)
open Int (ofNat toNat)
open Go.IntKind (wrap)
abbrev Ye8:List Go.Abs.SC:=[.p (.int .u8),.p (.sl Tq5),.p (.sl Tq13),.p db,.p (.sl Tq5),.p (.int .u8),.p di,.p di,.p db,.p (.int .u8),.p (.sl Tq17),.p (.sl Tq6),.p (.sl Tq1),.p (.sl Tq14)]
abbrev Ye9:List Go.Abs.RCT:=[.p (.int .u8),.p (.sl Tq5),.p (.sl Tq13),.p db,.p (.sl Tq5),.p (.int .u8),.p di,.p di,.p db,.p (.int .u8),.p (.sl Tq17),.p (.sl Tq6),.p (.sl Tq1),.p (.sl Tq14)]
abbrev Yp9:List Go.Abs.SC:=[.p (.int .u8),.p (.sl Tq5),.p (.sl Tq13),.p db,.p (.sl Tq5),.p (.int .u8),.p di,.p di,.p db,.p (.int .u8),.p (.sl Tq17),.p (.sl Tq6),.rowN 56 9 Tq1,.rowN 64 2 Tq14]
abbrev Yqa:List Go.Abs.SC:=[.any,.nil,.nil,.any,.nil,.any,.any,.any,.any,.any,.nil,.nil,.nil,.nil]
def Yuv:Tb:=[(35,Zyh),(19,Z58),(36,Ypv),(37,Yhz),(38,Yp4)]
def F17:TFun:=⟨[],[(12,qc [qn 2,[.boxN 35 14 Yp9],qn 1,[.boxN 35 14 Yqa],qn 4,[.c (.p (.sl Tq14))],qn 34,[.c (.p (.sl Tq13))],qi,qi,qn 32])],[.a Tq10,.c di],[.a Ye9,.c (.p db)],qc [qn 4,[.boxN 35 14 Ye8],qb,qn 73],[],[],0⟩
def Yqb:=mkC Yuv prog 17 F17
theorem ok17:Yqb.ok prog 17:=mkO ⟨Yhd,Yof,Y1c,ok34,Y1n,trivial⟩
def Zed(a0:Ty2)(a1:Int):Option (Ty2×Bool×Unit):=Yqb.fn (a0,a1,())
def Zdk(n:Nat)(x0:Int)(x1:(List Ty5))(x2:Ty7)(x3:Bool)(x4:(List Ty5))(x5 x6 x7:Int)(x8:Bool)(x9:Int)(x10:(List Ty8))(x11:(List Ty5))(x12:(List Ty1))(x13 x14:(List Ty9))(x15:Ty7)(x16 x17:Int):Option (Ty2×Bool×Unit):=itr Yuv prog 17 F17 n 12 (x0,x1,x2,x3,x4,x5,x6,x7,x8,x9,x10,x11,x12,x13,x14,x15,x16,x17,())
theorem Zju a0 a1:Eq (Zed a0 a1)<|ix a0.2.2.2.2.2.2.2.2.2.2.2.2.1 a1 λe0=>bif ofNat e0.2.2.2.1.length>0 then(Ya (a0.2.2.2.2.2.2.2.2.2.2.1,a0.2.2.2.2.2.2.2.2.2.2.2.1,()) a1).bind λe1=>(Zcm a0 e1.1).bind λe2=>(Zsv e0 e2.1).bind λe3=>(Zec a0).bind λe4=>ixb e4.1.2.2.2.2.2.2.2.2.2.2.2.2.1 a1 λe5=>Zdk fuel e4.1.1 e4.1.2.1 e4.1.2.2.1 e4.1.2.2.2.1 e4.1.2.2.2.2.1 e4.1.2.2.2.2.2.1 e4.1.2.2.2.2.2.2.1 e4.1.2.2.2.2.2.2.2.1 e4.1.2.2.2.2.2.2.2.2.1 e4.1.2.2.2.2.2.2.2.2.2.1 e4.1.2.2.2.2.2.2.2.2.2.2.1 e4.1.2.2.2.2.2.2.2.2.2.2.2.1 (List.set e4.1.2.2.2.2.2.2.2.2.2.2.2.2.1 a1.toNat (e3.1.1,e3.1.2.1,e3.1.2.2.1,e3.1.2.2.2.1,e3.1.2.2.2.2.1,e3.1.2.2.2.2.2.1,e3.1.2.2.2.2.2.2.1,e3.1.2.2.2.2.2.2.2.1,e3.1.2.2.2.2.2.2.2.2.1,e5.2.2.2.2.2.2.2.2.2)) e4.1.2.2.2.2.2.2.2.2.2.2.2.2.2.1 e3.2.1 e1.1 (ofNat e1.1.length) 0 else bif e0.1 !=1 then some (a0,false,())else(Zne e0).bind λe1=>(Zec a0).bind λe2=>ixb e2.1.2.2.2.2.2.2.2.2.2.2.2.2.1 a1 λe3=>some (((e2.1.1,e2.1.2.1,e2.1.2.2.1,e2.1.2.2.2.1,e2.1.2.2.2.2.1,e2.1.2.2.2.2.2.1,e2.1.2.2.2.2.2.2.1,e2.1.2.2.2.2.2.2.2.1,e2.1.2.2.2.2.2.2.2.2.1,e2.1.2.2.2.2.2.2.2.2.2.1,e2.1.2.2.2.2.2.2.2.2.2.2.1,e2.1.2.2.2.2.2.2.2.2.2.2.2.1,List.set e2.1.2.2.2.2.2.2.2.2.2.2.2.2.1 a1.toNat (e1.1.1,e1.1.2.1,e1.1.2.2.1,e1.1.2.2.2.1,e1.1.2.2.2.2.1,e1.1.2.2.2.2.2.1,e1.1.2.2.2.2.2.2.1,e1.1.2.2.2.2.2.2.2.1,e1.1.2.2.2.2.2.2.2.2.1,e3.2.2.2.2.2.2.2.2.2),e2.1.2.2.2.2.2.2.2.2.2.2.2.2.2.1,()),true,())):=mkE
theorem Zg0 n x0 x1 x2 x3 x4 x5 x6 x7 x8 x9 x10 x11 x12 x13 x14 x15 x16 x17:Eq (Zdk (n+1) x0 x1 x2 x3 x4 x5 x6 x7 x8 x9 x10 x11 x12 x13 x14 x15 x16 x17)<|bif x17<x16 then ix x15 x17 λe0=>ix x14 x17 λe1=>ixb x13 e0.1 λe2=>Zdk n x0 x1 x2 x3 x4 x5 x6 x7 x8 x9 x10 x11 x12 (List.set x13 e0.1.toNat (e1.1,e1.2.1,e2.2.2)) x14 x15 x16 (wrap .i64 (x17+1))else some (((x0,x1,x2,x3,x4,x5,x6,x7,x8,x9,x10,x11,x12,x13,()),true,())):=mkI
def Yuw:Tb:=[(20,Zyg),(45,Yo3),(46,Yp8),(37,Yhz)]
def F21:TFun:=⟨[10],[(10,qc [qn 1,qi,qn 2,[.boxN 35 14 Ye8],qn 3,[.boxN 35 14 Yqa],qn 1,qi,qn 1,[.boxN 64 2 [.p di,.p (.sl Tq4)]],qn 1,[.boxN 56 9 [.p (.int .u8),.p di,.p di,.p (.sl Tq3),.p (.sl Tq13),.p (.sl Tq2),.p (.sl Tq7),.p (.sl Tq6),.p (.sl Tq9)]],qn 47])],[.a Tq10,.c di,.c di,.c di],[.a [.p (.int .u8),.p (.sl Tq5),.p (.sl Tq13),.p db,.p (.sl Tq5),.p (.int .u8),.p di,.p di,.p db,.p (.int .u8),.p (.sl Tq17),.p (.sl Tq6),.s 56 9 Tq1,.s 64 2 Tq14],.c (.p di)],qc [qn 8,[.boxN 35 14 Yp9],qi,qn 52],[],[],0⟩
def Yax:=mkC Yuw prog 21 F21
theorem ok21:Yax.ok prog 21:=mkO ⟨Yhc,ok42,ok43,ok34,trivial⟩
def Yqc:TCon:=⟨Yax.args,[.a Ye9,.c (.p di)],Yax.fn⟩
theorem Y1v:Yqc.ok prog 21:=TCon.frz (c:=Yax) ok21 rfl
def Zs0(a0:Ty2)(a1 a2 a3:Int):Option (Ty2×Int×Unit):=Yax.fn (a0,a1,a2,a3,())
def Zh3(n:Nat)(x0 x1:Int)(x2:(List Ty5))(x3:Ty7)(x4:Bool)(x5:(List Ty5))(x6 x7 x8:Int)(x9:Bool)(x10:Int)(x11:(List Ty8))(x12:(List Ty5))(x13:(List Ty1))(x14:(List Ty9))(x15 x16:Int)(x17:(List Ty4))(x18 x19 x20:Int)(x21:(List Ty3))(x22:Ty7)(x23:(List Ty3))(x24:Ty12)(x25:(List Ty5))(x26:(List Ty10)):Option (Ty2×Int×Unit):=itr Yuw prog 21 F21 n 10 (x0,x1,x2,x3,x4,x5,x6,x7,x8,x9,x10,x11,x12,x13,x14,x15,x16,x17,x18,x19,x20,x21,x22,x23,x24,x25,x26,())
theorem Yay a0 a1 a2 a3:Eq (Zs0 a0 a1 a2 a3)<|(Yo (a0.2.2.2.2.2.2.2.2.2.2.1,a0.2.2.2.2.2.2.2.2.2.2.2.1,()) a1).bind λe0=>ix e0.1 a2 λe1=>ix a0.2.2.2.2.2.2.2.2.2.2.2.2.2.1 e1.1 λe2=>(Zjp e2).bind λe3=>(Zvb a0 a1 a2 e3.1).bind λe4=>bif e4.2.1 !=0 then some (((0,[],[],false,[],0,0,0,false,0,[],[],[],[],()),e4.2.1,()))else bif a3>=0 then Zh3 fuel a1 a0.1 a0.2.1 a0.2.2.1 a0.2.2.2.1 a0.2.2.2.2.1 a0.2.2.2.2.2.1 a0.2.2.2.2.2.2.1 a0.2.2.2.2.2.2.2.1 a0.2.2.2.2.2.2.2.2.1 a0.2.2.2.2.2.2.2.2.2.1 a0.2.2.2.2.2.2.2.2.2.2.1 a0.2.2.2.2.2.2.2.2.2.2.2.1 a0.2.2.2.2.2.2.2.2.2.2.2.2.1 a0.2.2.2.2.2.2.2.2.2.2.2.2.2.1 e1.1 e3.2.1.1 e3.2.1.2.1 e4.1.1 e4.1.2.1 a3 e4.1.2.2.2.1 e4.1.2.2.2.2.1 e4.1.2.2.2.2.2.1 e4.1.2.2.2.2.2.2.1 e4.1.2.2.2.2.2.2.2.1 e4.1.2.2.2.2.2.2.2.2.1 else Zh3 fuel a1 a0.1 a0.2.1 a0.2.2.1 a0.2.2.2.1 a0.2.2.2.2.1 a0.2.2.2.2.2.1 a0.2.2.2.2.2.2.1 a0.2.2.2.2.2.2.2.1 a0.2.2.2.2.2.2.2.2.1 a0.2.2.2.2.2.2.2.2.2.1 a0.2.2.2.2.2.2.2.2.2.2.1 a0.2.2.2.2.2.2.2.2.2.2.2.1 a0.2.2.2.2.2.2.2.2.2.2.2.2.1 a0.2.2.2.2.2.2.2.2.2.2.2.2.2.1 e1.1 e3.2.1.1 e3.2.1.2.1 e4.1.1 e4.1.2.1 e4.1.2.2.1 e4.1.2.2.2.1 e4.1.2.2.2.2.1 e4.1.2.2.2.2.2.1 e4.1.2.2.2.2.2.2.1 e4.1.2.2.2.2.2.2.2.1 e4.1.2.2.2.2.2.2.2.2.1:=mkE
theorem Z1w n x0 x1 x2 x3 x4 x5 x6 x7 x8 x9 x10 x11 x12 x13 x14 x15 x16 x17 x18 x19 x20 x21 x22 x23 x24 x25 x26:Eq (Zh3 (n+1) x0 x1 x2 x3 x4 x5 x6 x7 x8 x9 x10 x11 x12 x13 x14 x15 x16 x17 x18 x19 x20 x21 x22 x23 x24 x25 x26)<|(Zec (x1,x2,x3,x4,x5,x6,x7,x8,x9,x10,x11,x12,x13,x14,())).bind λe0=>ixb e0.1.2.2.2.2.2.2.2.2.2.2.2.2.1 x0 λe1=>ixb e0.1.2.2.2.2.2.2.2.2.2.2.2.2.2.1 x15 λe2=>some (((e0.1.1,e0.1.2.1,e0.1.2.2.1,e0.1.2.2.2.1,e0.1.2.2.2.2.1,e0.1.2.2.2.2.2.1,e0.1.2.2.2.2.2.2.1,e0.1.2.2.2.2.2.2.2.1,e0.1.2.2.2.2.2.2.2.2.1,e0.1.2.2.2.2.2.2.2.2.2.1,e0.1.2.2.2.2.2.2.2.2.2.2.1,e0.1.2.2.2.2.2.2.2.2.2.2.2.1,List.set e0.1.2.2.2.2.2.2.2.2.2.2.2.2.1 x0.toNat (x18,x19,x20,x21,x22,x23,x24,x25,x26,e1.2.2.2.2.2.2.2.2.2),List.set e0.1.2.2.2.2.2.2.2.2.2.2.2.2.2.1 x15.toNat (x16,x17,e2.2.2),()),0,())):=mkI
def tab8:Tb:=[(15,Yhm),(16,Yhr),(17,Yqb),(20,Zyg),(19,Z58),(18,Ypt),(21,Yqc)]
def F8:TFun:=⟨[],[],[.a Tq10,.c di],[.a Ye9,.c (.p di)],qc [qn 4,[.boxN 35 14 Ye8],qi,qn 50],[],[],0⟩
def con8:=mkC tab8 prog 8 F8
theorem ok8:con8.ok prog 8:=mkO ⟨ok15,ok16,ok17,Yhc,Yof,ok18,Y1v,trivial⟩
def Zf1(a0:Ty2)(a1:Int):Option (Ty2×Int×Unit):=con8.fn (a0,a1,())
theorem Zt1 a0 a1:Eq (Zf1 a0 a1)<|(Zjl a0 a1).bind λe0=>bif e0.1 !=0 then some (((0,[],[],false,[],0,0,0,false,0,[],[],[],[],()),e0.1,()))else(Zfs a0 a1).bind λe1=>bif !e1.1 then some (((0,[],[],false,[],0,0,0,false,0,[],[],[],[],()),6,()))else(Zed a0 a1).bind λe2=>bif e2.2.1 then some (e2.1,0,())else ix a0.2.2.2.2.2.2.2.2.2.2.2.2.1 a1 λe3=>(Yo (a0.2.2.2.2.2.2.2.2.2.2.1,a0.2.2.2.2.2.2.2.2.2.2.2.1,()) a1).bind λe4=>(Zcm a0 e4.1).bind λe5=>(Zsu e3 e5.1).bind λe6=>(Zs0 a0 a1 e6.1 e6.2.1.2.2.1).bind λe7=>some (e7.1,e7.2.1,()):=mkE
end
end Tg
namespace Tg
open Go.Abs hiding fuel
open Go.Proofs.Tryz (prog)
open Int (ofNat toNat)
open Go.IntKind (wrap)
noncomputable def tab6:Tb:=[(11,Ymm),(12,Yob)]
def F6:TFun:=⟨[],[],[.a Sq2],[.c (.p db)],qc [qn 2,qb,qn 8],[],[],0⟩
noncomputable def con6:=mkC tab6 prog 5 F6
theorem ok6:con6.ok prog 5:=mkO ⟨ok13,ok14,trivial⟩
noncomputable def Zs1(a0:Sy2):Option (Bool×Unit):=con6.fn (a0,())
theorem Yaz a0:Eq (Zs1 a0)<|(Zlw a0).bind λe0=>bif !e0.1 then(Zmv a0).bind λe1=>some (e1.1==0,())else some (false,()):=mkE
end Tg
namespace Tg
noncomputable section
open Go.Abs hiding fuel
open Go.Proofs.Tryz (prog)
open Int (ofNat toNat)
open Go.IntKind (wrap)
abbrev Zs2:List Go.Abs.SC:=[.p (.int .u8),.p (.sl Sq4),.p (.sl [.int .i64]),.p db,.p (.sl Sq4),.p (.int .u8),.p di,.p di,.p db,.p (.int .u8),.p (.sl [.int .u8,.int .i64]),.p (.sl Sq5),.p (.sl Sq1),.p (.sl Sq3)]
abbrev Zpt:List Go.Abs.SC:=[.p di,.p di,.p di]
def tab4:Tb:=[(4,con5),(5,con6),(6,Yoi),(7,Yua),(8,con8)]
def F4:TFun:=⟨[16,20,24,28,31],[(16,qc [qn 1,[.boxN 35 14 Zs2],qn 1,qb,[.boxN 39 3 Zpt],qn 1,[.c (.p (.sl [.int .i64]))],qn 1,qi,qn 150]),(20,qc [qn 1,[.boxN 35 14 Zs2],qn 1,qb,[.boxN 39 3 Zpt],qn 1,[.c (.p (.sl [.int .i64]))],qn 1,qi,qn 150]),(24,qc [qn 1,[.boxN 35 14 Zs2],qn 1,qb,[.boxN 39 3 Zpt],qn 1,[.c (.p (.sl [.int .i64]))],qn 1,qi,[.boxN 35 14 Zs2],qn 149]),(28,qc [qn 1,[.boxN 35 14 Zs2],qn 1,qb,[.boxN 39 3 Zpt],qn 1,[.c (.p (.sl [.int .i64]))],qn 1,qi,qn 2,[.boxN 39 3 Zpt],qn 147]),(31,qc [qn 1,[.boxN 35 14 Zs2],qn 1,qb,[.boxN 39 3 Zpt],qn 1,[.c (.p (.sl [.int .i64]))],qn 1,qi,qn 2,[.boxN 39 3 Zpt],qn 147])],[.a Sq2],[.c (.p db)],qc [qn 2,qb,qn 156],[],[],0⟩
def con4:=mkC tab4 prog 3 F4
theorem ok4:con4.ok prog 3:=mkO ⟨ok5,ok6,ok10,ok9p,ok8,trivial⟩
def Zg1(a0:Sy2):Option (Bool×Unit):=con4.fn (a0,())
def Yb(n:Nat)(x0:Int)(x1:Sy3)(x2:Sy5)(x3:Bool)(x4:Sy3)(x5 x6 x7:Int)(x8:Bool)(x9:Int)(x10:(List (Int×Int×Unit)))(x11:Sy3)(x12:(List Sy1))(x13:Sy4)(x14:Bool)(x15 x16 x17:Int)(x18:Sy5)(x19:Int):Option (Bool×Unit):=itr tab4 prog 3 F4 n 16 (x0,x1,x2,x3,x4,x5,x6,x7,x8,x9,x10,x11,x12,x13,x14,x15,x16,x17,x18,x19,())
def Zdl(n:Nat)(x0:Int)(x1:Sy3)(x2:Sy5)(x3:Bool)(x4:Sy3)(x5 x6 x7:Int)(x8:Bool)(x9:Int)(x10:(List (Int×Int×Unit)))(x11:Sy3)(x12:(List Sy1))(x13:Sy4)(x14:Bool)(x15 x16 x17:Int)(x18:Sy5)(x19:Int):Option (Bool×Unit):=itr tab4 prog 3 F4 n 20 (x0,x1,x2,x3,x4,x5,x6,x7,x8,x9,x10,x11,x12,x13,x14,x15,x16,x17,x18,x19,())
def Zdm(n:Nat)(x0:Int)(x1:Sy3)(x2:Sy5)(x3:Bool)(x4:Sy3)(x5 x6 x7:Int)(x8:Bool)(x9:Int)(x10:(List (Int×Int×Unit)))(x11:Sy3)(x12:(List Sy1))(x13:Sy4)(x14:Bool)(x15 x16 x17:Int)(x18:Sy5)(x19 x20:Int)(x21:Sy3)(x22:Sy5)(x23:Bool)(x24:Sy3)(x25 x26 x27:Int)(x28:Bool)(x29:Int)(x30:(List (Int×Int×Unit)))(x31:Sy3)(x32:(List Sy1))(x33:Sy4):Option (Bool×Unit):=itr tab4 prog 3 F4 n 24 (x0,x1,x2,x3,x4,x5,x6,x7,x8,x9,x10,x11,x12,x13,x14,x15,x16,x17,x18,x19,x20,x21,x22,x23,x24,x25,x26,x27,x28,x29,x30,x31,x32,x33,())
def Zdn(n:Nat)(x0:Int)(x1:Sy3)(x2:Sy5)(x3:Bool)(x4:Sy3)(x5 x6 x7:Int)(x8:Bool)(x9:Int)(x10:(List (Int×Int×Unit)))(x11:Sy3)(x12:(List Sy1))(x13:Sy4)(x14:Bool)(x15 x16 x17:Int)(x18:Sy5)(x19 x20 x21 x22:Int):Option (Bool×Unit):=itr tab4 prog 3 F4 n 28 (x0,x1,x2,x3,x4,x5,x6,x7,x8,x9,x10,x11,x12,x13,x14,x15,x16,x17,x18,x19,x20,x21,x22,())
def Zdo(n:Nat)(x0:Int)(x1:Sy3)(x2:Sy5)(x3:Bool)(x4:Sy3)(x5 x6 x7:Int)(x8:Bool)(x9:Int)(x10:(List (Int×Int×Unit)))(x11:Sy3)(x12:(List Sy1))(x13:Sy4)(x14:Bool)(x15 x16 x17:Int)(x18:Sy5)(x19 x20 x21 x22:Int):Option (Bool×Unit):=itr tab4 prog 3 F4 n 31 (x0,x1,x2,x3,x4,x5,x6,x7,x8,x9,x10,x11,x12,x13,x14,x15,x16,x17,x18,x19,x20,x21,x22,())
theorem Zng a0:Eq (Zg1 a0)<|(Zs1 a0).bind λe0=>bif !e0.1 then some (true,())else(Zbk a0).bind λe1=>(Zm0 a0).bind λe2=>bif e1.2.1 !=0 then some (false,())else bif e2.2.1 !=0 then some (false,())else Yb fuel a0.1 a0.2.1 a0.2.2.1 a0.2.2.2.1 a0.2.2.2.2.1 a0.2.2.2.2.2.1 a0.2.2.2.2.2.2.1 a0.2.2.2.2.2.2.2.1 a0.2.2.2.2.2.2.2.2.1 a0.2.2.2.2.2.2.2.2.2.1 a0.2.2.2.2.2.2.2.2.2.2.1 a0.2.2.2.2.2.2.2.2.2.2.2.1 a0.2.2.2.2.2.2.2.2.2.2.2.2.1 a0.2.2.2.2.2.2.2.2.2.2.2.2.2.1 true e1.1.1 e1.1.2.1 e1.1.2.2.1 e2.1 0:=mkE
theorem Zdp n x0 x1 x2 x3 x4 x5 x6 x7 x8 x9 x10 x11 x12 x13 x14 x15 x16 x17 x18 x19:Eq (Yb (n+1) x0 x1 x2 x3 x4 x5 x6 x7 x8 x9 x10 x11 x12 x13 x14 x15 x16 x17 x18 x19)<|bif x19<ofNat x18.length then ix x18 x19 λe0=>bif e0.1<0 then some (false,())else ix x18 x19 λe1=>bif e1.1>=ofNat x12.length then some (false,())else Zdl n x0 x1 x2 x3 x4 x5 x6 x7 x8 x9 x10 x11 x12 x13 x14 x15 x16 x17 x18 x19 else some (x14,()):=mkI
theorem Zjv n x0 x1 x2 x3 x4 x5 x6 x7 x8 x9 x10 x11 x12 x13 x14 x15 x16 x17 x18 x19:Eq (Zdl (n+1) x0 x1 x2 x3 x4 x5 x6 x7 x8 x9 x10 x11 x12 x13 x14 x15 x16 x17 x18 x19)<|ix x18 x19 λe0=>(Zf1 (x0,x1,x2,x3,x4,x5,x6,x7,x8,x9,x10,x11,x12,x13,()) e0.1).bind λe1=>bif e1.2.1 !=0 then Yb n x0 x1 x2 x3 x4 x5 x6 x7 x8 x9 x10 x11 x12 x13 x14 x15 x16 x17 x18 (wrap .i64 (x19+1))else Zdm n x0 x1 x2 x3 x4 x5 x6 x7 x8 x9 x10 x11 x12 x13 x14 x15 x16 x17 x18 x19 e1.1.1 e1.1.2.1 e1.1.2.2.1 e1.1.2.2.2.1 e1.1.2.2.2.2.1 e1.1.2.2.2.2.2.1 e1.1.2.2.2.2.2.2.1 e1.1.2.2.2.2.2.2.2.1 e1.1.2.2.2.2.2.2.2.2.1 e1.1.2.2.2.2.2.2.2.2.2.1 e1.1.2.2.2.2.2.2.2.2.2.2.1 e1.1.2.2.2.2.2.2.2.2.2.2.2.1 e1.1.2.2.2.2.2.2.2.2.2.2.2.2.1 e1.1.2.2.2.2.2.2.2.2.2.2.2.2.2.1:=mkI
theorem Zjw n x0 x1 x2 x3 x4 x5 x6 x7 x8 x9 x10 x11 x12 x13 x14 x15 x16 x17 x18 x19 x20 x21 x22 x23 x24 x25 x26 x27 x28 x29 x30 x31 x32 x33:Eq (Zdm (n+1) x0 x1 x2 x3 x4 x5 x6 x7 x8 x9 x10 x11 x12 x13 x14 x15 x16 x17 x18 x19 x20 x21 x22 x23 x24 x25 x26 x27 x28 x29 x30 x31 x32 x33)<|(Zbk (x20,x21,x22,x23,x24,x25,x26,x27,x28,x29,x30,x31,x32,x33,())).bind λe0=>bif e0.2.1 !=0 then some (false,())else Zdn n x0 x1 x2 x3 x4 x5 x6 x7 x8 x9 x10 x11 x12 x13 x14 x15 x16 x17 x18 x19 e0.1.1 e0.1.2.1 e0.1.2.2.1:=mkI
theorem Zjx n x0 x1 x2 x3 x4 x5 x6 x7 x8 x9 x10 x11 x12 x13 x14 x15 x16 x17 x18 x19 x20 x21 x22:Eq (Zdn (n+1) x0 x1 x2 x3 x4 x5 x6 x7 x8 x9 x10 x11 x12 x13 x14 x15 x16 x17 x18 x19 x20 x21 x22)<|ix x18 x19 λe0=>ix x12 e0.1 λe1=>bif ofNat e1.2.2.2.1.length>0 then bif !(x20==x15&&(x21==wrap .i64 (x16-1)&&(x22==wrap .i64 (x17+1)&&true)))then some (false,())else Yb n x0 x1 x2 x3 x4 x5 x6 x7 x8 x9 x10 x11 x12 x13 x14 x15 x16 x17 x18 (wrap .i64 (x19+1))else Zdo n x0 x1 x2 x3 x4 x5 x6 x7 x8 x9 x10 x11 x12 x13 x14 x15 x16 x17 x18 x19 x20 x21 x22:=mkI
theorem Zdq n x0 x1 x2 x3 x4 x5 x6 x7 x8 x9 x10 x11 x12 x13 x14 x15 x16 x17 x18 x19 x20 x21 x22:Eq (Zdo (n+1) x0 x1 x2 x3 x4 x5 x6 x7 x8 x9 x10 x11 x12 x13 x14 x15 x16 x17 x18 x19 x20 x21 x22)<|ix x18 x19 λe0=>ix x12 e0.1 λe1=>let k1:=ix x18 x19 λe2=>ix x12 e2.1 λe3=>let k3:=Yb n x0 x1 x2 x3 x4 x5 x6 x7 x8 x9 x10 x11 x12 x13 x14 x15 x16 x17 x18 (wrap .i64 (x19+1));bif e3.1 !=1 then bif x20 !=x15 then some (false,())else bif x22 !=wrap .i64 (x17-1)then some (false,())else bif x21<x16 then some (false,())else k3 else k3;bif e1.1==1 then bif !(x20==wrap .i64 (x15-1)&&(x21==wrap .i64 (x16+1)&&(x22==x17&&true)))then some (false,())else k1 else k1:=mkI
end
end Tg
