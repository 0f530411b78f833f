import Derived.Test.YtfnhchmemplhaaaGreatProg
import Derived.Test.YtfnhchmemplhaaaGreatBVT
/- Functions of the code, told plainly and checked by the kernel. -/
set_option linter.unusedVariables false
set_option linter.unusedSimpArgs false
set_option maxRecDepth 100000
namespace Tg
open Go.Abs hiding fuel
open Go.Proofs.Tryz (prog)
open Int (ofNat toNat)
open Go.IntKind (wrap)
noncomputable def Yic:Tb:=[]
def F172:TFun:=⟨[],[],[.c (.int .u8)],[.c (.p di)],qc [qn 2,qi,qn 4],[],[],0⟩
noncomputable def Z4j:=mkC Yic prog 172 F172
theorem Ykp:Z4j.ok prog 172:=mkO trivial (by kernel_rfl)
noncomputable def Zko (a0:Int):Option (Int×Unit):=Z4j.fn (a0,())
theorem Zv0 a0:Eq (Zko a0) <| bif a0≤4 then some (0,()) else bif a0≤6 then some (1,()) else some (2,()):=mkE (by kernel_rfl)
noncomputable def Yid:Tb:=[]
def F173:TFun:=⟨[],[],[.a Vq5,.c di,.c di],[.c (.p db)],qc [qn 6,qb,qn 45],[],[],0⟩
noncomputable def Z4k:=mkC Yid prog 173 F173
theorem Ykq:Z4k.ok prog 173:=mkO trivial (by kernel_rfl)
noncomputable def Zkp (a0:Vy2)(a1 a2:Int):Option (Bool×Unit):=Z4k.fn (a0,a1,a2,())
theorem Zv1 a0 a1 a2:Eq (Zkp a0 a1 a2) <| bif a0.1≥1 then bif a0.1≤19 then bif a0.2.1≥0 then let k1:=bif a0.2.2.2.2.1≥0 then bif a0.2.2.2.2.1≤400 then bif a0.2.2.1==a1 then some (a0.2.2.2.1==a2,()) else some (false,()) else some (false,()) else some (false,());bif a0.2.1==0 then k1 else bif a0.1==1 then k1 else some (false,()) else some (false,()) else some (false,()) else some (false,()):=mkE (by kernel_rfl)
noncomputable def Zzv:Tb:=[(172,Z4j),(173,Z4k)]
def F151:TFun:=⟨[11,2],[(2,qc [[.c (.p (.sl Vq5))],qn 4,[.c (.rowN 3 1 Vq12)],[.c (.rowN 3 1 Vq12)],qn 95]),(4,qc [[.c (.p (.sl Vq5))],qn 4,[.c (.rowN 3 1 Vq12)],[.c (.rowN 3 1 Vq12)],qi,qn 94]),(11,qc [[.c (.p (.sl Vq5))],qn 4,[.c (.rowN 3 1 Vq12)],[.c (.rowN 3 1 Vq12)],qi,qi,qi,qi,qi,qn 90])],[.c (.sl Vq5)],[.c (.s 3 1 Vq12),.c (.s 3 1 Vq12),.c (.p db)],qc [qn 2,[.c (.rowN 3 1 Vq12)],[.c (.rowN 3 1 Vq12)],qb,qn 97],[],[],0⟩
noncomputable def Ztu:=mkC Zzv prog 151 F151
theorem Ykr:Ztu.ok prog 151:=mkO ⟨Ykp,Ykq,trivial⟩ (by kernel_rfl)
noncomputable def Z61:TCon:=⟨Ztu.args,[.c (.p (.sl Vq12)),.c (.p (.sl Vq12)),.c (.p db)],Ztu.fn⟩
theorem Yie:Z61.ok prog 151:=TCon.frz (c:=Ztu) Ykr rfl
noncomputable def Zge (a0:(List Vy2)):Option Vy13:=Ztu.fn (a0,())
noncomputable def Zkq (n:Nat)(x0:(List Vy2))(x1 x2:Vy9):Option Vy13:=itr Zzv prog 151 F151 n 2 (x0,x1,x2,())
noncomputable def Zt (n:Nat)(x0:(List Vy2))(x1 x2:Vy9)(x3:Int):Option Vy13:=itr Zzv prog 151 F151 n 4 (x0,x1,x2,x3,())
noncomputable def Qc (n:Nat)(x0:(List Vy2))(x1 x2:Vy9)(x3 x4 x5 x6 x7:Int):Option Vy13:=itr Zzv prog 151 F151 n 11 (x0,x1,x2,x3,x4,x5,x6,x7,())
theorem Zv2 a0:Eq (Zge a0) <| Zt fuel a0 ([]) ([]) 0:=mkE (by kernel_rfl)
theorem Ztv n x0 x1 x2:Eq (Zkq (n+1) x0 x1 x2) <| bif ofNat x0.length>0 then bif 0≤wrap .i64 (ofNat x0.length - 1) then bif toNat (wrap .i64 (ofNat x0.length - 1))<x1.length then match x1[toNat (wrap .i64 (ofNat x0.length - 1))]? with | none=>none | some e0=>some (x1,x2,e0.1==ofNat x0.length,()) else none else none else some (x1,x2,false,()):=mkI (by kernel_rfl)
theorem Q9 n x0 x1 x2 x3:Eq (Zt (n+1) x0 x1 x2 x3) <| bif x3<ofNat x0.length then bif 0≤x3 then match x0[x3.toNat]? with | none=>none | some e0=>match Zko e0.1 with | none=>none | some e1=>bif e1.1>0 then bif wrap .i64 (x3 - 1)<0 then some ([],[],false,()) else bif 0≤wrap .i64 (x3 - 1) then bif toNat (wrap .i64 (x3 - 1))<x1.length then match x1[toNat (wrap .i64 (x3 - 1))]? with | none=>none | some e2=>bif 0≤wrap .i64 (x3 - 1) then bif toNat (wrap .i64 (x3 - 1))<x1.length then match x1[toNat (wrap .i64 (x3 - 1))]? with | none=>none | some e3=>bif 0≤wrap .i64 (x3 - 1) then bif toNat (wrap .i64 (x3 - 1))<x2.length then match x2[toNat (wrap .i64 (x3 - 1))]? with | none=>none | some e4=>bif e1.1==2 then bif wrap .i64 (wrap .i64 (x3 - 1) - e2.1)<0 then some ([],[],false,()) else bif 0≤wrap .i64 (wrap .i64 (x3 - 1) - e2.1) then bif toNat (wrap .i64 (wrap .i64 (x3 - 1) - e2.1))<x1.length then match x1[toNat (wrap .i64 (wrap .i64 (x3 - 1) - e2.1))]? with | none=>none | some e5=>bif 0≤wrap .i64 (wrap .i64 (x3 - 1) - e2.1) then bif toNat (wrap .i64 (wrap .i64 (x3 - 1) - e2.1))<x2.length then match x2[toNat (wrap .i64 (wrap .i64 (x3 - 1) - e2.1))]? with | none=>none | some e6=>Qc n x0 x1 x2 x3 (wrap .i64 (wrap .i64 (x3 - 1) - e2.1)) (wrap .i64 (x3 - 1)) (wrap .i64 (wrap .i64 (1+e3.1)+e5.1)) (tmm true (wrap .i64 (1+e4.1)) (wrap .i64 (1+e6.1))) else none else none else none else none else Qc n x0 x1 x2 x3 (wrap .i64 (x3 - 1)) 0 (wrap .i64 (1+e3.1)) (wrap .i64 (1+e4.1)) else none else none else none else none else none else none else Qc n x0 x1 x2 x3 0 0 1 1 else none else Zkq n x0 x1 x2:=mkI (by kernel_rfl)
theorem Zre n x0 x1 x2 x3 x4 x5 x6 x7:Eq (Qc (n+1) x0 x1 x2 x3 x4 x5 x6 x7) <| bif 0≤x3 then match x0[x3.toNat]? with | none=>none | some e0=>match Zkp e0 x4 x5 with | none=>none | some e1=>bif !e1.1 then some ([],[],false,()) else bif Zg (x1.length+List.length [(x6,())]) 8 then bif Zg (x2.length+List.length [(x7,())]) 8 then Zt n x0 (x1++[(x6,())]) (x2++[(x7,())]) (wrap .i64 (x3+1)) else none else none else none:=mkI (by kernel_rfl)
noncomputable def Yif:Tb:=[(151,Z61)]
def F124:TFun:=⟨[],[],[.c (.sl Vq5)],[.c (.p di)],qc [qn 2,qi,qn 21],[],[],0⟩
noncomputable def Zzw:=mkC Yif prog 124 F124
theorem Ygv:Zzw.ok prog 124:=mkO ⟨Yie,trivial⟩ (by kernel_rfl)
noncomputable def Xj (a0:(List Vy2)):Option (Int×Unit):=Zzw.fn (a0,())
theorem Zv3 a0:Eq (Xj a0) <| bif ofNat a0.length>60 then some (4,()) else match Zge a0 with | none=>none | some e0=>bif !e0.2.2.1 then some (8,()) else bif 0≤wrap .i64 (ofNat a0.length - 1) then match e0.2.1[toNat (wrap .i64 (ofNat a0.length - 1))]? with | none=>none | some e1=>bif e1.1>20 then some (34,()) else some (0,()) else none:=mkE (by kernel_rfl)
noncomputable def Ztw:Tb:=[]
def F125:TFun:=⟨[7],[(7,qc [[.c (.p (.sl Vq12))],qn 59]),(9,qc [[.c (.p (.sl Vq12))],qn 4,qi,qn 54]),(17,qc [[.c (.p (.sl Vq12))],qn 5,qi,qn 53]),(22,qc [[.c (.p (.sl Vq12))],qn 5,qi,qi,qn 52])],[.c (.sl Vq12),.c db],[.c (.p di)],qc [qn 4,qi,qn 55],[],[],0⟩
noncomputable def Z4l:=mkC Ztw prog 125 F125
theorem Yks:Z4l.ok prog 125:=mkO trivial (by kernel_rfl)
noncomputable def Xk (a0:Vy9)(a1:Bool):Option (Int×Unit):=Z4l.fn (a0,a1,())
noncomputable def Zhe (n:Nat)(x0:Vy9):Option (Int×Unit):=itr Ztw prog 125 F125 n 7 (x0,())
noncomputable def Xr (n:Nat)(x0:Vy9)(x1:Int):Option (Int×Unit):=itr Ztw prog 125 F125 n 9 (x0,x1,())
noncomputable def Yz (n:Nat)(x0:Vy9)(x1:Int):Option (Int×Unit):=itr Ztw prog 125 F125 n 17 (x0,x1,())
noncomputable def Qj (n:Nat)(x0:Vy9)(x1 x2:Int):Option (Int×Unit):=itr Ztw prog 125 F125 n 22 (x0,x1,x2,())
theorem Zrf a0 a1:Eq (Xk a0 a1) <| bif ofNat a0.length>4 then some (4,()) else bif ofNat a0.length==0 then some (8,()) else bif a1 then bif ofNat a0.length !=2 then some (8,()) else Xr fuel a0 0 else Xr fuel a0 0:=mkE (by kernel_rfl)
theorem Zpy n x0:Eq (Zhe (n+1) x0) <| Yz n x0 0:=mkI (by kernel_rfl)
theorem Zhf n x0 x1:Eq (Xr (n+1) x0 x1) <| bif x1<ofNat x0.length then bif 0≤x1 then match x0[x1.toNat]? with | none=>none | some e0=>bif e0.1<0 then some (8,()) else bif 0≤x1 then match x0[x1.toNat]? with | none=>none | some e1=>bif e1.1>3 then some (8,()) else Xr n x0 (wrap .i64 (x1+1)) else none else none else Zhe n x0:=mkI (by kernel_rfl)
theorem Zgf n x0 x1:Eq (Yz (n+1) x0 x1) <| bif x1<ofNat x0.length then Qj n x0 x1 0 else some (0,()):=mkI (by kernel_rfl)
theorem Zgg n x0 x1 x2:Eq (Qj (n+1) x0 x1 x2) <| bif x2<x1 then bif 0≤x2 then match x0[x2.toNat]? with | none=>none | some e0=>bif 0≤x1 then match x0[x1.toNat]? with | none=>none | some e1=>bif e0.1==e1.1 then some (43,()) else Qj n x0 x1 (wrap .i64 (x2+1)) else none else none else Yz n x0 (wrap .i64 (x1+1)):=mkI (by kernel_rfl)
noncomputable def Yig:Tb:=[]
def F126:TFun:=⟨[],[],[.a [.int .u8,.int .i64,.int .i64]],[.c (.p db)],qc [qn 2,qb,qn 42],[],[],0⟩
noncomputable def Z4m:=mkC Yig prog 126 F126
theorem Ykt:Z4m.ok prog 126:=mkO trivial (by kernel_rfl)
noncomputable def Zfu (a0:(Int×Int×Int×Unit)):Option (Bool×Unit):=Z4m.fn (a0,())
theorem Zzx a0:Eq (Zfu a0) <| let k1:=some (false,());bif a0.2.1<1 then k1 else bif a0.2.1>1073741824 then k1 else bif a0.1==2 then bif a0.2.2.1≥1 then bif a0.2.2.1≤a0.2.1 then some ((decide (a0.2.1≤wrap .i64 (16*a0.2.2.1)),())) else k1 else k1 else bif a0.1==1 then some (a0.2.2.1==0,()) else bif a0.1==3 then some (a0.2.2.1==0,()) else k1:=mkE (by kernel_rfl)
noncomputable def Yku:Tb:=[(124,Zzw),(125,Z4l),(126,Z4m)]
def F94:TFun:=⟨[],[],[.a Vq11],[.c (.p di)],qc [qn 2,qi,qn 77],[],[],0⟩
noncomputable def Ya7:=mkC Yku prog 94 F94
theorem ok94:Ya7.ok prog 94:=mkO ⟨Ygv,Yks,Ykt,trivial⟩ (by kernel_rfl)
noncomputable def Zgh (a0:Vy10):Option (Int×Unit):=Ya7.fn (a0,())
theorem Zv4 a0:Eq (Zgh a0) <| bif a0.1<1 then some (8,()) else bif a0.1>4 then some (8,()) else bif a0.2.2.2.2.2.2.2.2.2.1<1 then some (8,()) else bif a0.2.2.2.2.2.2.2.2.2.1>2 then some (8,()) else let k1:Option (Int×Unit):=let k4:Option (Int×Unit):=match Xk a0.2.2.1 a0.2.2.2.1 with | none=>none | some e1=>bif e1.1 !=0 then match Xk a0.2.2.1 a0.2.2.2.1 with | none=>none | some e2=>some (e2.1,()) else match Zfu (a0.2.2.2.2.2.1,a0.2.2.2.2.2.2.1,a0.2.2.2.2.2.2.2.1,()) with | none=>none | some e2=>bif !e2.1 then some (8,()) else bif a0.2.2.2.1 then bif a0.2.2.2.2.2.1 !=1 then some (8,()) else some (0,()) else some (0,());let k5:Option (Int×Unit):=bif a0.2.2.2.1 then bif a0.2.2.2.2.2.1 !=1 then some (8,()) else some (0,()) else some (0,());bif a0.1 !=1 then match Xj a0.2.1 with | none=>none | some e0=>bif e0.1 !=0 then match Xj a0.2.1 with | none=>none | some e1=>some (e1.1,()) else bif ofNat a0.2.2.2.2.1.length>0 then match Xj a0.2.2.2.2.1 with | none=>none | some e1=>bif e1.1 !=0 then match Xj a0.2.2.2.2.1 with | none=>none | some e2=>some (e2.1,()) else match Xk a0.2.2.1 a0.2.2.2.1 with | none=>none | some e2=>bif e2.1 !=0 then match Xk a0.2.2.1 a0.2.2.2.1 with | none=>none | some e3=>some (e3.1,()) else match Zfu (a0.2.2.2.2.2.1,a0.2.2.2.2.2.2.1,a0.2.2.2.2.2.2.2.1,()) with | none=>none | some e3=>bif !e3.1 then some (8,()) else k5 else k4 else bif ofNat a0.2.2.2.2.1.length>0 then match Xj a0.2.2.2.2.1 with | none=>none | some e0=>bif e0.1 !=0 then match Xj a0.2.2.2.2.1 with | none=>none | some e1=>some (e1.1,()) else k4 else match Xk a0.2.2.1 a0.2.2.2.1 with | none=>none | some e0=>bif e0.1 !=0 then match Xk a0.2.2.1 a0.2.2.2.1 with | none=>none | some e1=>some (e1.1,()) else match Zfu (a0.2.2.2.2.2.1,a0.2.2.2.2.2.2.1,a0.2.2.2.2.2.2.2.1,()) with | none=>none | some e1=>bif !e1.1 then some (8,()) else k5;bif a0.1==1 then bif ofNat a0.2.1.length>0 then some (8,()) else k1 else k1:=mkE (by kernel_rfl)
noncomputable def Yih:Tb:=[]
def F175:TFun:=⟨[],[],[.c (.int .u8)],[.c (.p db)],qc [qn 2,qb,qn 6],[],[],0⟩
noncomputable def Zzy:=mkC Yih prog 175 F175
theorem Ygw:Zzy.ok prog 175:=mkO trivial (by kernel_rfl)
noncomputable def Zeg (a0:Int):Option (Bool×Unit):=Zzy.fn (a0,())
theorem Zv5 a0:Eq (Zeg a0) <| bif a0==6 then some (true,()) else some (decide (a0≥12),()):=mkE (by kernel_rfl)
noncomputable def Yii:Tb:=[(175,Zzy)]
def F180:TFun:=⟨[],[],[.c (.sl Vq5),.c di],[.c (.p db)],qc [qn 4,qb,qn 62],[],[],0⟩
noncomputable def Z4n:=mkC Yii prog 180 F180
theorem Ykv:Z4n.ok prog 180:=mkO ⟨Ygw,trivial⟩ (by kernel_rfl)
noncomputable def Znr (a0:(List Vy2))(a1:Int):Option (Bool×Unit):=Z4n.fn (a0,a1,())
theorem Zzz a0 a1:Eq (Znr a0 a1) <| bif 0≤a1 then match a0[a1.toNat]? with | none=>none | some e0=>bif 0≤e0.2.2.1 then match a0[e0.2.2.1.toNat]? with | none=>none | some e1=>match Zeg e1.1 with | none=>none | some e2=>bif 0≤e0.2.2.2.1 then match a0[e0.2.2.2.1.toNat]? with | none=>none | some e3=>match Zeg e3.1 with | none=>none | some e4=>bif e0.1≤4 then some (true,()) else bif e0.1==5 then some (!e2.1,()) else bif e0.1==6 then some (e2.1,()) else bif e0.1==16 then some (e2.1==e4.1,()) else bif e0.1==17 then some (e2.1==e4.1,()) else bif e0.1≥18 then bif e2.1 then some (e4.1,()) else some (false,()) else bif !e2.1 then some (!e4.1,()) else some (false,()) else none else none else none:=mkE (by kernel_rfl)
noncomputable def Ya8:Tb:=[(180,Z4n)]
def F174:TFun:=⟨[],[(3,qc [[.c (.p (.sl Vq5))],qn 2,qi,qn 13])],[.c (.sl Vq5)],[.c (.p di)],qc [qn 2,qi,qn 14],[],[],0⟩
noncomputable def Z4o:=mkC Ya8 prog 174 F174
theorem Ykw:Z4o.ok prog 174:=mkO ⟨Ykv,trivial⟩ (by kernel_rfl)
noncomputable def Zkr (a0:(List Vy2)):Option (Int×Unit):=Z4o.fn (a0,())
noncomputable def Zcz (n:Nat)(x0:(List Vy2))(x1:Int):Option (Int×Unit):=itr Ya8 prog 174 F174 n 3 (x0,x1,())
theorem Zv6 a0:Eq (Zkr a0) <| Zcz fuel a0 0:=mkE (by kernel_rfl)
theorem Zks n x0 x1:Eq (Zcz (n+1) x0 x1) <| bif x1<ofNat x0.length then match Znr x0 x1 with | none=>none | some e0=>bif !e0.1 then some (x1,()) else Zcz n x0 (wrap .i64 (x1+1)) else some (ofNat x0.length,()):=mkI (by kernel_rfl)
noncomputable def Yij:Tb:=[(124,Zzw),(174,Z4o),(175,Zzy)]
def F152:TFun:=⟨[],[],[.c (.sl Vq5)],[.c (.p db),.c (.p di),.c (.p di)],qc [qn 2,qb,qi,qi,qn 24],[],[],0⟩
noncomputable def Z4p:=mkC Yij prog 152 F152
theorem Ykx:Z4p.ok prog 152:=mkO ⟨Ygv,Ykw,Ygw,trivial⟩ (by kernel_rfl)
noncomputable def Ztx (a0:(List Vy2)):Option (Bool×Int×Int×Unit):=Z4p.fn (a0,())
theorem Z4q a0:Eq (Ztx a0) <| match Xj a0 with | none=>none | some e0=>bif e0.1 !=0 then match Xj a0 with | none=>none | some e1=>some (false,0,e1.1,()) else match Zkr a0 with | none=>none | some e1=>bif e1.1<ofNat a0.length then some (false,e1.1,42,()) else bif 0≤wrap .i64 (ofNat a0.length - 1) then match a0[toNat (wrap .i64 (ofNat a0.length - 1))]? with | none=>none | some e2=>match Zeg e2.1 with | none=>none | some e3=>some (e3.1,wrap .i64 (ofNat a0.length - 1),0,()) else none:=mkE (by kernel_rfl)
noncomputable def Yik:Tb:=[(152,Z4p)]
def F127:TFun:=⟨[],[],[.c (.sl Vq5),.c db],[.c (.p di),.c (.p di)],qc [qn 4,qi,qi,qn 19],[],[],0⟩
noncomputable def Z4r:=mkC Yik prog 127 F127
theorem Yky:Z4r.ok prog 127:=mkO ⟨Ykx,trivial⟩ (by kernel_rfl)
noncomputable def Zh6 (a0:(List Vy2))(a1:Bool):Option Vy11:=Z4r.fn (a0,a1,())
theorem Zz0 a0 a1:Eq (Zh6 a0 a1) <| match Ztx a0 with | none=>none | some e0=>bif e0.2.2.1==0 then bif !e0.1==a1 then some (e0.2.1,42,()) else some e0.2 else some e0.2:=mkE (by kernel_rfl)
noncomputable def Ygx:Tb:=[(127,Z4r)]
def F95:TFun:=⟨[1],[(1,qc [qn 1,[.boxN 27 10 [.any,.any,.any,.any,.p (.sl Vq5),.any,.any,.any,.any,.any]],qn 44])],[.a Vq11],[.c (.p di),.c (.p di)],qc [qn 2,qi,qi,qn 42],[],[],0⟩
noncomputable def Ya9:=mkC Ygx prog 95 F95
theorem ok95:Ya9.ok prog 95:=mkO ⟨Yky,trivial⟩ (by kernel_rfl)
noncomputable def Zq0 (a0:Vy10):Option Vy11:=Ya9.fn (a0,())
noncomputable def Za9 (n:Nat)(x0:(List Vy2)):Option Vy11:=itr Ygx prog 95 F95 n 1 (x0,())
theorem Zv7 a0:Eq (Zq0 a0) <| bif ofNat a0.2.1.length>0 then match Zh6 a0.2.1 false with | none=>none | some e0=>bif e0.2.1 !=0 then bif 0≤e0.1 then match a0.2.1[e0.1.toNat]? with | none=>none | some e1=>some (e1.2.2.2.2.1,e0.2.1,()) else none else Za9 fuel a0.2.2.2.2.1 else Za9 fuel a0.2.2.2.2.1:=mkE (by kernel_rfl)
theorem Zty n x0:Eq (Za9 (n+1) x0) <| bif ofNat x0.length>0 then match Zh6 x0 true with | none=>none | some e0=>bif e0.2.1 !=0 then bif 0≤e0.1 then match x0[e0.1.toNat]? with | none=>none | some e1=>some (e1.2.2.2.2.1,e0.2.1,()) else none else some (0,0,()) else some (0,0,()):=mkI (by kernel_rfl)
noncomputable def Ykz:Tb:=[(94,Ya7),(95,Ya9)]
def F64:TFun:=⟨[],[],[.a Vq11],[.c (.p di),.c (.p di)],qc [qn 2,qi,qi,qn 9],[],[],0⟩
noncomputable def Yba:=mkC Ykz prog 64 F64
theorem ok64:Yba.ok prog 64:=mkO ⟨ok94,ok95,trivial⟩ (by kernel_rfl)
noncomputable def Zkt (a0:Vy10):Option Vy11:=Yba.fn (a0,())
theorem Zv8 a0:Eq (Zkt a0) <| match Zgh a0 with | none=>none | some e0=>bif e0.1 !=0 then match Zgh a0 with | none=>none | some e1=>some (0,e1.1,()) else match Zq0 a0 with | none=>none | some e1=>some e1:=mkE (by kernel_rfl)
noncomputable def Yk0:Tb:=[(64,Yba)]
def F43:TFun:=⟨[],[],[.a Vq11],[.c (.p db)],qc [qn 2,qb,qn 9],[],[],0⟩
noncomputable def Ybb:=mkC Yk0 prog 43 F43
theorem ok43:Ybb.ok prog 43:=mkO ⟨ok64,trivial⟩ (by kernel_rfl)
noncomputable def Zc0 (a0:Vy10):Option (Bool×Unit):=Ybb.fn (a0,())
theorem Zpz a0:Eq (Zc0 a0) <| match Zkt a0 with | none=>none | some e0=>some (e0.2.1==0,()):=mkE (by kernel_rfl)
end Tg
