import Derived.Test.YtmkhomfchbmkfaaGreatDoorVVT
/- Functions of the code, told plainly and checked by the kernel. -/
set_option linter.unusedVariables false
set_option linter.unusedSimpArgs false
set_option maxRecDepth 100000
namespace Tg
noncomputable section
open Go.Abs hiding fuel
open Go.Proofs.Tryz (prog)
open Int (ofNat toNat)
open Go.IntKind (wrap)
def Yr8:Tb:=[]
def F146:TFun:=⟨[],[],[.c di,.c di,.c di],[.c (.p db)],qc [qn 6,qb,qn 8],[],[],0⟩
def Yav:=mkC Yr8 prog 146 F146
theorem Yuu:Yav.ok prog 146:=mkO trivial
def Zad (a0 a1 a2:Int):Option (Bool×Unit):=Yav.fn (a0,a1,a2,())
theorem Ztn a0 a1 a2:Eq (Zad a0 a1 a2) <| bif a0>=a1 then some (decide (a0<=a2),()) else some (false,()):=mkE
def Yr9:Tb:=[(146,Yav)]
def F114:TFun:=⟨[],[],[.c (.int .u8),.c di,.c di],[.c (.p db)],qc [qn 6,qb,qn 59],[],[],0⟩
def Yaw:=mkC Yr9 prog 114 F114
theorem Yuv:Yaw.ok prog 114:=mkO ⟨Yuu,trivial⟩
def Zpn (a0 a1 a2:Int):Option (Bool×Unit):=Yaw.fn (a0,a1,a2,())
theorem Z34 a0 a1 a2:Eq (Zpn a0 a1 a2) <| let k1:=some (false,());bif a0==1 then bif a1==0 then some (a2==1,()) else k1 else bif a0==2 then bif a1==1 then match Zad a2 1 2 with | none=>none | some e0=>some (e0.1,()) else k1 else bif a0==3 then bif a1==1 then match Zad a2 1 3 with | none=>none | some e0=>some (e0.1,()) else k1 else bif a0==4 then match Zad a1 1 4 with | none=>none | some e0=>bif e0.1 then some (a2==1,()) else k1 else bif a0==5 then bif a1==2 then some (a2==1,()) else k1 else bif a0==6 then match Zad a1 1 3 with | none=>none | some e0=>bif e0.1 then some (a2==0,()) else k1 else bif a0==7 then match Zad a1 1 4 with | none=>none | some e0=>bif e0.1 then some (a2==0,()) else k1 else k1:=mkE
def Yi8:Tb:=[]
def F111:TFun:=⟨[],[(4,qc [qn 1,qi,[.boxN 34 2 [.any,.p (.sl Vq2)]],qn 2,[.boxN 89 5 [.p di,.p di,.p di,.p di,.any]],qi,qn 49])],[.a [.sl Vq10,.sl Vq2],.c di],[.c (.p db)],qc [qn 4,qb,qn 51],[],[],0⟩
def Yax:=mkC Yi8 prog 111 F111
theorem Yuw:Yax.ok prog 111:=mkO trivial
def Zmh (a0:Vy11)(a1:Int):Option (Bool×Unit):=Yax.fn (a0,a1,())
def Zdp (n:Nat)(x0:Int)(x1:(List Vy2))(x2 x3 x4 x5 x6:Int):Option (Bool×Unit):=itr Yi8 prog 111 F111 n 4 (x0,x1,x2,x3,x4,x5,x6,())
theorem Zy7 a0 a1:Eq (Zmh a0 a1) <| bif 0<=a1 then match a0.2.1[a1.toNat]? with | none=>none | some e0=>Zdp fuel a1 a0.2.1 e0.1 e0.2.1 e0.2.2.1 e0.2.2.2.1 0 else none:=mkE
theorem Zmi n x0 x1 x2 x3 x4 x5 x6:Eq (Zdp (n+1) x0 x1 x2 x3 x4 x5 x6) <| bif x6<x0 then bif 0<=x6 then match x1[x6.toNat]? with | none=>none | some e0=>bif e0.1>x2 then some (false,()) else let k1:=let k3:=Zdp n x0 x1 x2 x3 x4 x5 (wrap .i64 (x6+1));bif e0.2.2.1==x4 then bif e0.2.2.2.1==x5 then some (false,()) else k3 else k3;bif e0.1==x2 then bif e0.2.1>=x3 then some (false,()) else k1 else k1 else none else some (true,()):=mkI
def Yi9:Tb:=[]
def F112:TFun:=⟨[],[(4,qc [qn 1,qi,[.boxN 34 2 [.any,.p (.sl Vq2)]],qn 2,qi,qi,qn 18])],[.a [.sl Vq10,.sl Vq2],.c di],[.c (.p di)],qc [qn 4,qi,qn 20],[],[],0⟩
def Yay:=mkC Yi9 prog 112 F112
theorem Yux:Yay.ok prog 112:=mkO trivial
def Zex (a0:Vy11)(a1:Int):Option (Int×Unit):=Yay.fn (a0,a1,())
def Zav (n:Nat)(x0:Int)(x1:(List Vy2))(x2 x3:Int):Option (Int×Unit):=itr Yi9 prog 112 F112 n 4 (x0,x1,x2,x3,())
theorem Zto a0 a1:Eq (Zex a0 a1) <| Zav fuel a1 a0.2.1 0 0:=mkE
theorem Zis n x0 x1 x2 x3:Eq (Zav (n+1) x0 x1 x2 x3) <| bif x3<ofNat x1.length then bif 0<=x3 then match x1[x3.toNat]? with | none=>none | some e0=>bif e0.1==x0 then Zav n x0 x1 (wrap .i64 (x2+1)) (wrap .i64 (x3+1)) else Zav n x0 x1 x2 (wrap .i64 (x3+1)) else none else some (x2,()):=mkI
def Yja:Tb:=[]
def F113:TFun:=⟨[],[(4,qc [qn 1,qi,[.boxN 34 2 [.any,.p (.sl Vq2)]],qn 2,qi,qi,qn 18])],[.a [.sl Vq10,.sl Vq2],.c di],[.c (.p di)],qc [qn 4,qi,qn 20],[],[],0⟩
def Yaz:=mkC Yja prog 113 F113
theorem Yuy:Yaz.ok prog 113:=mkO trivial
def Zfz (a0:Vy11)(a1:Int):Option (Int×Unit):=Yaz.fn (a0,a1,())
def Za4 (n:Nat)(x0:Int)(x1:(List Vy2))(x2 x3:Int):Option (Int×Unit):=itr Yja prog 113 F113 n 4 (x0,x1,x2,x3,())
theorem Zwo a0 a1:Eq (Zfz a0 a1) <| Za4 fuel a1 a0.2.1 0 0:=mkE
theorem Zke n x0 x1 x2 x3:Eq (Za4 (n+1) x0 x1 x2 x3) <| bif x3<ofNat x1.length then bif 0<=x3 then match x1[x3.toNat]? with | none=>none | some e0=>bif e0.2.2.1==x0 then Za4 n x0 x1 (wrap .i64 (x2+1)) (wrap .i64 (x3+1)) else Za4 n x0 x1 x2 (wrap .i64 (x3+1)) else none else some (x2,()):=mkI
def Ya0:Tb:=[]
def F115:TFun:=⟨[],[(4,qc [qn 1,qi,[.boxN 34 2 [.p (.sl Vq10),.p (.sl Vq2)]],qn 2,[.c (.rowN 4 1 [.bool])],qi,qn 41]),(9,qc [qn 1,qi,[.boxN 34 2 [.p (.sl Vq10),.p (.sl Vq2)]],qn 2,[.c (.rowN 4 1 [.bool])],qi,qi,qn 40])],[.a [.sl Vq10,.sl Vq2],.c di],[.c (.s 4 1 [.bool])],qc [qn 4,[.c (.rowN 4 1 [.bool])],qn 43],[],[],0⟩
def Zwp:=mkC Ya0 prog 115 F115
theorem Yuz:Zwp.ok prog 115:=mkO trivial
def Yd0:TCon:=⟨Zwp.args,[.c (.p (.sl [.bool]))],Zwp.fn⟩
theorem Ysa:Yd0.ok prog 115:=TCon.frz (c:=Zwp) Yuz rfl
def Zia (a0:Vy11)(a1:Int):Option (List (Bool×Unit)×Unit):=Zwp.fn (a0,a1,())
def Zaw (n:Nat)(x0:Int)(x1:(List Vy9))(x2:(List Vy2))(x3:(List (Bool×Unit)))(x4:Int):Option (List (Bool×Unit)×Unit):=itr Ya0 prog 115 F115 n 4 (x0,x1,x2,x3,x4,())
def Qh (n:Nat)(x0:Int)(x1:(List Vy9))(x2:(List Vy2))(x3:(List (Bool×Unit)))(x4 x5:Int):Option (List (Bool×Unit)×Unit):=itr Ya0 prog 115 F115 n 9 (x0,x1,x2,x3,x4,x5,())
theorem Ztp a0 a1:Eq (Zia a0 a1) <| bif decide (toNat (ofNat a0.1.length)<=toNat (ofNat a0.1.length))&&(decide (1*toNat (ofNat a0.1.length)<=281474976710656)&&decide (toNat (ofNat a0.1.length)<=9223372036854775807)) then Zaw fuel a1 a0.1 a0.2.1 (List.replicate (toNat (ofNat a0.1.length)) (false,())) 0 else none:=mkE
theorem Zit n x0 x1 x2 x3 x4:Eq (Zaw (n+1) x0 x1 x2 x3 x4) <| bif x4<=ofNat x1.length then Qh n x0 x1 x2 x3 x4 0 else some (x3,()):=mkI
theorem Ziu n x0 x1 x2 x3 x4 x5:Eq (Qh (n+1) x0 x1 x2 x3 x4 x5) <| bif x5<ofNat x2.length then bif 0<=x5 then match x2[x5.toNat]? with | none=>none | some e0=>bif e0.1==x0 then bif 0<=e0.2.2.1 then bif e0.2.2.1.toNat<x3.length then match x3[e0.2.2.1.toNat]? with | none=>none | some e1=>Qh n x0 x1 x2 (List.set x3 e0.2.2.1.toNat (true,e1.2)) x4 (wrap .i64 (x5+1)) else none else none else bif 0<=e0.1 then bif e0.1.toNat<x3.length then match x3[e0.1.toNat]? with | none=>none | some e1=>bif e1.1 then bif 0<=e0.2.2.1 then bif e0.2.2.1.toNat<x3.length then match x3[e0.2.2.1.toNat]? with | none=>none | some e2=>Qh n x0 x1 x2 (List.set x3 e0.2.2.1.toNat (true,e2.2)) x4 (wrap .i64 (x5+1)) else none else none else Qh n x0 x1 x2 x3 x4 (wrap .i64 (x5+1)) else none else none else none else Zaw n x0 x1 x2 x3 (wrap .i64 (x4+1)):=mkI
def Z1z:Tb:=[(111,Yax),(112,Yay),(113,Yaz),(114,Yaw),(115,Yd0)]
def F79:TFun:=⟨[1,10],[(1,qc [qn 1,[.boxN 34 2 [.p (.sl Vq10),.p (.sl Vq2)]],qn 137]),(3,qc [qn 1,[.boxN 34 2 [.p (.sl Vq10),.p (.sl Vq2)]],qn 1,qi,qn 135]),(10,qc [qn 1,[.boxN 34 2 [.p (.sl Vq10),.p (.sl Vq2)]],qn 137]),(12,qc [qn 1,[.boxN 34 2 [.p (.sl Vq10),.p (.sl Vq2)]],qn 3,qi,qn 133]),(21,qc [qn 1,[.boxN 34 2 [.p (.sl Vq10),.p (.sl Vq2)]],qn 5,qi,qn 131])],[.a [.sl Vq10,.sl Vq2]],[.c (.p db)],qc [qn 2,qb,qn 136],[],[],0⟩
def Yjb:=mkC Z1z prog 79 F79
theorem ok79:Yjb.ok prog 79:=mkO ⟨Yuw,Yux,Yuy,Yuv,Ysa,trivial⟩
def Zmj (a0:Vy11):Option (Bool×Unit):=Yjb.fn (a0,())
def Zmk (n:Nat)(x0:(List Vy9))(x1:(List Vy2)):Option (Bool×Unit):=itr Z1z prog 79 F79 n 1 (x0,x1,())
def Zdq (n:Nat)(x0:(List Vy9))(x1:(List Vy2))(x2:Int):Option (Bool×Unit):=itr Z1z prog 79 F79 n 3 (x0,x1,x2,())
def Zkf (n:Nat)(x0:(List Vy9))(x1:(List Vy2)):Option (Bool×Unit):=itr Z1z prog 79 F79 n 10 (x0,x1,())
def Zci (n:Nat)(x0:(List Vy9))(x1:(List Vy2))(x2:Int):Option (Bool×Unit):=itr Z1z prog 79 F79 n 12 (x0,x1,x2,())
def Zcj (n:Nat)(x0:(List Vy9))(x1:(List Vy2))(x2:Int):Option (Bool×Unit):=itr Z1z prog 79 F79 n 21 (x0,x1,x2,())
theorem Zy8 a0:Eq (Zmj a0) <| Zdq fuel a0.1 a0.2.1 0:=mkE
theorem Zwq n x0 x1:Eq (Zmk (n+1) x0 x1) <| Zci n x0 x1 0:=mkI
theorem Zml n x0 x1 x2:Eq (Zdq (n+1) x0 x1 x2) <| bif x2<ofNat x1.length then bif 0<=x2 then match x1[x2.toNat]? with | none=>none | some e0=>let k1:=some (false,());bif e0.1<0 then k1 else bif e0.2.2.1<0 then k1 else bif e0.1>=ofNat x0.length then k1 else bif e0.2.2.1>=ofNat x0.length then k1 else bif e0.2.2.2.2.1<1 then k1 else bif e0.2.2.2.2.1>8 then k1 else Zdq n x0 x1 (wrap .i64 (x2+1)) else none else Zmk n x0 x1:=mkI
theorem Ztq n x0 x1:Eq (Zkf (n+1) x0 x1) <| Zcj n x0 x1 0:=mkI
theorem Zkg n x0 x1 x2:Eq (Zci (n+1) x0 x1 x2) <| bif x2<ofNat x1.length then bif 0<=x2 then match x1[x2.toNat]? with | none=>none | some e0=>match Zmh (x0,x1,()) x2 with | none=>none | some e1=>let k1:=some (false,());bif !e1.1 then k1 else bif e0.2.1<0 then k1 else match Zex (x0,x1,()) e0.1 with | none=>none | some e2=>bif e0.2.1>=e2.1 then k1 else bif e0.2.2.2.1<0 then k1 else match Zfz (x0,x1,()) e0.2.2.1 with | none=>none | some e3=>bif e0.2.2.2.1>=e3.1 then k1 else Zci n x0 x1 (wrap .i64 (x2+1)) else none else Zkf n x0 x1:=mkI
theorem Zkh n x0 x1 x2:Eq (Zcj (n+1) x0 x1 x2) <| bif x2<ofNat x0.length then bif 0<=x2 then match x0[x2.toNat]? with | none=>none | some e0=>let k1:=some (false,());bif e0.2.1<0 then k1 else bif e0.2.1>3 then k1 else match Zfz (x0,x1,()) x2 with | none=>none | some e1=>match Zex (x0,x1,()) x2 with | none=>none | some e2=>match Zpn e0.1 e1.1 e2.1 with | none=>none | some e3=>bif !e3.1 then k1 else match Zia (x0,x1,()) x2 with | none=>none | some e4=>bif 0<=x2 then match e4.1[x2.toNat]? with | none=>none | some e5=>bif e5.1 then k1 else Zcj n x0 x1 (wrap .i64 (x2+1)) else none else none else some (true,()):=mkI
def Yu0:Tb:=[(79,Yjb)]
def F50:TFun:=⟨[],[],[.a [.sl Vq10,.sl Vq2]],[.c (.p di)],qc [qn 2,qi,qn 13],[],[],0⟩
def Yjc:=mkC Yu0 prog 50 F50
theorem ok50:Yjc.ok prog 50:=mkO ⟨ok79,trivial⟩
def Zhu (a0:Vy11):Option (Int×Unit):=Yjc.fn (a0,())
theorem Zy9 a0:Eq (Zhu a0) <| bif ofNat a0.1.length>20 then some (4,()) else bif ofNat a0.2.1.length>100 then some (4,()) else match Zmj a0 with | none=>none | some e0=>bif !e0.1 then some (8,()) else some (0,()):=mkE
def Ysb:Tb:=[]
def F116:TFun:=⟨[],[],[.a Vq6],[.c (.p db)],qc [qn 2,qb,qn 8],[],[],0⟩
def Zwr:=mkC Ysb prog 116 F116
theorem Yjd:Zwr.ok prog 116:=mkO trivial
def Zc3 (a0:(Int×Int×Int×Unit)):Option (Bool×Unit):=Zwr.fn (a0,())
theorem Zza a0:Eq (Zc3 a0) <| bif a0.2.1>=(-1099511627776) then some (decide (a0.2.1<=1099511627776),()) else some (false,()):=mkE
def Ysc:Tb:=[]
def F117:TFun:=⟨[],[],[.c di],[.c (.p db)],qc [qn 2,qb,qn 10],[],[],0⟩
def Zws:=mkC Ysc prog 117 F117
theorem Yje:Zws.ok prog 117:=mkO trivial
def Zg4 (a0:Int):Option (Bool×Unit):=Zws.fn (a0,())
theorem Z35 a0:Eq (Zg4 a0) <| let k1:=some (a0==9223372036854775807,());bif a0>=(-1099511627776) then bif a0<=1099511627776 then some (true,()) else k1 else k1:=mkE
def Ysd:Tb:=[]
def F118:TFun:=⟨[],[],[.a Vq2],[.c (.p db)],qc [qn 2,qb,qn 19],[],[],0⟩
def Z36:=mkC Ysd prog 118 F118
theorem Ypr:Z36.ok prog 118:=mkO trivial
def Zoa (a0:Vy2):Option (Bool×Unit):=Z36.fn (a0,())
theorem Z7j a0:Eq (Zoa a0) <| bif a0.2.1<a0.2.2.1 then bif a0.2.1>=(-2199023255552) then some (decide (a0.2.2.1<=2199023255552),()) else some (false,()) else some (false,()):=mkE
def Yps:Tb:=[(116,Zwr),(117,Zws),(118,Z36)]
def F80:TFun:=⟨[3],[(3,qc [qn 1,[.boxN 143 10 [.p (.int .u8),.p di,.p di,.p di,.p di,.p di,.p di,.p di,.p di,.p di]],qn 2,[.c (.p (.int .u8))],qb,qn 42])],[.a Vq7],[.c (.p db)],qc [qn 2,qb,qn 45],[],[],0⟩
def Yd1:=mkC Yps prog 80 F80
theorem ok80:Yd1.ok prog 80:=mkO ⟨Yjd,Yje,Ypr,trivial⟩
def Zhv (a0:Vy4):Option (Bool×Unit):=Yd1.fn (a0,())
def Zg5 (n:Nat)(x0 x1 x2 x3 x4 x5 x6 x7 x8 x9 x10:Int)(x11:Bool):Option (Bool×Unit):=itr Yps prog 80 F80 n 3 (x0,x1,x2,x3,x4,x5,x6,x7,x8,x9,x10,x11,())
theorem Zzb a0:Eq (Zhv a0) <| bif a0.1==1 then Zg5 fuel a0.1 a0.2.1 a0.2.2.1 a0.2.2.2.1 a0.2.2.2.2.1 a0.2.2.2.2.2.1 a0.2.2.2.2.2.2.1 a0.2.2.2.2.2.2.2.1 a0.2.2.2.2.2.2.2.2.1 a0.2.2.2.2.2.2.2.2.2.1 a0.1 true else Zg5 fuel a0.1 a0.2.1 a0.2.2.1 a0.2.2.2.1 a0.2.2.2.2.1 a0.2.2.2.2.2.1 a0.2.2.2.2.2.2.1 a0.2.2.2.2.2.2.2.1 a0.2.2.2.2.2.2.2.2.1 a0.2.2.2.2.2.2.2.2.2.1 a0.1 (a0.1==4):=mkE
theorem Zwt n x0 x1 x2 x3 x4 x5 x6 x7 x8 x9 x10 x11:Eq (Zg5 (n+1) x0 x1 x2 x3 x4 x5 x6 x7 x8 x9 x10 x11) <| let k1:=some (false,());bif x11 then (Zc3 (x1,x2,x3,())).bind fun e0=>bif e0.1 then some ((x0==x0&&(x1==x1&&(x2==x2&&(x3==x3&&(x4==0&&(x5==0&&(x6==0&&(x7==0&&(x8==0&&(x9==0&&true))))))))),())) else k1 else bif x10==2 then (Zg4 x4).bind fun e0=>bif e0.1 then some ((x0==x0&&(x1==0&&(x2==0&&(x3==0&&(x4==x4&&(x5==0&&(x6==0&&(x7==0&&(x8==0&&(x9==0&&true))))))))),())) else k1 else bif x10==3 then (Zoa (x5,x6,x7,x8,x9,())).bind fun e0=>bif e0.1 then some ((x0==x0&&(x1==0&&(x2==0&&(x3==0&&(x4==0&&(x5==x5&&(x6==x6&&(x7==x7&&(x8==x8&&(x9==x9&&true))))))))),())) else k1 else k1:=mkI
def Ypt:Tb:=[(80,Yd1)]
def F51:TFun:=⟨[],[(6,qc [qn 1,[.boxN 59 2 [.any,.p (.sl Vq7)]],qn 1,qi,qn 30])],[.a [.int .i64,.sl Vq7]],[.c (.p di)],qc [qn 2,qi,qn 31],[],[],0⟩
def Yjf:=mkC Ypt prog 51 F51
theorem ok51:Yjf.ok prog 51:=mkO ⟨ok80,trivial⟩
def Zmm (a0:(Int×List Vy4×Unit)):Option (Int×Unit):=Yjf.fn (a0,())
def Zdr (n:Nat)(x0:(List Vy4))(x1:Int):Option (Int×Unit):=itr Ypt prog 51 F51 n 6 (x0,x1,())
theorem Zzc a0:Eq (Zmm a0) <| bif a0.1<1 then some (8,()) else bif a0.1>8 then some (8,()) else bif ofNat a0.2.1.length>a0.1 then some (8,()) else Zdr fuel a0.2.1 0:=mkE
theorem Zmn n x0 x1:Eq (Zdr (n+1) x0 x1) <| bif x1<ofNat x0.length then ix x0 x1 fun e0=>(Zhv e0).bind fun e1=>bif !e1.1 then some (8,()) else Zdr n x0 (wrap .i64 (x1+1)) else some (0,()):=mkI
def Yjg:Tb:=[]
def F149:TFun:=⟨[2],[(2,qc [qn 1,[.boxN 177 4 [.p di,.p di,.p di,.p di]],qn 1,qb,qn 49])],[.a [.int .i64,.int .i64,.int .i64,.int .i64]],[.c (.p di)],qc [qn 2,qi,qn 50],[],[],0⟩
def Ya1:=mkC Yjg prog 149 F149
theorem Yu1:Ya1.ok prog 149:=mkO trivial
def Qc (a0:(Int×Int×Int×Int×Unit)):Option (Int×Unit):=Ya1.fn (a0,())
def Zg6 (n:Nat)(x0 x1 x2 x3:Int)(x4:Bool):Option (Int×Unit):=itr Yjg prog 149 F149 n 2 (x0,x1,x2,x3,x4,())
theorem Zzd a0:Eq (Qc a0) <| bif a0.1<0 then Zg6 fuel a0.1 a0.2.1 a0.2.2.1 a0.2.2.2.1 true else Zg6 fuel a0.1 a0.2.1 a0.2.2.1 a0.2.2.2.1 (decide (a0.1>1073741824)):=mkE
theorem Zwu n x0 x1 x2 x3 x4:Eq (Zg6 (n+1) x0 x1 x2 x3 x4) <| bif x4 then some (8,()) else let k1:Option (Int×Unit):=let k3:Option (Int×Unit):=bif x2>x3 then some (8,()) else some (0,());bif x0==1 then bif x1 !=x2 then some (8,()) else bif x2 !=x3 then some (8,()) else k3 else k3;bif x0==0 then bif x1 !=0 then some (8,()) else bif x2 !=0 then some (8,()) else bif x3 !=0 then some (8,()) else k1 else k1:=mkI
def Yse:Tb:=[]
def F150:TFun:=⟨[],[],[.a Vq1,.a Vq1],[.c (.p db)],qc [qn 4,qb,qn 33],[],[],0⟩
def Ya2:=mkC Yse prog 150 F150
theorem Yu2:Ya2.ok prog 150:=mkO trivial
def Zg7 (a0 a1:Vy1):Option (Bool×Unit):=Ya2.fn (a0,a1,())
theorem Z37 a0 a1:Eq (Zg7 a0 a1) <| bif a0.2.2.1 !=a1.2.2.1 then some (decide (a0.2.2.1<a1.2.2.1),()) else bif a0.2.1 !=a1.2.1 then some (decide (a0.2.1<a1.2.1),()) else some (decide (a0.1<a1.1),()):=mkE
def Yjh:Tb:=[(149,Ya1),(150,Ya2)]
def F122:TFun:=⟨[],[(6,qc [[.c (.p (.sl Vq1))],qn 2,qi,qn 81])],[.c (.sl Vq1)],[.c (.p di)],qc [qn 2,qi,qn 82],[],[],0⟩
def Ya3:=mkC Yjh prog 122 F122
theorem Yu3:Ya3.ok prog 122:=mkO ⟨Yu1,Yu2,trivial⟩
def Zmo (a0:(List Vy1)):Option (Int×Unit):=Ya3.fn (a0,())
def Yx (n:Nat)(x0:(List Vy1))(x1:Int):Option (Int×Unit):=itr Yjh prog 122 F122 n 6 (x0,x1,())
theorem Zze a0:Eq (Zmo a0) <| bif ofNat a0.length>4000 then some (4,()) else Yx fuel a0 0:=mkE
theorem Zmp n x0 x1:Eq (Yx (n+1) x0 x1) <| bif x1<ofNat x0.length then ix x0 x1 fun e0=>bif e0.2.1>=(-1100585369600) then bif e0.2.1<e0.2.2.1 then (Qc (e0.2.2.2.1,e0.2.2.2.2.1,e0.2.2.2.2.2.1,e0.2.2.2.2.2.2.1,())).bind fun e1=>bif e1.1==0 then (Qc e0.2.2.2.2.2.2.2).bind fun e2=>bif !decide (e0.2.2.1<=1100585369600) then some (8,()) else bif !e2.1==0 then some (8,()) else let k1:Option (Int×Unit):=let k3:=Yx n x0 (wrap .i64 (x1+1));bif x1>0 then ix x0 (wrap .i64 (x1 - 1)) fun e3=>(Zg7 e3 e0).bind fun e4=>bif !e4.1 then some (8,()) else k3 else k3;bif e0.2.2.2.1==0 then bif e0.2.2.2.2.2.2.2.1==0 then some (8,()) else k1 else k1 else bif !decide (e0.2.2.1<=1100585369600) then some (8,()) else some (8,()) else (Qc (e0.2.2.2.1,e0.2.2.2.2.1,e0.2.2.2.2.2.1,e0.2.2.2.2.2.2.1,())).bind fun e1=>bif e1.1==0 then (Qc e0.2.2.2.2.2.2.2).bind fun e2=>some (8,()) else some (8,()) else (Qc (e0.2.2.2.1,e0.2.2.2.2.1,e0.2.2.2.2.2.1,e0.2.2.2.2.2.2.1,())).bind fun e1=>bif e1.1==0 then (Qc e0.2.2.2.2.2.2.2).bind fun e2=>some (8,()) else some (8,()) else some (0,()):=mkI
def Ysf:Tb:=[(117,Zws)]
def F147:TFun:=⟨[],[],[.c di],[.c (.p db)],qc [qn 2,qb,qn 6],[],[],0⟩
def Ya4:=mkC Ysf prog 147 F147
theorem Yu4:Ya4.ok prog 147:=mkO ⟨Yje,trivial⟩
def Zmq (a0:Int):Option (Bool×Unit):=Ya4.fn (a0,())
theorem Zzf a0:Eq (Zmq a0) <| bif a0==(-9223372036854775808) then some (true,()) else (Zg4 a0).bind fun e0=>some (e0.1,()):=mkE
def Ysg:Tb:=[(117,Zws),(116,Zwr)]
def F148:TFun:=⟨[],[],[.a Vq5],[.c (.p di)],qc [qn 2,qi,qn 28],[],[],0⟩
def Ya5:=mkC Ysg prog 148 F148
theorem Yu5:Ya5.ok prog 148:=mkO ⟨Yje,Yjd,trivial⟩
def Zmr (a0:Vy5):Option (Int×Unit):=Ya5.fn (a0,())
theorem Zzg a0:Eq (Zmr a0) <| bif a0.1 then (Zg4 a0.2.1).bind fun e0=>let k1:Option (Int×Unit):=bif !a0.1 then bif a0.2.1==0 then (Zc3 a0.2.2).bind fun e1=>bif e1.1 then some (0,()) else some (8,()) else some (8,()) else some (8,());bif e0.1 then bif a0.2.2.1==0&&(a0.2.2.2.1==0&&(a0.2.2.2.2.1==0&&true)) then some (0,()) else k1 else k1 else bif !a0.1 then bif a0.2.1==0 then (Zc3 a0.2.2).bind fun e0=>bif e0.1 then some (0,()) else some (8,()) else some (8,()) else some (8,()):=mkE
def Zms:Tb:=[(147,Ya4),(148,Ya5),(118,Z36),(116,Zwr)]
def F121:TFun:=⟨[1,10,19],[(1,qc [qn 1,[.boxN 69 9 [.any,.any,.any,.any,.any,.any,.p (.sl Vq5),.p (.sl Vq2),.p (.sl Vq6)]],qn 61]),(3,qc [qn 1,[.boxN 69 9 [.any,.any,.any,.any,.p (.sl Vq11),.any,.p (.sl Vq5),.p (.sl Vq2),.p (.sl Vq6)]],qn 1,qi,qn 59]),(10,qc [qn 1,[.boxN 69 9 [.any,.any,.any,.any,.any,.any,.any,.p (.sl Vq2),.p (.sl Vq6)]],qn 61]),(12,qc [qn 1,[.boxN 69 9 [.any,.any,.any,.any,.any,.any,.p (.sl Vq5),.p (.sl Vq2),.p (.sl Vq6)]],qn 2,qi,qn 58]),(19,qc [qn 1,[.boxN 69 9 [.any,.any,.any,.any,.any,.any,.any,.any,.p (.sl Vq6)]],qn 61]),(21,qc [qn 1,[.boxN 69 9 [.any,.any,.any,.any,.any,.any,.any,.p (.sl Vq2),.p (.sl Vq6)]],qn 3,qi,qn 57]),(30,qc [qn 1,[.boxN 69 9 [.any,.any,.any,.any,.any,.any,.any,.any,.p (.sl Vq6)]],qn 4,qi,qn 56])],[.a Vq9],[.c (.p db)],qc [qn 2,qb,qn 60],[],[],0⟩
def Ya6:=mkC Zms prog 121 F121
theorem Yu6:Ya6.ok prog 121:=mkO ⟨Yu4,Yu5,Ypr,Yjd,trivial⟩
def Zmt (a0:Vy3):Option (Bool×Unit):=Ya6.fn (a0,())
def Zmu (n:Nat)(x0:(List Vy5))(x1:(List Vy2))(x2:Vy6):Option (Bool×Unit):=itr Zms prog 121 F121 n 1 (x0,x1,x2,())
def Zbs (n:Nat)(x0:Vy8)(x1:(List Vy5))(x2:(List Vy2))(x3:Vy6)(x4:Int):Option (Bool×Unit):=itr Zms prog 121 F121 n 3 (x0,x1,x2,x3,x4,())
def Zki (n:Nat)(x0:(List Vy2))(x1:Vy6):Option (Bool×Unit):=itr Zms prog 121 F121 n 10 (x0,x1,())
def Za5 (n:Nat)(x0:(List Vy5))(x1:(List Vy2))(x2:Vy6)(x3:Int):Option (Bool×Unit):=itr Zms prog 121 F121 n 12 (x0,x1,x2,x3,())
def Zkj (n:Nat)(x0:Vy6):Option (Bool×Unit):=itr Zms prog 121 F121 n 19 (x0,())
def Za6 (n:Nat)(x0:(List Vy2))(x1:Vy6)(x2:Int):Option (Bool×Unit):=itr Zms prog 121 F121 n 21 (x0,x1,x2,())
def Za7 (n:Nat)(x0:Vy6)(x1:Int):Option (Bool×Unit):=itr Zms prog 121 F121 n 30 (x0,x1,())
theorem Zzh a0:Eq (Zmt a0) <| Zbs fuel a0.2.2.2.2.1 a0.2.2.2.2.2.2.1 a0.2.2.2.2.2.2.2.1 a0.2.2.2.2.2.2.2.2.1 0:=mkE
theorem Zwv n x0 x1 x2:Eq (Zmu (n+1) x0 x1 x2) <| Za5 n x0 x1 x2 0:=mkI
theorem Zmv n x0 x1 x2 x3 x4:Eq (Zbs (n+1) x0 x1 x2 x3 x4) <| bif x4<ofNat x0.length then ix x0 x4 fun e0=>(Zmq e0.1).bind fun e1=>bif !e1.1 then some (false,()) else Zbs n x0 x1 x2 x3 (wrap .i64 (x4+1)) else Zmu n x1 x2 x3:=mkI
theorem Ztr n x0 x1:Eq (Zki (n+1) x0 x1) <| Za6 n x0 x1 0:=mkI
theorem Zkk n x0 x1 x2 x3:Eq (Za5 (n+1) x0 x1 x2 x3) <| bif x3<ofNat x0.length then ix x0 x3 fun e0=>(Zmr e0).bind fun e1=>bif e1.1 !=0 then some (false,()) else Za5 n x0 x1 x2 (wrap .i64 (x3+1)) else Zki n x1 x2:=mkI
theorem Zts n x0:Eq (Zkj (n+1) x0) <| Za7 n x0 0:=mkI
theorem Zkl n x0 x1 x2:Eq (Za6 (n+1) x0 x1 x2) <| bif x2<ofNat x0.length then ix x0 x2 fun e0=>(Zoa e0).bind fun e1=>bif !e1.1 then some (false,()) else Za6 n x0 x1 (wrap .i64 (x2+1)) else Zkj n x1:=mkI
theorem Zkm n x0 x1:Eq (Za7 (n+1) x0 x1) <| bif x1<ofNat x0.length then ix x0 x1 fun e0=>(Zc3 e0).bind fun e1=>bif !e1.1 then some (false,()) else Za7 n x0 (wrap .i64 (x1+1)) else some (true,()):=mkI
def Yji:Tb:=[(80,Yd1)]
def F120:TFun:=⟨[],[(3,qc [[.c (.p (.sl Vq3))],qn 2,qi,qn 29])],[.c (.sl Vq3)],[.c (.p db)],qc [qn 2,qb,qn 30],[],[],0⟩
def Ya7:=mkC Yji prog 120 F120
theorem Yu7:Ya7.ok prog 120:=mkO ⟨ok80,trivial⟩
def Zmw (a0:(List Vy1)):Option (Bool×Unit):=Ya7.fn (a0,())
def Zds (n:Nat)(x0:(List Vy1))(x1:Int):Option (Bool×Unit):=itr Yji prog 120 F120 n 3 (x0,x1,())
theorem Zzi a0:Eq (Zmw a0) <| Zds fuel a0 0:=mkE
theorem Zmx n x0 x1:Eq (Zds (n+1) x0 x1) <| bif x1<ofNat x0.length then ix x0 x1 fun e0=>bif e0.1<0 then some (false,()) else ix x0 x1 fun e1=>bif e1.1>=3 then some (false,()) else ix x0 x1 fun e2=>(Zhv e2.2).bind fun e3=>bif !e3.1 then some (false,()) else Zds n x0 (wrap .i64 (x1+1)) else some (true,()):=mkI
def Yjj:Tb:=[]
def F119:TFun:=⟨[2],[(2,qc [qn 1,[.boxN 69 9 [.any,.any,.any,.any,.p (.sl Vq11),.p (.sl Vq1),.p (.sl Vq5),.p (.sl Vq2),.p (.sl Vq6)]],qn 1,qi,qi,qi,qi,qi,qn 61])],[.a Vq9],[.c (.p db)],qc [qn 2,qb,qn 66],[],[],0⟩
def Ya8:=mkC Yjj prog 119 F119
theorem Yu8:Ya8.ok prog 119:=mkO trivial
def Zpo (a0:Vy3):Option (Bool×Unit):=Ya8.fn (a0,())
def Qd (n:Nat)(x0:Vy8)(x1:(List Vy1))(x2:(List Vy5))(x3:(List Vy2))(x4:Vy6)(x5 x6 x7 x8 x9:Int):Option (Bool×Unit):=itr Yjj prog 119 F119 n 2 (x0,x1,x2,x3,x4,x5,x6,x7,x8,x9,())
theorem Z38 a0:Eq (Zpo a0) <| bif a0.1==1 then Qd fuel a0.2.2.2.2.1 a0.2.2.2.2.2.1 a0.2.2.2.2.2.2.1 a0.2.2.2.2.2.2.2.1 a0.2.2.2.2.2.2.2.2.1 0 0 60 0 0 else bif a0.1==2 then Qd fuel a0.2.2.2.2.1 a0.2.2.2.2.2.1 a0.2.2.2.2.2.2.1 a0.2.2.2.2.2.2.2.1 a0.2.2.2.2.2.2.2.2.1 1 0 0 0 0 else bif a0.1==3 then Qd fuel a0.2.2.2.2.1 a0.2.2.2.2.2.1 a0.2.2.2.2.2.2.1 a0.2.2.2.2.2.2.2.1 a0.2.2.2.2.2.2.2.2.1 0 0 0 0 0 else bif a0.1==4 then Qd fuel a0.2.2.2.2.1 a0.2.2.2.2.2.1 a0.2.2.2.2.2.2.1 a0.2.2.2.2.2.2.2.1 a0.2.2.2.2.2.2.2.2.1 (tmm false 4 (tmm true 1 (ofNat a0.2.2.2.2.1.length))) (ofNat a0.2.2.2.2.2.1.length) 0 0 0 else bif a0.1==5 then Qd fuel a0.2.2.2.2.1 a0.2.2.2.2.2.1 a0.2.2.2.2.2.2.1 a0.2.2.2.2.2.2.2.1 a0.2.2.2.2.2.2.2.2.1 2 (ofNat a0.2.2.2.2.2.1.length) 0 0 0 else bif a0.1==6 then Qd fuel a0.2.2.2.2.1 a0.2.2.2.2.2.1 a0.2.2.2.2.2.2.1 a0.2.2.2.2.2.2.2.1 a0.2.2.2.2.2.2.2.2.1 0 0 0 4000 0 else bif a0.1==7 then Qd fuel a0.2.2.2.2.1 a0.2.2.2.2.2.1 a0.2.2.2.2.2.2.1 a0.2.2.2.2.2.2.2.1 a0.2.2.2.2.2.2.2.2.1 0 0 0 0 4000 else some (false,()):=mkE
theorem Zzj n x0 x1 x2 x3 x4 x5 x6 x7 x8 x9:Eq (Qd (n+1) x0 x1 x2 x3 x4 x5 x6 x7 x8 x9) <| let k1:=some (false,());bif ofNat x0.length==x5 then bif ofNat x1.length<=x6 then bif ofNat x2.length<=x7 then bif ofNat x3.length<=x8 then some (decide (ofNat x4.length<=x9),()) else k1 else k1 else k1 else k1:=mkI
def Ypu:Tb:=[(119,Ya8),(120,Ya7),(121,Ya6),(122,Ya3)]
def F81:TFun:=⟨[],[(13,qc [qn 1,[.boxN 69 9 [.p (.int .u8),.any,.any,.any,.any,.p (.sl Vq1),.any,.any,.any]],qn 1,qi,qn 68])],[.a Vq9],[.c (.p di)],qc [qn 2,qi,qn 69],[],[],0⟩
def Yjk:=mkC Ypu prog 81 F81
theorem ok81:Yjk.ok prog 81:=mkO ⟨Yu8,Yu7,Yu6,Yu3,trivial⟩
def Zhw (a0:Vy3):Option (Int×Unit):=Yjk.fn (a0,())
def Zck (n:Nat)(x0:Int)(x1:(List Vy1))(x2:Int):Option (Int×Unit):=itr Ypu prog 81 F81 n 13 (x0,x1,x2,())
theorem Zzk a0:Eq (Zhw a0) <| let k1:Option (Int×Unit):=some (8,());bif a0.2.2.1<0 then k1 else bif a0.2.2.1>=20 then k1 else bif ofNat a0.2.2.2.1.length>4000 then k1 else bif a0.2.1<0 then k1 else bif a0.2.1>=4 then k1 else (Zpo a0).bind fun e0=>bif !e0.1 then k1 else (Zmw a0.2.2.2.1).bind fun e1=>bif !e1.1 then k1 else (Zmt a0).bind fun e2=>bif !e2.1 then k1 else (Zmo a0.2.2.2.2.2.1).bind fun e3=>bif e3.1 !=0 then k1 else Zck fuel a0.1 a0.2.2.2.2.2.1 0:=mkE
theorem Zkn n x0 x1 x2:Eq (Zck (n+1) x0 x1 x2) <| bif x2<ofNat x1.length then let k1:=Zck n x0 x1 (wrap .i64 (x2+1));bif x0==4 then ix x1 x2 fun e0=>bif e0.2.2.2.2.2.2.2.1 !=0 then some (8,()) else k1 else k1 else some (0,()):=mkI
end
end Tg
