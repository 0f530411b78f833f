import Derived.Test.YtdcgemfchohffaaGreatDoorMVT
/- Functions of the code, told plainly and checked by the kernel. -/
set_option linter.unusedVariables false
set_option linter.unusedSimpArgs false
set_option maxRecDepth 100000
namespace Tg
noncomputable section
open Go.Abs hiding fuel
open Go.Proofs.Tryz (prog)
open Int (ofNat toNat)
open Go.IntKind (wrap)
def Yj9:Tb:=[]
def F113:TFun:=⟨[],[],[.c di,.c di,.c di],[.c (.p db)],qc [qn 6,qb,qn 8],[],[],0⟩
def Z5o:=mkC Yj9 prog 113 F113
theorem Ymc:Z5o.ok prog 113:=mkO trivial
def Qt (a0 a1 a2:Int):Option (Bool×Unit):=Z5o.fn (a0,a1,a2,())
theorem Zq3 a0 a1 a2:Eq (Qt a0 a1 a2) <| bif a0≥a1 then some (decide (a0≤a2),()) else some (false,()):=mkE
def Ymd:Tb:=[(113,Z5o)]
def F70:TFun:=⟨[],[],[.c (.int .u8),.c di,.c di],[.c (.p db)],qc [qn 6,qb,qn 59],[],[],0⟩
def Ycy:=mkC Ymd prog 70 F70
theorem ok70:Ycy.ok prog 70:=mkO ⟨Ymc,trivial⟩
def Zm9 (a0 a1 a2:Int):Option (Bool×Unit):=Ycy.fn (a0,a1,a2,())
theorem Z0f a0 a1 a2:Eq (Zm9 a0 a1 a2) <| let k1:=some (false,());bif a0==1 then bif a1==0 then some (a2==1,()) else k1 else bif a0==2 then bif a1==1 then match Qt a2 1 2 with | none=>none | some e0=>some (e0.1,()) else k1 else bif a0==3 then bif a1==1 then match Qt a2 1 3 with | none=>none | some e0=>some (e0.1,()) else k1 else bif a0==4 then match Qt a1 1 4 with | none=>none | some e0=>bif e0.1 then some (a2==1,()) else k1 else bif a0==5 then bif a1==2 then some (a2==1,()) else k1 else bif a0==6 then match Qt a1 1 3 with | none=>none | some e0=>bif e0.1 then some (a2==0,()) else k1 else bif a0==7 then match Qt a1 1 4 with | none=>none | some e0=>bif e0.1 then some (a2==0,()) else k1 else k1:=mkE
def Yib:Tb:=[]
def F67:TFun:=⟨[],[(4,qc [qn 1,qi,[.boxN 31 2 [.any,.p (.sl Vq3)]],qn 2,[.boxN 42 5 [.p di,.p di,.p di,.p di,.any]],qi,qn 49])],[.a [.sl Vq11,.sl Vq3],.c di],[.c (.p db)],qc [qn 4,qb,qn 51],[],[],0⟩
def Ycz:=mkC Yib prog 67 F67
theorem ok67:Ycz.ok prog 67:=mkO trivial
def Zkg (a0:(List Vy9×List Vy2×Unit))(a1:Int):Option (Bool×Unit):=Ycz.fn (a0,a1,())
def Zcq (n:Nat)(x0:Int)(x1:(List Vy2))(x2 x3 x4 x5 x6:Int):Option (Bool×Unit):=itr Yib prog 67 F67 n 4 (x0,x1,x2,x3,x4,x5,x6,())
theorem Zv6 a0 a1:Eq (Zkg a0 a1) <| bif 0≤a1 then match a0.2.1[a1.toNat]? with | none=>none | some e0=>Zcq fuel a1 a0.2.1 e0.1 e0.2.1 e0.2.2.1 e0.2.2.2.1 0 else none:=mkE
theorem Zkh n x0 x1 x2 x3 x4 x5 x6:Eq (Zcq (n+1) x0 x1 x2 x3 x4 x5 x6) <| bif x6<x0 then bif 0≤x6 then match x1[x6.toNat]? with | none=>none | some e0=>bif e0.1>x2 then some (false,()) else let k1:=let k3:=Zcq n x0 x1 x2 x3 x4 x5 (wrap .i64 (x6+1));bif e0.2.2.1==x4 then bif e0.2.2.2.1==x5 then some (false,()) else k3 else k3;bif e0.1==x2 then bif e0.2.1≥x3 then some (false,()) else k1 else k1 else none else some (true,()):=mkI
def Yic:Tb:=[]
def F68:TFun:=⟨[],[(4,qc [qn 1,qi,[.boxN 31 2 [.any,.p (.sl Vq3)]],qn 2,qi,qi,qn 18])],[.a [.sl Vq11,.sl Vq3],.c di],[.c (.p di)],qc [qn 4,qi,qn 20],[],[],0⟩
def Yc0:=mkC Yic prog 68 F68
theorem ok68:Yc0.ok prog 68:=mkO trivial
def Zdo (a0:(List Vy9×List Vy2×Unit))(a1:Int):Option (Int×Unit):=Yc0.fn (a0,a1,())
def Q9 (n:Nat)(x0:Int)(x1:(List Vy2))(x2 x3:Int):Option (Int×Unit):=itr Yic prog 68 F68 n 4 (x0,x1,x2,x3,())
theorem Zq4 a0 a1:Eq (Zdo a0 a1) <| Q9 fuel a1 a0.2.1 0 0:=mkE
theorem Zg0 n x0 x1 x2 x3:Eq (Q9 (n+1) x0 x1 x2 x3) <| bif x3<ofNat x1.length then bif 0≤x3 then match x1[x3.toNat]? with | none=>none | some e0=>bif e0.1==x0 then Q9 n x0 x1 (wrap .i64 (x2+1)) (wrap .i64 (x3+1)) else Q9 n x0 x1 x2 (wrap .i64 (x3+1)) else none else some (x2,()):=mkI
def Yid:Tb:=[]
def F69:TFun:=⟨[],[(4,qc [qn 1,qi,[.boxN 31 2 [.any,.p (.sl Vq3)]],qn 2,qi,qi,qn 18])],[.a [.sl Vq11,.sl Vq3],.c di],[.c (.p di)],qc [qn 4,qi,qn 20],[],[],0⟩
def Yc1:=mkC Yid prog 69 F69
theorem ok69:Yc1.ok prog 69:=mkO trivial
def Zem (a0:(List Vy9×List Vy2×Unit))(a1:Int):Option (Int×Unit):=Yc1.fn (a0,a1,())
def Zal (n:Nat)(x0:Int)(x1:(List Vy2))(x2 x3:Int):Option (Int×Unit):=itr Yid prog 69 F69 n 4 (x0,x1,x2,x3,())
theorem Zt7 a0 a1:Eq (Zem a0 a1) <| Zal fuel a1 a0.2.1 0 0:=mkE
theorem Zh5 n x0 x1 x2 x3:Eq (Zal (n+1) x0 x1 x2 x3) <| bif x3<ofNat x1.length then bif 0≤x3 then match x1[x3.toNat]? with | none=>none | some e0=>bif e0.2.2.1==x0 then Zal n x0 x1 (wrap .i64 (x2+1)) (wrap .i64 (x3+1)) else Zal n x0 x1 x2 (wrap .i64 (x3+1)) else none else some (x2,()):=mkI
def Yc2:Tb:=[]
def F71:TFun:=⟨[],[(4,qc [qn 1,qi,[.boxN 31 2 [.p (.sl Vq11),.p (.sl Vq3)]],qn 2,[.c (.rowN 4 1 [.bool])],qi,qn 41]),(9,qc [qn 1,qi,[.boxN 31 2 [.p (.sl Vq11),.p (.sl Vq3)]],qn 2,[.c (.rowN 4 1 [.bool])],qi,qi,qn 40])],[.a [.sl Vq11,.sl Vq3],.c di],[.c (.s 4 1 [.bool])],qc [qn 4,[.c (.rowN 4 1 [.bool])],qn 43],[],[],0⟩
def Z2y:=mkC Yc2 prog 71 F71
theorem ok71:Z2y.ok prog 71:=mkO trivial
def Yc3:TCon:=⟨Z2y.args,[.c (.p (.sl [.bool]))],Z2y.fn⟩
theorem Yme:Yc3.ok prog 71:=TCon.frz (c:=Z2y) ok71 rfl
def Zgn (a0:(List Vy9×List Vy2×Unit))(a1:Int):Option (List (Bool×Unit)×Unit):=Z2y.fn (a0,a1,())
def Zaa (n:Nat)(x0:Int)(x1:(List Vy9))(x2:(List Vy2))(x3:(List (Bool×Unit)))(x4:Int):Option (List (Bool×Unit)×Unit):=itr Yc2 prog 71 F71 n 4 (x0,x1,x2,x3,x4,())
def Xw (n:Nat)(x0:Int)(x1:(List Vy9))(x2:(List Vy2))(x3:(List (Bool×Unit)))(x4 x5:Int):Option (List (Bool×Unit)×Unit):=itr Yc2 prog 71 F71 n 9 (x0,x1,x2,x3,x4,x5,())
theorem Zq5 a0 a1:Eq (Zgn a0 a1) <| bif decide (toNat (ofNat a0.1.length)≤toNat (ofNat a0.1.length))&&(decide (1*toNat (ofNat a0.1.length)≤281474976710656)&&decide (toNat (ofNat a0.1.length)≤9223372036854775807)) then Zaa fuel a1 a0.1 a0.2.1 (List.replicate (toNat (ofNat a0.1.length)) (false,())) 0 else none:=mkE
theorem Zg1 n x0 x1 x2 x3 x4:Eq (Zaa (n+1) x0 x1 x2 x3 x4) <| bif x4≤ofNat x1.length then Xw n x0 x1 x2 x3 x4 0 else some (x3,()):=mkI
theorem Zg2 n x0 x1 x2 x3 x4 x5:Eq (Xw (n+1) x0 x1 x2 x3 x4 x5) <| bif x5<ofNat x2.length then bif 0≤x5 then match x2[x5.toNat]? with | none=>none | some e0=>bif e0.1==x0 then bif 0≤e0.2.2.1 then bif e0.2.2.1.toNat<x3.length then match x3[e0.2.2.1.toNat]? with | none=>none | some e1=>Xw n x0 x1 x2 (List.set x3 e0.2.2.1.toNat (true,e1.2)) x4 (wrap .i64 (x5+1)) else none else none else bif 0≤e0.1 then bif e0.1.toNat<x3.length then match x3[e0.1.toNat]? with | none=>none | some e1=>bif e1.1 then bif 0≤e0.2.2.1 then bif e0.2.2.1.toNat<x3.length then match x3[e0.2.2.1.toNat]? with | none=>none | some e2=>Xw n x0 x1 x2 (List.set x3 e0.2.2.1.toNat (true,e2.2)) x4 (wrap .i64 (x5+1)) else none else none else Xw n x0 x1 x2 x3 x4 (wrap .i64 (x5+1)) else none else none else none else Zaa n x0 x1 x2 x3 (wrap .i64 (x4+1)):=mkI
def Zyd:Tb:=[(67,Ycz),(68,Yc0),(69,Yc1),(70,Ycy),(71,Yc3)]
def F34:TFun:=⟨[1,10],[(1,qc [qn 1,[.boxN 31 2 [.p (.sl Vq11),.p (.sl Vq3)]],qn 137]),(3,qc [qn 1,[.boxN 31 2 [.p (.sl Vq11),.p (.sl Vq3)]],qn 1,qi,qn 135]),(10,qc [qn 1,[.boxN 31 2 [.p (.sl Vq11),.p (.sl Vq3)]],qn 137]),(12,qc [qn 1,[.boxN 31 2 [.p (.sl Vq11),.p (.sl Vq3)]],qn 3,qi,qn 133]),(21,qc [qn 1,[.boxN 31 2 [.p (.sl Vq11),.p (.sl Vq3)]],qn 5,qi,qn 131])],[.a [.sl Vq11,.sl Vq3]],[.c (.p db)],qc [qn 2,qb,qn 136],[],[],0⟩
def Yc4:=mkC Zyd prog 34 F34
theorem ok34:Yc4.ok prog 34:=mkO ⟨ok67,ok68,ok69,ok70,Yme,trivial⟩
def Zki (a0:(List Vy9×List Vy2×Unit)):Option (Bool×Unit):=Yc4.fn (a0,())
def Zkj (n:Nat)(x0:(List Vy9))(x1:(List Vy2)):Option (Bool×Unit):=itr Zyd prog 34 F34 n 1 (x0,x1,())
def Zcr (n:Nat)(x0:(List Vy9))(x1:(List Vy2))(x2:Int):Option (Bool×Unit):=itr Zyd prog 34 F34 n 3 (x0,x1,x2,())
def Zh6 (n:Nat)(x0:(List Vy9))(x1:(List Vy2)):Option (Bool×Unit):=itr Zyd prog 34 F34 n 10 (x0,x1,())
def Zbu (n:Nat)(x0:(List Vy9))(x1:(List Vy2))(x2:Int):Option (Bool×Unit):=itr Zyd prog 34 F34 n 12 (x0,x1,x2,())
def Zbv (n:Nat)(x0:(List Vy9))(x1:(List Vy2))(x2:Int):Option (Bool×Unit):=itr Zyd prog 34 F34 n 21 (x0,x1,x2,())
theorem Zv7 a0:Eq (Zki a0) <| Zcr fuel a0.1 a0.2.1 0:=mkE
theorem Zt8 n x0 x1:Eq (Zkj (n+1) x0 x1) <| Zbu n x0 x1 0:=mkI
theorem Zkk n x0 x1 x2:Eq (Zcr (n+1) x0 x1 x2) <| bif x2<ofNat x1.length then bif 0≤x2 then match x1[x2.toNat]? with | none=>none | some e0=>let k1:=some (false,());bif e0.1<0 then k1 else bif e0.2.2.1<0 then k1 else bif e0.1≥ofNat x0.length then k1 else bif e0.2.2.1≥ofNat x0.length then k1 else bif e0.2.2.2.2.1<1 then k1 else bif e0.2.2.2.2.1>8 then k1 else Zcr n x0 x1 (wrap .i64 (x2+1)) else none else Zkj n x0 x1:=mkI
theorem Zq6 n x0 x1:Eq (Zh6 (n+1) x0 x1) <| Zbv n x0 x1 0:=mkI
theorem Zh7 n x0 x1 x2:Eq (Zbu (n+1) x0 x1 x2) <| bif x2<ofNat x1.length then bif 0≤x2 then match x1[x2.toNat]? with | none=>none | some e0=>match Zkg (x0,x1,()) x2 with | none=>none | some e1=>let k1:=some (false,());bif !e1.1 then k1 else bif e0.2.1<0 then k1 else match Zdo (x0,x1,()) e0.1 with | none=>none | some e2=>bif e0.2.1≥e2.1 then k1 else bif e0.2.2.2.1<0 then k1 else match Zem (x0,x1,()) e0.2.2.1 with | none=>none | some e3=>bif e0.2.2.2.1≥e3.1 then k1 else Zbu n x0 x1 (wrap .i64 (x2+1)) else none else Zh6 n x0 x1:=mkI
theorem Zh8 n x0 x1 x2:Eq (Zbv (n+1) x0 x1 x2) <| bif x2<ofNat x0.length then bif 0≤x2 then match x0[x2.toNat]? with | none=>none | some e0=>let k1:=some (false,());bif e0.2.1<0 then k1 else bif e0.2.1>3 then k1 else match Zem (x0,x1,()) x2 with | none=>none | some e1=>match Zdo (x0,x1,()) x2 with | none=>none | some e2=>match Zm9 e0.1 e1.1 e2.1 with | none=>none | some e3=>bif !e3.1 then k1 else match Zgn (x0,x1,()) x2 with | none=>none | some e4=>bif 0≤x2 then match e4.1[x2.toNat]? with | none=>none | some e5=>bif e5.1 then k1 else Zbv n x0 x1 (wrap .i64 (x2+1)) else none else none else some (true,()):=mkI
def Ymf:Tb:=[(34,Yc4)]
def F23:TFun:=⟨[],[],[.a [.sl Vq11,.sl Vq3]],[.c (.p di)],qc [qn 2,qi,qn 13],[],[],0⟩
def Yc5:=mkC Ymf prog 23 F23
theorem ok23:Yc5.ok prog 23:=mkO ⟨ok34,trivial⟩
def Zf5 (a0:(List Vy9×List Vy2×Unit)):Option (Int×Unit):=Yc5.fn (a0,())
theorem Zv8 a0:Eq (Zf5 a0) <| bif ofNat a0.1.length>20 then some (4,()) else bif ofNat a0.2.1.length>100 then some (4,()) else match Zki a0 with | none=>none | some e0=>bif !e0.1 then some (8,()) else some (0,()):=mkE
def Ymg:Tb:=[]
def F72:TFun:=⟨[],[],[.a Vq8],[.c (.p db)],qc [qn 2,qb,qn 8],[],[],0⟩
def Z2z:=mkC Ymg prog 72 F72
theorem ok72:Z2z.ok prog 72:=mkO trivial
def Zb6 (a0:(Int×Int×Int×Unit)):Option (Bool×Unit):=Z2z.fn (a0,())
theorem Zv9 a0:Eq (Zb6 a0) <| bif a0.2.1≥(-1099511627776) then some (decide (a0.2.1≤1099511627776),()) else some (false,()):=mkE
def Ymh:Tb:=[]
def F73:TFun:=⟨[],[],[.c di],[.c (.p db)],qc [qn 2,qb,qn 10],[],[],0⟩
def Z20:=mkC Ymh prog 73 F73
theorem ok73:Z20.ok prog 73:=mkO trivial
def Zfj (a0:Int):Option (Bool×Unit):=Z20.fn (a0,())
theorem Z0g a0:Eq (Zfj a0) <| let k1:=some (a0==9223372036854775807,());bif a0≥(-1099511627776) then bif a0≤1099511627776 then some (true,()) else k1 else k1:=mkE
def Ymi:Tb:=[]
def F74:TFun:=⟨[],[],[.a Vq3],[.c (.p db)],qc [qn 2,qb,qn 19],[],[],0⟩
def Z70:=mkC Ymi prog 74 F74
theorem ok74:Z70.ok prog 74:=mkO trivial
def Zlw (a0:Vy2):Option (Bool×Unit):=Z70.fn (a0,())
theorem Z21 a0:Eq (Zlw a0) <| bif a0.2.1<a0.2.2.1 then bif a0.2.1≥(-2199023255552) then some (decide (a0.2.2.1≤2199023255552),()) else some (false,()) else some (false,()):=mkE
def Yie:Tb:=[(72,Z2z),(73,Z20),(74,Z70)]
def F35:TFun:=⟨[3],[(3,qc [qn 1,[.boxN 79 10 [.p (.int .u8),.p di,.p di,.p di,.p di,.p di,.p di,.p di,.p di,.p di]],qn 2,[.c (.p (.int .u8))],qb,qn 42])],[.a Vq4],[.c (.p db)],qc [qn 2,qb,qn 45],[],[],0⟩
def Z71:=mkC Yie prog 35 F35
theorem ok35:Z71.ok prog 35:=mkO ⟨ok72,ok73,ok74,trivial⟩
def Zf6 (a0:Vy4):Option (Bool×Unit):=Z71.fn (a0,())
def Zfk (n:Nat)(x0 x1 x2 x3 x4 x5 x6 x7 x8 x9 x10:Int)(x11:Bool):Option (Bool×Unit):=itr Yie prog 35 F35 n 3 (x0,x1,x2,x3,x4,x5,x6,x7,x8,x9,x10,x11,())
theorem Zwa a0:Eq (Zf6 a0) <| bif a0.1==1 then Zfk fuel a0.1 a0.2.1 a0.2.2.1 a0.2.2.2.1 a0.2.2.2.2.1 a0.2.2.2.2.2.1 a0.2.2.2.2.2.2.1 a0.2.2.2.2.2.2.2.1 a0.2.2.2.2.2.2.2.2.1 a0.2.2.2.2.2.2.2.2.2.1 a0.1 true else Zfk fuel a0.1 a0.2.1 a0.2.2.1 a0.2.2.2.1 a0.2.2.2.2.1 a0.2.2.2.2.2.1 a0.2.2.2.2.2.2.1 a0.2.2.2.2.2.2.2.1 a0.2.2.2.2.2.2.2.2.1 a0.2.2.2.2.2.2.2.2.2.1 a0.1 (a0.1==4):=mkE
theorem Zt9 n x0 x1 x2 x3 x4 x5 x6 x7 x8 x9 x10 x11:Eq (Zfk (n+1) x0 x1 x2 x3 x4 x5 x6 x7 x8 x9 x10 x11) <| let k1:=some (false,());bif x11 then (Zb6 (x1,x2,x3,())).bind fun e0=>bif e0.1 then some ((x0==x0&&(x1==x1&&(x2==x2&&(x3==x3&&(x4==0&&(x5==0&&(x6==0&&(x7==0&&(x8==0&&(x9==0&&true))))))))),())) else k1 else bif x10==2 then (Zfj x4).bind fun e0=>bif e0.1 then some ((x0==x0&&(x1==0&&(x2==0&&(x3==0&&(x4==x4&&(x5==0&&(x6==0&&(x7==0&&(x8==0&&(x9==0&&true))))))))),())) else k1 else bif x10==3 then (Zlw (x5,x6,x7,x8,x9,())).bind fun e0=>bif e0.1 then some ((x0==x0&&(x1==0&&(x2==0&&(x3==0&&(x4==0&&(x5==x5&&(x6==x6&&(x7==x7&&(x8==x8&&(x9==x9&&true))))))))),())) else k1 else k1:=mkI
def Yif:Tb:=[(35,Z71)]
def F24:TFun:=⟨[],[(6,qc [qn 1,[.boxN 70 2 [.any,.p (.sl Vq4)]],qn 1,qi,qn 30])],[.a [.int .i64,.sl Vq4]],[.c (.p di)],qc [qn 2,qi,qn 31],[],[],0⟩
def Yc6:=mkC Yif prog 24 F24
theorem ok24:Yc6.ok prog 24:=mkO ⟨ok35,trivial⟩
def Zkl (a0:(Int×List Vy4×Unit)):Option (Int×Unit):=Yc6.fn (a0,())
def Zcs (n:Nat)(x0:(List Vy4))(x1:Int):Option (Int×Unit):=itr Yif prog 24 F24 n 6 (x0,x1,())
theorem Zwb a0:Eq (Zkl a0) <| bif a0.1<1 then some (8,()) else bif a0.1>8 then some (8,()) else bif ofNat a0.2.1.length>a0.1 then some (8,()) else Zcs fuel a0.2.1 0:=mkE
theorem Zkm n x0 x1:Eq (Zcs (n+1) x0 x1) <| bif x1<ofNat x0.length then ix x0 x1 fun e0=>(Zf6 e0).bind fun e1=>bif !e1.1 then some (8,()) else Zcs n x0 (wrap .i64 (x1+1)) else some (0,()):=mkI
def Yc7:Tb:=[]
def F116:TFun:=⟨[2],[(2,qc [qn 1,[.boxN 149 4 [.p di,.p di,.p di,.p di]],qn 1,qb,qn 49])],[.a [.int .i64,.int .i64,.int .i64,.int .i64]],[.c (.p di)],qc [qn 2,qi,qn 50],[],[],0⟩
def Z5p:=mkC Yc7 prog 116 F116
theorem Ymj:Z5p.ok prog 116:=mkO trivial
def Xr (a0:(Int×Int×Int×Int×Unit)):Option (Int×Unit):=Z5p.fn (a0,())
def Zfl (n:Nat)(x0 x1 x2 x3:Int)(x4:Bool):Option (Int×Unit):=itr Yc7 prog 116 F116 n 2 (x0,x1,x2,x3,x4,())
theorem Zwc a0:Eq (Xr a0) <| bif a0.1<0 then Zfl fuel a0.1 a0.2.1 a0.2.2.1 a0.2.2.2.1 true else Zfl fuel a0.1 a0.2.1 a0.2.2.1 a0.2.2.2.1 (decide (a0.1>1073741824)):=mkE
theorem Zua n x0 x1 x2 x3 x4:Eq (Zfl (n+1) x0 x1 x2 x3 x4) <| bif x4 then some (8,()) else let k1:Option (Int×Unit):=let k3:Option (Int×Unit):=bif x2>x3 then some (8,()) else some (0,());bif x0==1 then bif x1 !=x2 then some (8,()) else bif x2 !=x3 then some (8,()) else k3 else k3;bif x0==0 then bif x1 !=0 then some (8,()) else bif x2 !=0 then some (8,()) else bif x3 !=0 then some (8,()) else k1 else k1:=mkI
def Yka:Tb:=[]
def F117:TFun:=⟨[],[],[.a Vq1,.a Vq1],[.c (.p db)],qc [qn 4,qb,qn 33],[],[],0⟩
def Z5q:=mkC Yka prog 117 F117
theorem Ymk:Z5q.ok prog 117:=mkO trivial
def Zfm (a0 a1:Vy1):Option (Bool×Unit):=Z5q.fn (a0,a1,())
theorem Z0h a0 a1:Eq (Zfm a0 a1) <| bif a0.2.2.1 !=a1.2.2.1 then some (decide (a0.2.2.1<a1.2.2.1),()) else bif a0.2.1 !=a1.2.1 then some (decide (a0.2.1<a1.2.1),()) else some (decide (a0.1<a1.1),()):=mkE
def Yig:Tb:=[(116,Z5p),(117,Z5q)]
def F78:TFun:=⟨[],[(6,qc [[.c (.p (.sl Vq1))],qn 2,qi,qn 81])],[.c (.sl Vq1)],[.c (.p di)],qc [qn 2,qi,qn 82],[],[],0⟩
def Yc8:=mkC Yig prog 78 F78
theorem ok78:Yc8.ok prog 78:=mkO ⟨Ymj,Ymk,trivial⟩
def Zkn (a0:(List Vy1)):Option (Int×Unit):=Yc8.fn (a0,())
def Yj (n:Nat)(x0:(List Vy1))(x1:Int):Option (Int×Unit):=itr Yig prog 78 F78 n 6 (x0,x1,())
theorem Zwd a0:Eq (Zkn a0) <| bif ofNat a0.length>4000 then some (4,()) else Yj fuel a0 0:=mkE
theorem Zko n x0 x1:Eq (Yj (n+1) x0 x1) <| bif x1<ofNat x0.length then ix x0 x1 fun e0=>bif e0.2.1≥(-1100585369600) then bif e0.2.1<e0.2.2.1 then (Xr (e0.2.2.2.1,e0.2.2.2.2.1,e0.2.2.2.2.2.1,e0.2.2.2.2.2.2.1,())).bind fun e1=>bif e1.1==0 then (Xr e0.2.2.2.2.2.2.2).bind fun e2=>bif !decide (e0.2.2.1≤1100585369600) then some (8,()) else bif !e2.1==0 then some (8,()) else let k1:Option (Int×Unit):=let k3:=Yj n x0 (wrap .i64 (x1+1));bif x1>0 then ix x0 (wrap .i64 (x1 - 1)) fun e3=>(Zfm e3 e0).bind fun e4=>bif !e4.1 then some (8,()) else k3 else k3;bif e0.2.2.2.1==0 then bif e0.2.2.2.2.2.2.2.1==0 then some (8,()) else k1 else k1 else bif !decide (e0.2.2.1≤1100585369600) then some (8,()) else some (8,()) else (Xr (e0.2.2.2.1,e0.2.2.2.2.1,e0.2.2.2.2.2.1,e0.2.2.2.2.2.2.1,())).bind fun e1=>bif e1.1==0 then (Xr e0.2.2.2.2.2.2.2).bind fun e2=>some (8,()) else some (8,()) else (Xr (e0.2.2.2.1,e0.2.2.2.2.1,e0.2.2.2.2.2.1,e0.2.2.2.2.2.2.1,())).bind fun e1=>bif e1.1==0 then (Xr e0.2.2.2.2.2.2.2).bind fun e2=>some (8,()) else some (8,()) else some (0,()):=mkI
def Ykb:Tb:=[(73,Z20)]
def F114:TFun:=⟨[],[],[.c di],[.c (.p db)],qc [qn 2,qb,qn 6],[],[],0⟩
def Z5r:=mkC Ykb prog 114 F114
theorem Yml:Z5r.ok prog 114:=mkO ⟨ok73,trivial⟩
def Zkp (a0:Int):Option (Bool×Unit):=Z5r.fn (a0,())
theorem Zwe a0:Eq (Zkp a0) <| bif a0==(-9223372036854775808) then some (true,()) else (Zfj a0).bind fun e0=>some (e0.1,()):=mkE
def Ykc:Tb:=[(73,Z20),(72,Z2z)]
def F115:TFun:=⟨[],[],[.a Vq7],[.c (.p di)],qc [qn 2,qi,qn 28],[],[],0⟩
def Z5s:=mkC Ykc prog 115 F115
theorem Ymm:Z5s.ok prog 115:=mkO ⟨ok73,ok72,trivial⟩
def Zkq (a0:Vy5):Option (Int×Unit):=Z5s.fn (a0,())
theorem Zwf a0:Eq (Zkq a0) <| bif a0.1 then (Zfj a0.2.1).bind fun e0=>let k1:Option (Int×Unit):=bif !a0.1 then bif a0.2.1==0 then (Zb6 a0.2.2).bind fun e1=>bif e1.1 then some (0,()) else some (8,()) else some (8,()) else some (8,());bif e0.1 then bif a0.2.2.1==0&&(a0.2.2.2.1==0&&(a0.2.2.2.2.1==0&&true)) then some (0,()) else k1 else k1 else bif !a0.1 then bif a0.2.1==0 then (Zb6 a0.2.2).bind fun e0=>bif e0.1 then some (0,()) else some (8,()) else some (8,()) else some (8,()):=mkE
def Zqp:Tb:=[(114,Z5r),(115,Z5s),(74,Z70),(72,Z2z)]
def F77:TFun:=⟨[1,10,19],[(1,qc [qn 1,[.boxN 58 9 [.any,.any,.any,.any,.any,.any,.p (.sl Vq7),.p (.sl Vq3),.p (.sl Vq8)]],qn 61]),(3,qc [qn 1,[.boxN 58 9 [.any,.any,.any,.any,.p (.sl Vq10),.any,.p (.sl Vq7),.p (.sl Vq3),.p (.sl Vq8)]],qn 1,qi,qn 59]),(10,qc [qn 1,[.boxN 58 9 [.any,.any,.any,.any,.any,.any,.any,.p (.sl Vq3),.p (.sl Vq8)]],qn 61]),(12,qc [qn 1,[.boxN 58 9 [.any,.any,.any,.any,.any,.any,.p (.sl Vq7),.p (.sl Vq3),.p (.sl Vq8)]],qn 2,qi,qn 58]),(19,qc [qn 1,[.boxN 58 9 [.any,.any,.any,.any,.any,.any,.any,.any,.p (.sl Vq8)]],qn 61]),(21,qc [qn 1,[.boxN 58 9 [.any,.any,.any,.any,.any,.any,.any,.p (.sl Vq3),.p (.sl Vq8)]],qn 3,qi,qn 57]),(30,qc [qn 1,[.boxN 58 9 [.any,.any,.any,.any,.any,.any,.any,.any,.p (.sl Vq8)]],qn 4,qi,qn 56])],[.a Vq2],[.c (.p db)],qc [qn 2,qb,qn 60],[],[],0⟩
def Yc9:=mkC Zqp prog 77 F77
theorem ok77:Yc9.ok prog 77:=mkO ⟨Yml,Ymm,ok74,ok72,trivial⟩
def Zkr (a0:Vy3):Option (Bool×Unit):=Yc9.fn (a0,())
def Zks (n:Nat)(x0:(List Vy5))(x1:(List Vy2))(x2:Vy6):Option (Bool×Unit):=itr Zqp prog 77 F77 n 1 (x0,x1,x2,())
def Za8 (n:Nat)(x0:Vy8)(x1:(List Vy5))(x2:(List Vy2))(x3:Vy6)(x4:Int):Option (Bool×Unit):=itr Zqp prog 77 F77 n 3 (x0,x1,x2,x3,x4,())
def Zh9 (n:Nat)(x0:(List Vy2))(x1:Vy6):Option (Bool×Unit):=itr Zqp prog 77 F77 n 10 (x0,x1,())
def Zam (n:Nat)(x0:(List Vy5))(x1:(List Vy2))(x2:Vy6)(x3:Int):Option (Bool×Unit):=itr Zqp prog 77 F77 n 12 (x0,x1,x2,x3,())
def Zia (n:Nat)(x0:Vy6):Option (Bool×Unit):=itr Zqp prog 77 F77 n 19 (x0,())
def Zan (n:Nat)(x0:(List Vy2))(x1:Vy6)(x2:Int):Option (Bool×Unit):=itr Zqp prog 77 F77 n 21 (x0,x1,x2,())
def Zao (n:Nat)(x0:Vy6)(x1:Int):Option (Bool×Unit):=itr Zqp prog 77 F77 n 30 (x0,x1,())
theorem Zwg a0:Eq (Zkr a0) <| Za8 fuel a0.2.2.2.2.1 a0.2.2.2.2.2.2.1 a0.2.2.2.2.2.2.2.1 a0.2.2.2.2.2.2.2.2.1 0:=mkE
theorem Zub n x0 x1 x2:Eq (Zks (n+1) x0 x1 x2) <| Zam n x0 x1 x2 0:=mkI
theorem Zkt n x0 x1 x2 x3 x4:Eq (Za8 (n+1) x0 x1 x2 x3 x4) <| bif x4<ofNat x0.length then ix x0 x4 fun e0=>(Zkp e0.1).bind fun e1=>bif !e1.1 then some (false,()) else Za8 n x0 x1 x2 x3 (wrap .i64 (x4+1)) else Zks n x1 x2 x3:=mkI
theorem Zq7 n x0 x1:Eq (Zh9 (n+1) x0 x1) <| Zan n x0 x1 0:=mkI
theorem Zib n x0 x1 x2 x3:Eq (Zam (n+1) x0 x1 x2 x3) <| bif x3<ofNat x0.length then ix x0 x3 fun e0=>(Zkq e0).bind fun e1=>bif e1.1 !=0 then some (false,()) else Zam n x0 x1 x2 (wrap .i64 (x3+1)) else Zh9 n x1 x2:=mkI
theorem Zq8 n x0:Eq (Zia (n+1) x0) <| Zao n x0 0:=mkI
theorem Zic n x0 x1 x2:Eq (Zan (n+1) x0 x1 x2) <| bif x2<ofNat x0.length then ix x0 x2 fun e0=>(Zlw e0).bind fun e1=>bif !e1.1 then some (false,()) else Zan n x0 x1 (wrap .i64 (x2+1)) else Zia n x1:=mkI
theorem Zid n x0 x1:Eq (Zao (n+1) x0 x1) <| bif x1<ofNat x0.length then ix x0 x1 fun e0=>(Zb6 e0).bind fun e1=>bif !e1.1 then some (false,()) else Zao n x0 (wrap .i64 (x1+1)) else some (true,()):=mkI
def Yih:Tb:=[(35,Z71)]
def F76:TFun:=⟨[],[(3,qc [[.c (.p (.sl Vq6))],qn 2,qi,qn 29])],[.c (.sl Vq6)],[.c (.p db)],qc [qn 2,qb,qn 30],[],[],0⟩
def Yda:=mkC Yih prog 76 F76
theorem ok76:Yda.ok prog 76:=mkO ⟨ok35,trivial⟩
def Zku (a0:(List Vy1)):Option (Bool×Unit):=Yda.fn (a0,())
def Zct (n:Nat)(x0:(List Vy1))(x1:Int):Option (Bool×Unit):=itr Yih prog 76 F76 n 3 (x0,x1,())
theorem Zwh a0:Eq (Zku a0) <| Zct fuel a0 0:=mkE
theorem Zkv n x0 x1:Eq (Zct (n+1) x0 x1) <| bif x1<ofNat x0.length then ix x0 x1 fun e0=>bif e0.1<0 then some (false,()) else ix x0 x1 fun e1=>bif e1.1≥3 then some (false,()) else ix x0 x1 fun e2=>(Zf6 e2.2).bind fun e3=>bif !e3.1 then some (false,()) else Zct n x0 (wrap .i64 (x1+1)) else some (true,()):=mkI
def Yii:Tb:=[]
def F75:TFun:=⟨[2],[(2,qc [qn 1,[.boxN 58 9 [.any,.any,.any,.any,.p (.sl Vq10),.p (.sl Vq1),.p (.sl Vq7),.p (.sl Vq3),.p (.sl Vq8)]],qn 1,qi,qi,qi,qi,qi,qn 61])],[.a Vq2],[.c (.p db)],qc [qn 2,qb,qn 66],[],[],0⟩
def Ydb:=mkC Yii prog 75 F75
theorem ok75:Ydb.ok prog 75:=mkO trivial
def Zna (a0:Vy3):Option (Bool×Unit):=Ydb.fn (a0,())
def Xt (n:Nat)(x0:Vy8)(x1:(List Vy1))(x2:(List Vy5))(x3:(List Vy2))(x4:Vy6)(x5 x6 x7 x8 x9:Int):Option (Bool×Unit):=itr Yii prog 75 F75 n 2 (x0,x1,x2,x3,x4,x5,x6,x7,x8,x9,())
theorem Z0i a0:Eq (Zna a0) <| bif a0.1==1 then Xt fuel a0.2.2.2.2.1 a0.2.2.2.2.2.1 a0.2.2.2.2.2.2.1 a0.2.2.2.2.2.2.2.1 a0.2.2.2.2.2.2.2.2.1 0 0 60 0 0 else bif a0.1==2 then Xt fuel a0.2.2.2.2.1 a0.2.2.2.2.2.1 a0.2.2.2.2.2.2.1 a0.2.2.2.2.2.2.2.1 a0.2.2.2.2.2.2.2.2.1 1 0 0 0 0 else bif a0.1==3 then Xt fuel a0.2.2.2.2.1 a0.2.2.2.2.2.1 a0.2.2.2.2.2.2.1 a0.2.2.2.2.2.2.2.1 a0.2.2.2.2.2.2.2.2.1 0 0 0 0 0 else bif a0.1==4 then Xt fuel a0.2.2.2.2.1 a0.2.2.2.2.2.1 a0.2.2.2.2.2.2.1 a0.2.2.2.2.2.2.2.1 a0.2.2.2.2.2.2.2.2.1 (tmm false 4 (tmm true 1 (ofNat a0.2.2.2.2.1.length))) (ofNat a0.2.2.2.2.2.1.length) 0 0 0 else bif a0.1==5 then Xt fuel a0.2.2.2.2.1 a0.2.2.2.2.2.1 a0.2.2.2.2.2.2.1 a0.2.2.2.2.2.2.2.1 a0.2.2.2.2.2.2.2.2.1 2 (ofNat a0.2.2.2.2.2.1.length) 0 0 0 else bif a0.1==6 then Xt fuel a0.2.2.2.2.1 a0.2.2.2.2.2.1 a0.2.2.2.2.2.2.1 a0.2.2.2.2.2.2.2.1 a0.2.2.2.2.2.2.2.2.1 0 0 0 4000 0 else bif a0.1==7 then Xt fuel a0.2.2.2.2.1 a0.2.2.2.2.2.1 a0.2.2.2.2.2.2.1 a0.2.2.2.2.2.2.2.1 a0.2.2.2.2.2.2.2.2.1 0 0 0 0 4000 else some (false,()):=mkE
theorem Zwi n x0 x1 x2 x3 x4 x5 x6 x7 x8 x9:Eq (Xt (n+1) x0 x1 x2 x3 x4 x5 x6 x7 x8 x9) <| let k1:=some (false,());bif ofNat x0.length==x5 then bif ofNat x1.length≤x6 then bif ofNat x2.length≤x7 then bif ofNat x3.length≤x8 then some (decide (ofNat x4.length≤x9),()) else k1 else k1 else k1 else k1:=mkI
def Yij:Tb:=[(75,Ydb),(76,Yda),(77,Yc9),(78,Yc8)]
def F36:TFun:=⟨[],[(13,qc [qn 1,[.boxN 58 9 [.p (.int .u8),.any,.any,.any,.any,.p (.sl Vq1),.any,.any,.any]],qn 1,qi,qn 68])],[.a Vq2],[.c (.p di)],qc [qn 2,qi,qn 69],[],[],0⟩
def Ydc:=mkC Yij prog 36 F36
theorem ok36:Ydc.ok prog 36:=mkO ⟨ok75,ok76,ok77,ok78,trivial⟩
def Zf7 (a0:Vy3):Option (Int×Unit):=Ydc.fn (a0,())
def Zbw (n:Nat)(x0:Int)(x1:(List Vy1))(x2:Int):Option (Int×Unit):=itr Yij prog 36 F36 n 13 (x0,x1,x2,())
theorem Zwj a0:Eq (Zf7 a0) <| let k1:Option (Int×Unit):=some (8,());bif a0.2.2.1<0 then k1 else bif a0.2.2.1≥20 then k1 else bif ofNat a0.2.2.2.1.length>4000 then k1 else bif a0.2.1<0 then k1 else bif a0.2.1≥4 then k1 else (Zna a0).bind fun e0=>bif !e0.1 then k1 else (Zku a0.2.2.2.1).bind fun e1=>bif !e1.1 then k1 else (Zkr a0).bind fun e2=>bif !e2.1 then k1 else (Zkn a0.2.2.2.2.2.1).bind fun e3=>bif e3.1 !=0 then k1 else Zbw fuel a0.1 a0.2.2.2.2.2.1 0:=mkE
theorem Zie n x0 x1 x2:Eq (Zbw (n+1) x0 x1 x2) <| bif x2<ofNat x1.length then let k1:=Zbw n x0 x1 (wrap .i64 (x2+1));bif x0==4 then ix x1 x2 fun e0=>bif e0.2.2.2.2.2.2.2.1 !=0 then some (8,()) else k1 else k1 else some (0,()):=mkI
end
end Tg
