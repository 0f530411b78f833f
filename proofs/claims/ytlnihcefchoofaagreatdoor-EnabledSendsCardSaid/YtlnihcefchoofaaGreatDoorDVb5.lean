import Derived.Test.YtlnihcefchoofaaGreatDoorDVT
set_option linter.all false
set_option maxRecDepth 100000
namespace Tg
noncomputable section
open Go.Abs hiding fuel
open Go.Proofs.Tryz (prog)
open Int (ofNat toNat)
open Go.IntKind (wrap)
abbrev Zpl:List Go.Abs.SC:=[.p (.sl Vq11),.p (.sl Vq3)]
abbrev Ymr:List Go.Abs.SC:=[.any,.any,.any,.any,.any,.any,.p (.sl Vq7),.p (.sl Vq3),.p (.sl Vq8)]
abbrev Yms:List Go.Abs.SC:=[.any,.any,.any,.any,.any,.any,.any,.p (.sl Vq3),.p (.sl Vq8)]
def Ywc:Tb:=[]
def F172:TFun:=⟨[],[],[.c di,.c di,.c di],[.c (.p db)],qc [qn 6,qb,qn 8],[],[],0⟩
def Yc6:=mkC Ywc prog 171 F172
theorem Yzg:Yc6.ok prog 171:=mkO trivial
def Qq(a0 a1 a2:Int):Option (Bool×Unit):=Yc6.fn (a0,a1,a2,())
theorem Zud a0 a1 a2:Eq (Qq a0 a1 a2)<|bif a0>=a1 then some (decide (a0<=a2),())else some (false,()):=mkE
def Ywd:Tb:=[(171,Yc6)]
def F110:TFun:=⟨[],[],[.c (.int .u8),.c di,.c di],[.c (.p db)],qc [qn 6,qb,qn 59],[],[],0⟩
def Yc7:=mkC Ywd prog 109 F110
theorem Yzh:Yc7.ok prog 109:=mkO ⟨Yzg,trivial⟩
def Zpm(a0 a1 a2:Int):Option (Bool×Unit):=Yc7.fn (a0,a1,a2,())
theorem Z5o a0 a1 a2:Eq (Zpm a0 a1 a2)<|let k1:=some (false,());bif a0==1 then bif a1==0 then some (a2==1,())else k1 else bif a0==2 then bif a1==1 then match Qq a2 1 2 with|none=>none|some e0=>some (e0.1,())else k1 else bif a0==3 then bif a1==1 then match Qq a2 1 3 with|none=>none|some e0=>some (e0.1,())else k1 else bif a0==4 then match Qq a1 1 4 with|none=>none|some e0=>bif e0.1 then some (a2==1,())else k1 else bif a0==5 then bif a1==2 then some (a2==1,())else k1 else bif a0==6 then match Qq a1 1 3 with|none=>none|some e0=>bif e0.1 then some (a2==0,())else k1 else bif a0==7 then match Qq a1 1 4 with|none=>none|some e0=>bif e0.1 then some (a2==0,())else k1 else k1:=mkE
def Ymt:Tb:=[]
def F107:TFun:=⟨[],[(4,qc [qn 1,qi,[.boxN 31 2 [.any,.p (.sl Vq3)]],qn 2,[.boxN 88 5 [.p di,.p di,.p di,.p di,.any]],qi,qn 49])],[.a [.sl Vq11,.sl Vq3],.c di],[.c (.p db)],qc [qn 4,qb,qn 51],[],[],0⟩
def Yc8:=mkC Ymt prog 106 F107
theorem Yzi:Yc8.ok prog 106:=mkO trivial
def Zl5(a0:(List Vy9×List Vy2×Unit))(a1:Int):Option (Bool×Unit):=Yc8.fn (a0,a1,())
def Zc7(n:Nat)(x0:Int)(x1:(List Vy2))(x2 x3 x4 x5 x6:Int):Option (Bool×Unit):=itr Ymt prog 106 F107 n 4 (x0,x1,x2,x3,x4,x5,x6,())
theorem Z0v a0 a1:Eq (Zl5 a0 a1)<|bif 0<=a1 then match a0.2.1[a1.toNat]? with|none=>none|some e0=>Zc7 fuel a1 a0.2.1 e0.1 e0.2.1 e0.2.2.1 e0.2.2.2.1 0 else none:=mkE
theorem Zl6 n x0 x1 x2 x3 x4 x5 x6:Eq (Zc7 (n+1) x0 x1 x2 x3 x4 x5 x6)<|bif x6<x0 then bif 0<=x6 then match x1[x6.toNat]? with|none=>none|some e0=>bif e0.1>x2 then some (false,())else let k1:=let k3:=Zc7 n x0 x1 x2 x3 x4 x5 (wrap .i64 (x6+1));bif e0.2.2.1==x4 then bif e0.2.2.2.1==x5 then some (false,())else k3 else k3;bif e0.1==x2 then bif e0.2.1>=x3 then some (false,())else k1 else k1 else none else some (true,()):=mkI
def Ymu:Tb:=[]
def F108:TFun:=⟨[],[(4,qc [qn 1,qi,[.boxN 31 2 [.any,.p (.sl Vq3)]],qn 2,qi,qi,qn 18])],[.a [.sl Vq11,.sl Vq3],.c di],[.c (.p di)],qc [qn 4,qi,qn 20],[],[],0⟩
def Yc9:=mkC Ymu prog 107 F108
theorem Yzj:Yc9.ok prog 107:=mkO trivial
def Zem(a0:(List Vy9×List Vy2×Unit))(a1:Int):Option (Int×Unit):=Yc9.fn (a0,a1,())
def Q7(n:Nat)(x0:Int)(x1:(List Vy2))(x2 x3:Int):Option (Int×Unit):=itr Ymu prog 107 F108 n 4 (x0,x1,x2,x3,())
theorem Zue a0 a1:Eq (Zem a0 a1)<|Q7 fuel a1 a0.2.1 0 0:=mkE
theorem Zih n x0 x1 x2 x3:Eq (Q7 (n+1) x0 x1 x2 x3)<|bif x3<ofNat x1.length then bif 0<=x3 then match x1[x3.toNat]? with|none=>none|some e0=>bif e0.1==x0 then Q7 n x0 x1 (wrap .i64 (x2+1)) (wrap .i64 (x3+1))else Q7 n x0 x1 x2 (wrap .i64 (x3+1))else none else some (x2,()):=mkI
def Ymv:Tb:=[]
def F109:TFun:=⟨[],[(4,qc [qn 1,qi,[.boxN 31 2 [.any,.p (.sl Vq3)]],qn 2,qi,qi,qn 18])],[.a [.sl Vq11,.sl Vq3],.c di],[.c (.p di)],qc [qn 4,qi,qn 20],[],[],0⟩
def Yda:=mkC Ymv prog 108 F109
theorem Yzk:Yda.ok prog 108:=mkO trivial
def Zfp(a0:(List Vy9×List Vy2×Unit))(a1:Int):Option (Int×Unit):=Yda.fn (a0,a1,())
def Zan(n:Nat)(x0:Int)(x1:(List Vy2))(x2 x3:Int):Option (Int×Unit):=itr Ymv prog 108 F109 n 4 (x0,x1,x2,x3,())
theorem Zxt a0 a1:Eq (Zfp a0 a1)<|Zan fuel a1 a0.2.1 0 0:=mkE
theorem Zj4 n x0 x1 x2 x3:Eq (Zan (n+1) x0 x1 x2 x3)<|bif x3<ofNat x1.length then bif 0<=x3 then match x1[x3.toNat]? with|none=>none|some e0=>bif e0.2.2.1==x0 then Zan n x0 x1 (wrap .i64 (x2+1)) (wrap .i64 (x3+1))else Zan n x0 x1 x2 (wrap .i64 (x3+1))else none else some (x2,()):=mkI
def Ydb:Tb:=[]
def F111:TFun:=⟨[],[(4,qc [qn 1,qi,[.boxN 31 2 Zpl],qn 2,[.c (.rowN 4 1 [.bool])],qi,qn 41]),(9,qc [qn 1,qi,[.boxN 31 2 Zpl],qn 2,[.c (.rowN 4 1 [.bool])],qi,qi,qn 40])],[.a [.sl Vq11,.sl Vq3],.c di],[.c (.s 4 1 [.bool])],qc [qn 4,[.c (.rowN 4 1 [.bool])],qn 43],[],[],0⟩
def Zxu:=mkC Ydb prog 110 F111
theorem Yzl:Zxu.ok prog 110:=mkO trivial
def Ygz:TCon:=⟨Zxu.args,[.c (.p (.sl [.bool]))],Zxu.fn⟩
theorem Ywe:Ygz.ok prog 110:=TCon.frz (c:=Zxu) Yzl rfl
def Zh0(a0:(List Vy9×List Vy2×Unit))(a1:Int):Option (List (Bool×Unit)×Unit):=Zxu.fn (a0,a1,())
def Q8(n:Nat)(x0:Int)(x1:(List Vy9))(x2:(List Vy2))(x3:(List (Bool×Unit)))(x4:Int):Option (List (Bool×Unit)×Unit):=itr Ydb prog 110 F111 n 4 (x0,x1,x2,x3,x4,())
def Xx(n:Nat)(x0:Int)(x1:(List Vy9))(x2:(List Vy2))(x3:(List (Bool×Unit)))(x4 x5:Int):Option (List (Bool×Unit)×Unit):=itr Ydb prog 110 F111 n 9 (x0,x1,x2,x3,x4,x5,())
theorem Zuf a0 a1:Eq (Zh0 a0 a1)<|bif decide (toNat (ofNat a0.1.length)<=toNat (ofNat a0.1.length))&&(decide (1*toNat (ofNat a0.1.length)<=281474976710656)&&decide (toNat (ofNat a0.1.length)<=9223372036854775807))then Q8 fuel a1 a0.1 a0.2.1 (List.replicate (toNat (ofNat a0.1.length)) (false,())) 0 else none:=mkE
theorem Zii n x0 x1 x2 x3 x4:Eq (Q8 (n+1) x0 x1 x2 x3 x4)<|bif x4<=ofNat x1.length then Xx n x0 x1 x2 x3 x4 0 else some (x3,()):=mkI
theorem Zij n x0 x1 x2 x3 x4 x5:Eq (Xx (n+1) x0 x1 x2 x3 x4 x5)<|bif x5<ofNat x2.length then bif 0<=x5 then match x2[x5.toNat]? with|none=>none|some e0=>bif e0.1==x0 then bif 0<=e0.2.2.1 then bif e0.2.2.1.toNat<x3.length then match x3[e0.2.2.1.toNat]? with|none=>none|some e1=>Xx n x0 x1 x2 (List.set x3 e0.2.2.1.toNat (true,e1.2)) x4 (wrap .i64 (x5+1))else none else none else bif 0<=e0.1 then bif e0.1.toNat<x3.length then match x3[e0.1.toNat]? with|none=>none|some e1=>bif e1.1 then bif 0<=e0.2.2.1 then bif e0.2.2.1.toNat<x3.length then match x3[e0.2.2.1.toNat]? with|none=>none|some e2=>Xx n x0 x1 x2 (List.set x3 e0.2.2.1.toNat (true,e2.2)) x4 (wrap .i64 (x5+1))else none else none else Xx n x0 x1 x2 x3 x4 (wrap .i64 (x5+1))else none else none else none else Q8 n x0 x1 x2 x3 (wrap .i64 (x4+1)):=mkI
def Z3b:Tb:=[(106,Yc8),(107,Yc9),(108,Yda),(109,Yc7),(110,Ygz)]
def F51:TFun:=⟨[1,10],[(1,qc [qn 1,[.boxN 31 2 Zpl],qn 137]),(3,qc [qn 1,[.boxN 31 2 Zpl],qn 1,qi,qn 135]),(10,qc [qn 1,[.boxN 31 2 Zpl],qn 137]),(12,qc [qn 1,[.boxN 31 2 Zpl],qn 3,qi,qn 133]),(21,qc [qn 1,[.boxN 31 2 Zpl],qn 5,qi,qn 131])],[.a [.sl Vq11,.sl Vq3]],[.c (.p db)],qc [qn 2,qb,qn 136],[],[],0⟩
def Ymw:=mkC Z3b prog 50 F51
theorem ok51:Ymw.ok prog 50:=mkO ⟨Yzi,Yzj,Yzk,Yzh,Ywe,trivial⟩
def Zl7(a0:(List Vy9×List Vy2×Unit)):Option (Bool×Unit):=Ymw.fn (a0,())
def Zl8(n:Nat)(x0:(List Vy9))(x1:(List Vy2)):Option (Bool×Unit):=itr Z3b prog 50 F51 n 1 (x0,x1,())
def Zc8(n:Nat)(x0:(List Vy9))(x1:(List Vy2))(x2:Int):Option (Bool×Unit):=itr Z3b prog 50 F51 n 3 (x0,x1,x2,())
def Zj5(n:Nat)(x0:(List Vy9))(x1:(List Vy2)):Option (Bool×Unit):=itr Z3b prog 50 F51 n 10 (x0,x1,())
def Zb2(n:Nat)(x0:(List Vy9))(x1:(List Vy2))(x2:Int):Option (Bool×Unit):=itr Z3b prog 50 F51 n 12 (x0,x1,x2,())
def Zb3(n:Nat)(x0:(List Vy9))(x1:(List Vy2))(x2:Int):Option (Bool×Unit):=itr Z3b prog 50 F51 n 21 (x0,x1,x2,())
theorem Z0w a0:Eq (Zl7 a0)<|Zc8 fuel a0.1 a0.2.1 0:=mkE
theorem Zxv n x0 x1:Eq (Zl8 (n+1) x0 x1)<|Zb2 n x0 x1 0:=mkI
theorem Zl9 n x0 x1 x2:Eq (Zc8 (n+1) x0 x1 x2)<|bif x2<ofNat x1.length then bif 0<=x2 then match x1[x2.toNat]? with|none=>none|some e0=>let k1:=some (false,());bif e0.1<0 then k1 else bif e0.2.2.1<0 then k1 else bif e0.1>=ofNat x0.length then k1 else bif e0.2.2.1>=ofNat x0.length then k1 else bif e0.2.2.2.2.1<1 then k1 else bif e0.2.2.2.2.1>8 then k1 else Zc8 n x0 x1 (wrap .i64 (x2+1))else none else Zl8 n x0 x1:=mkI
theorem Zug n x0 x1:Eq (Zj5 (n+1) x0 x1)<|Zb3 n x0 x1 0:=mkI
theorem Zj6 n x0 x1 x2:Eq (Zb2 (n+1) x0 x1 x2)<|bif x2<ofNat x1.length then bif 0<=x2 then match x1[x2.toNat]? with|none=>none|some e0=>match Zl5 (x0,x1,()) x2 with|none=>none|some e1=>let k1:=some (false,());bif !e1.1 then k1 else bif e0.2.1<0 then k1 else match Zem (x0,x1,()) e0.1 with|none=>none|some e2=>bif e0.2.1>=e2.1 then k1 else bif e0.2.2.2.1<0 then k1 else match Zfp (x0,x1,()) e0.2.2.1 with|none=>none|some e3=>bif e0.2.2.2.1>=e3.1 then k1 else Zb2 n x0 x1 (wrap .i64 (x2+1))else none else Zj5 n x0 x1:=mkI
theorem Zj7 n x0 x1 x2:Eq (Zb3 (n+1) x0 x1 x2)<|bif x2<ofNat x0.length then bif 0<=x2 then match x0[x2.toNat]? with|none=>none|some e0=>let k1:=some (false,());bif e0.2.1<0 then k1 else bif e0.2.1>3 then k1 else match Zfp (x0,x1,()) x2 with|none=>none|some e1=>match Zem (x0,x1,()) x2 with|none=>none|some e2=>match Zpm e0.1 e1.1 e2.1 with|none=>none|some e3=>bif !e3.1 then k1 else match Zh0 (x0,x1,()) x2 with|none=>none|some e4=>bif 0<=x2 then match e4.1[x2.toNat]? with|none=>none|some e5=>bif e5.1 then k1 else Zb3 n x0 x1 (wrap .i64 (x2+1))else none else none else some (true,()):=mkI
def Yzm:Tb:=[(50,Ymw)]
def F28:TFun:=⟨[],[],[.a [.sl Vq11,.sl Vq3]],[.c (.p di)],qc [qn 2,qi,qn 13],[],[],0⟩
def Ymx:=mkC Yzm prog 27 F28
theorem ok28:Ymx.ok prog 27:=mkO ⟨ok51,trivial⟩
def Zhj(a0:(List Vy9×List Vy2×Unit)):Option (Int×Unit):=Ymx.fn (a0,())
theorem Z0x a0:Eq (Zhj a0)<|bif ofNat a0.1.length>20 then some (4,())else bif ofNat a0.2.1.length>100 then some (4,())else match Zl7 a0 with|none=>none|some e0=>bif !e0.1 then some (8,())else some (0,()):=mkE
def Ywf:Tb:=[]
def F112:TFun:=⟨[],[],[.a Vq8],[.c (.p db)],qc [qn 2,qb,qn 8],[],[],0⟩
def Zxw:=mkC Ywf prog 111 F112
theorem Ymy:Zxw.ok prog 111:=mkO trivial
def Zcl(a0:(Int×Int×Int×Unit)):Option (Bool×Unit):=Zxw.fn (a0,())
theorem Z0y a0:Eq (Zcl a0)<|bif a0.2.1>=(-1099511627776)then some (decide (a0.2.1<=1099511627776),())else some (false,()):=mkE
def Ywg:Tb:=[]
def F113:TFun:=⟨[],[],[.c di],[.c (.p db)],qc [qn 2,qb,qn 10],[],[],0⟩
def Zxx:=mkC Ywg prog 112 F113
theorem Ymz:Zxx.ok prog 112:=mkO trivial
def Zgo(a0:Int):Option (Bool×Unit):=Zxx.fn (a0,())
theorem Z5p a0:Eq (Zgo a0)<|let k1:=some (a0==9223372036854775807,());bif a0>=(-1099511627776)then bif a0<=1099511627776 then some (true,())else k1 else k1:=mkE
def Ywh:Tb:=[]
def F114:TFun:=⟨[],[],[.a Vq3],[.c (.p db)],qc [qn 2,qb,qn 19],[],[],0⟩
def Z5q:=mkC Ywh prog 113 F114
theorem Ytw:Z5q.ok prog 113:=mkO trivial
def Znx(a0:Vy2):Option (Bool×Unit):=Z5q.fn (a0,())
theorem Z89 a0:Eq (Znx a0)<|bif a0.2.1<a0.2.2.1 then bif a0.2.1>=(-2199023255552)then some (decide (a0.2.2.1<=2199023255552),())else some (false,())else some (false,()):=mkE
def Ytx:Tb:=[(111,Zxw),(112,Zxx),(113,Z5q)]
def F52:TFun:=⟨[3],[(3,qc [qn 1,[.boxN 111 10 [.p (.int .u8),.p di,.p di,.p di,.p di,.p di,.p di,.p di,.p di,.p di]],qn 2,[.c (.p (.int .u8))],qb,qn 42])],[.a Vq4],[.c (.p db)],qc [qn 2,qb,qn 45],[],[],0⟩
def Yg0:=mkC Ytx prog 51 F52
theorem ok52:Yg0.ok prog 51:=mkO ⟨Ymy,Ymz,Ytw,trivial⟩
def Zhk(a0:Vy4):Option (Bool×Unit):=Yg0.fn (a0,())
def Zgp(n:Nat)(x0 x1 x2 x3 x4 x5 x6 x7 x8 x9 x10:Int)(x11:Bool):Option (Bool×Unit):=itr Ytx prog 51 F52 n 3 (x0,x1,x2,x3,x4,x5,x6,x7,x8,x9,x10,x11,())
theorem Z0z a0:Eq (Zhk a0)<|bif a0.1==1 then Zgp fuel a0.1 a0.2.1 a0.2.2.1 a0.2.2.2.1 a0.2.2.2.2.1 a0.2.2.2.2.2.1 a0.2.2.2.2.2.2.1 a0.2.2.2.2.2.2.2.1 a0.2.2.2.2.2.2.2.2.1 a0.2.2.2.2.2.2.2.2.2.1 a0.1 true else Zgp fuel a0.1 a0.2.1 a0.2.2.1 a0.2.2.2.1 a0.2.2.2.2.1 a0.2.2.2.2.2.1 a0.2.2.2.2.2.2.1 a0.2.2.2.2.2.2.2.1 a0.2.2.2.2.2.2.2.2.1 a0.2.2.2.2.2.2.2.2.2.1 a0.1 (a0.1==4):=mkE
theorem Zxy n x0 x1 x2 x3 x4 x5 x6 x7 x8 x9 x10 x11:Eq (Zgp (n+1) x0 x1 x2 x3 x4 x5 x6 x7 x8 x9 x10 x11)<|let k1:=some (false,());bif x11 then(Zcl (x1,x2,x3,())).bind λe0=>bif e0.1 then some ((x0==x0&&(x1==x1&&(x2==x2&&(x3==x3&&(x4==0&&(x5==0&&(x6==0&&(x7==0&&(x8==0&&(x9==0&&true))))))))),()))else k1 else bif x10==2 then(Zgo x4).bind λe0=>bif e0.1 then some ((x0==x0&&(x1==0&&(x2==0&&(x3==0&&(x4==x4&&(x5==0&&(x6==0&&(x7==0&&(x8==0&&(x9==0&&true))))))))),()))else k1 else bif x10==3 then(Znx (x5,x6,x7,x8,x9,())).bind λe0=>bif e0.1 then some ((x0==x0&&(x1==0&&(x2==0&&(x3==0&&(x4==0&&(x5==x5&&(x6==x6&&(x7==x7&&(x8==x8&&(x9==x9&&true))))))))),()))else k1 else k1:=mkI
def Yty:Tb:=[(51,Yg0)]
def F29:TFun:=⟨[],[(6,qc [qn 1,[.boxN 64 2 [.any,.p (.sl Vq4)]],qn 1,qi,qn 30])],[.a [.int .i64,.sl Vq4]],[.c (.p di)],qc [qn 2,qi,qn 31],[],[],0⟩
def Ym0:=mkC Yty prog 28 F29
theorem ok29:Ym0.ok prog 28:=mkO ⟨ok52,trivial⟩
def Zma(a0:(Int×List Vy4×Unit)):Option (Int×Unit):=Ym0.fn (a0,())
def Zc9(n:Nat)(x0:(List Vy4))(x1:Int):Option (Int×Unit):=itr Yty prog 28 F29 n 6 (x0,x1,())
theorem Z00 a0:Eq (Zma a0)<|bif a0.1<1 then some (8,())else bif a0.1>8 then some (8,())else bif ofNat a0.2.1.length>a0.1 then some (8,())else Zc9 fuel a0.2.1 0:=mkE
theorem Zmb n x0 x1:Eq (Zc9 (n+1) x0 x1)<|bif x1<ofNat x0.length then ix x0 x1 λe0=>(Zhk e0).bind λe1=>bif !e1.1 then some (8,())else Zc9 n x0 (wrap .i64 (x1+1))else some (0,()):=mkI
def Ym1:Tb:=[]
def F175:TFun:=⟨[2],[(2,qc [qn 1,[.boxN 149 4 [.p di,.p di,.p di,.p di]],qn 1,qb,qn 49])],[.a [.int .i64,.int .i64,.int .i64,.int .i64]],[.c (.p di)],qc [qn 2,qi,qn 50],[],[],0⟩
def Ydc:=mkC Ym1 prog 174 F175
theorem Yzn:Ydc.ok prog 174:=mkO trivial
def Xt(a0:(Int×Int×Int×Int×Unit)):Option (Int×Unit):=Ydc.fn (a0,())
def Zgq(n:Nat)(x0 x1 x2 x3:Int)(x4:Bool):Option (Int×Unit):=itr Ym1 prog 174 F175 n 2 (x0,x1,x2,x3,x4,())
theorem Z01 a0:Eq (Xt a0)<|bif a0.1<0 then Zgq fuel a0.1 a0.2.1 a0.2.2.1 a0.2.2.2.1 true else Zgq fuel a0.1 a0.2.1 a0.2.2.1 a0.2.2.2.1 (decide (a0.1>1073741824)):=mkE
theorem Zxz n x0 x1 x2 x3 x4:Eq (Zgq (n+1) x0 x1 x2 x3 x4)<|bif x4 then some (8,())else let k1:Option (Int×Unit):=let k3:Option (Int×Unit):=bif x2>x3 then some (8,())else some (0,());bif x0==1 then bif x1 !=x2 then some (8,())else bif x2 !=x3 then some (8,())else k3 else k3;bif x0==0 then bif x1 !=0 then some (8,())else bif x2 !=0 then some (8,())else bif x3 !=0 then some (8,())else k1 else k1:=mkI
def Ywi:Tb:=[]
def F176:TFun:=⟨[],[],[.a Vq1,.a Vq1],[.c (.p db)],qc [qn 4,qb,qn 33],[],[],0⟩
def Ydd:=mkC Ywi prog 175 F176
theorem Yzo:Ydd.ok prog 175:=mkO trivial
def Zjd(a0 a1:Vy1):Option (Bool×Unit):=Ydd.fn (a0,a1,())
theorem Z5r a0 a1:Eq (Zjd a0 a1)<|bif a0.2.2.1 !=a1.2.2.1 then some (decide (a0.2.2.1<a1.2.2.1),())else bif a0.2.1 !=a1.2.1 then some (decide (a0.2.1<a1.2.1),())else some (decide (a0.1<a1.1),()):=mkE
def Ym2:Tb:=[(174,Ydc),(175,Ydd)]
def F118:TFun:=⟨[],[(6,qc [[.c (.p (.sl Vq1))],qn 2,qi,qn 81])],[.c (.sl Vq1)],[.c (.p di)],qc [qn 2,qi,qn 82],[],[],0⟩
def Yde:=mkC Ym2 prog 117 F118
theorem Yzp:Yde.ok prog 117:=mkO ⟨Yzn,Yzo,trivial⟩
def Zmc(a0:(List Vy1)):Option (Int×Unit):=Yde.fn (a0,())
def X7(n:Nat)(x0:(List Vy1))(x1:Int):Option (Int×Unit):=itr Ym2 prog 117 F118 n 6 (x0,x1,())
theorem Z02 a0:Eq (Zmc a0)<|bif ofNat a0.length>4000 then some (4,())else X7 fuel a0 0:=mkE
theorem Zmd n x0 x1:Eq (X7 (n+1) x0 x1)<|bif x1<ofNat x0.length then ix x0 x1 λe0=>bif e0.2.1>=(-1100585369600)then bif e0.2.1<e0.2.2.1 then(Xt (e0.2.2.2.1,e0.2.2.2.2.1,e0.2.2.2.2.2.1,e0.2.2.2.2.2.2.1,())).bind λe1=>bif e1.1==0 then(Xt e0.2.2.2.2.2.2.2).bind λe2=>bif !decide (e0.2.2.1<=1100585369600)then some (8,())else bif !e2.1==0 then some (8,())else let k1:Option (Int×Unit):=let k3:=X7 n x0 (wrap .i64 (x1+1));bif x1>0 then ix x0 (wrap .i64 (x1-1)) λe3=>(Zjd e3 e0).bind λe4=>bif !e4.1 then some (8,())else k3 else k3;bif e0.2.2.2.1==0 then bif e0.2.2.2.2.2.2.2.1==0 then some (8,())else k1 else k1 else bif !decide (e0.2.2.1<=1100585369600)then some (8,())else some (8,())else(Xt (e0.2.2.2.1,e0.2.2.2.2.1,e0.2.2.2.2.2.1,e0.2.2.2.2.2.2.1,())).bind λe1=>bif e1.1==0 then(Xt e0.2.2.2.2.2.2.2).bind λe2=>some (8,())else some (8,())else(Xt (e0.2.2.2.1,e0.2.2.2.2.1,e0.2.2.2.2.2.1,e0.2.2.2.2.2.2.1,())).bind λe1=>bif e1.1==0 then(Xt e0.2.2.2.2.2.2.2).bind λe2=>some (8,())else some (8,())else some (0,()):=mkI
def Ywj:Tb:=[(112,Zxx)]
def F173:TFun:=⟨[],[],[.c di],[.c (.p db)],qc [qn 2,qb,qn 6],[],[],0⟩
def Ydf:=mkC Ywj prog 172 F173
theorem Yzq:Ydf.ok prog 172:=mkO ⟨Ymz,trivial⟩
def Zme(a0:Int):Option (Bool×Unit):=Ydf.fn (a0,())
theorem Z03 a0:Eq (Zme a0)<|bif a0==(-9223372036854775808)then some (true,())else(Zgo a0).bind λe0=>some (e0.1,()):=mkE
def Ywk:Tb:=[(112,Zxx),(111,Zxw)]
def F174:TFun:=⟨[],[],[.a Vq7],[.c (.p di)],qc [qn 2,qi,qn 28],[],[],0⟩
def Ydg:=mkC Ywk prog 173 F174
theorem Yzr:Ydg.ok prog 173:=mkO ⟨Ymz,Ymy,trivial⟩
def Zmf(a0:Vy5):Option (Int×Unit):=Ydg.fn (a0,())
theorem Z04 a0:Eq (Zmf a0)<|bif a0.1 then(Zgo a0.2.1).bind λe0=>let k1:Option (Int×Unit):=bif !a0.1 then bif a0.2.1==0 then(Zcl a0.2.2).bind λe1=>bif e1.1 then some (0,())else some (8,())else some (8,())else some (8,());bif e0.1 then bif a0.2.2.1==0&&(a0.2.2.2.1==0&&(a0.2.2.2.2.1==0&&true))then some (0,())else k1 else k1 else bif !a0.1 then bif a0.2.1==0 then(Zcl a0.2.2).bind λe0=>bif e0.1 then some (0,())else some (8,())else some (8,())else some (8,()):=mkE
def Zmg:Tb:=[(172,Ydf),(173,Ydg),(113,Z5q),(111,Zxw)]
def F117:TFun:=⟨[1,10,19],[(1,qc [qn 1,[.boxN 56 9 Ymr],qn 61]),(3,qc [qn 1,[.boxN 56 9 [.any,.any,.any,.any,.p (.sl Vq10),.any,.p (.sl Vq7),.p (.sl Vq3),.p (.sl Vq8)]],qn 1,qi,qn 59]),(10,qc [qn 1,[.boxN 56 9 Yms],qn 61]),(12,qc [qn 1,[.boxN 56 9 Ymr],qn 2,qi,qn 58]),(19,qc [qn 1,[.boxN 56 9 [.any,.any,.any,.any,.any,.any,.any,.any,.p (.sl Vq8)]],qn 61]),(21,qc [qn 1,[.boxN 56 9 Yms],qn 3,qi,qn 57]),(30,qc [qn 1,[.boxN 56 9 [.any,.any,.any,.any,.any,.any,.any,.any,.p (.sl Vq8)]],qn 4,qi,qn 56])],[.a Vq2],[.c (.p db)],qc [qn 2,qb,qn 60],[],[],0⟩
def Ydh:=mkC Zmg prog 116 F117
theorem Yzs:Ydh.ok prog 116:=mkO ⟨Yzq,Yzr,Ytw,Ymy,trivial⟩
def Zmh(a0:Vy3):Option (Bool×Unit):=Ydh.fn (a0,())
def Zmi(n:Nat)(x0:(List Vy5))(x1:(List Vy2))(x2:Vy6):Option (Bool×Unit):=itr Zmg prog 116 F117 n 1 (x0,x1,x2,())
def Za6(n:Nat)(x0:Vy7)(x1:(List Vy5))(x2:(List Vy2))(x3:Vy6)(x4:Int):Option (Bool×Unit):=itr Zmg prog 116 F117 n 3 (x0,x1,x2,x3,x4,())
def Zj8(n:Nat)(x0:(List Vy2))(x1:Vy6):Option (Bool×Unit):=itr Zmg prog 116 F117 n 10 (x0,x1,())
def Zao(n:Nat)(x0:(List Vy5))(x1:(List Vy2))(x2:Vy6)(x3:Int):Option (Bool×Unit):=itr Zmg prog 116 F117 n 12 (x0,x1,x2,x3,())
def Zj9(n:Nat)(x0:Vy6):Option (Bool×Unit):=itr Zmg prog 116 F117 n 19 (x0,())
def Zap(n:Nat)(x0:(List Vy2))(x1:Vy6)(x2:Int):Option (Bool×Unit):=itr Zmg prog 116 F117 n 21 (x0,x1,x2,())
def Zaq(n:Nat)(x0:Vy6)(x1:Int):Option (Bool×Unit):=itr Zmg prog 116 F117 n 30 (x0,x1,())
theorem Z05 a0:Eq (Zmh a0)<|Za6 fuel a0.2.2.2.2.1 a0.2.2.2.2.2.2.1 a0.2.2.2.2.2.2.2.1 a0.2.2.2.2.2.2.2.2.1 0:=mkE
theorem Zx0 n x0 x1 x2:Eq (Zmi (n+1) x0 x1 x2)<|Zao n x0 x1 x2 0:=mkI
theorem Zmj n x0 x1 x2 x3 x4:Eq (Za6 (n+1) x0 x1 x2 x3 x4)<|bif x4<ofNat x0.length then ix x0 x4 λe0=>(Zme e0.1).bind λe1=>bif !e1.1 then some (false,())else Za6 n x0 x1 x2 x3 (wrap .i64 (x4+1))else Zmi n x1 x2 x3:=mkI
theorem Zuh n x0 x1:Eq (Zj8 (n+1) x0 x1)<|Zap n x0 x1 0:=mkI
theorem Zka n x0 x1 x2 x3:Eq (Zao (n+1) x0 x1 x2 x3)<|bif x3<ofNat x0.length then ix x0 x3 λe0=>(Zmf e0).bind λe1=>bif e1.1 !=0 then some (false,())else Zao n x0 x1 x2 (wrap .i64 (x3+1))else Zj8 n x1 x2:=mkI
theorem Zui n x0:Eq (Zj9 (n+1) x0)<|Zaq n x0 0:=mkI
theorem Zkb n x0 x1 x2:Eq (Zap (n+1) x0 x1 x2)<|bif x2<ofNat x0.length then ix x0 x2 λe0=>(Znx e0).bind λe1=>bif !e1.1 then some (false,())else Zap n x0 x1 (wrap .i64 (x2+1))else Zj9 n x1:=mkI
theorem Zkc n x0 x1:Eq (Zaq (n+1) x0 x1)<|bif x1<ofNat x0.length then ix x0 x1 λe0=>(Zcl e0).bind λe1=>bif !e1.1 then some (false,())else Zaq n x0 (wrap .i64 (x1+1))else some (true,()):=mkI
def Ym3:Tb:=[(51,Yg0)]
def F116:TFun:=⟨[],[(3,qc [[.c (.p (.sl Vq6))],qn 2,qi,qn 29])],[.c (.sl Vq6)],[.c (.p db)],qc [qn 2,qb,qn 30],[],[],0⟩
def Ydi:=mkC Ym3 prog 115 F116
theorem Yzt:Ydi.ok prog 115:=mkO ⟨ok52,trivial⟩
def Zmk(a0:(List Vy1)):Option (Bool×Unit):=Ydi.fn (a0,())
def Zda(n:Nat)(x0:(List Vy1))(x1:Int):Option (Bool×Unit):=itr Ym3 prog 115 F116 n 3 (x0,x1,())
theorem Z06 a0:Eq (Zmk a0)<|Zda fuel a0 0:=mkE
theorem Zml n x0 x1:Eq (Zda (n+1) x0 x1)<|bif x1<ofNat x0.length then ix x0 x1 λe0=>bif e0.1<0 then some (false,())else ix x0 x1 λe1=>bif e1.1>=3 then some (false,())else ix x0 x1 λe2=>(Zhk e2.2).bind λe3=>bif !e3.1 then some (false,())else Zda n x0 (wrap .i64 (x1+1))else some (true,()):=mkI
def Ym4:Tb:=[]
def F115:TFun:=⟨[2],[(2,qc [qn 1,[.boxN 56 9 [.any,.any,.any,.any,.p (.sl Vq10),.p (.sl Vq1),.p (.sl Vq7),.p (.sl Vq3),.p (.sl Vq8)]],qn 1,qi,qi,qi,qi,qi,qn 61])],[.a Vq2],[.c (.p db)],qc [qn 2,qb,qn 66],[],[],0⟩
def Ydj:=mkC Ym4 prog 114 F115
theorem Yzu:Ydj.ok prog 114:=mkO trivial
def Zpn(a0:Vy3):Option (Bool×Unit):=Ydj.fn (a0,())
def Xu(n:Nat)(x0:Vy7)(x1:(List Vy1))(x2:(List Vy5))(x3:(List Vy2))(x4:Vy6)(x5 x6 x7 x8 x9:Int):Option (Bool×Unit):=itr Ym4 prog 114 F115 n 2 (x0,x1,x2,x3,x4,x5,x6,x7,x8,x9,())
theorem Z5s a0:Eq (Zpn a0)<|bif a0.1==1 then Xu fuel a0.2.2.2.2.1 a0.2.2.2.2.2.1 a0.2.2.2.2.2.2.1 a0.2.2.2.2.2.2.2.1 a0.2.2.2.2.2.2.2.2.1 0 0 60 0 0 else bif a0.1==2 then Xu fuel a0.2.2.2.2.1 a0.2.2.2.2.2.1 a0.2.2.2.2.2.2.1 a0.2.2.2.2.2.2.2.1 a0.2.2.2.2.2.2.2.2.1 1 0 0 0 0 else bif a0.1==3 then Xu fuel a0.2.2.2.2.1 a0.2.2.2.2.2.1 a0.2.2.2.2.2.2.1 a0.2.2.2.2.2.2.2.1 a0.2.2.2.2.2.2.2.2.1 0 0 0 0 0 else bif a0.1==4 then Xu fuel a0.2.2.2.2.1 a0.2.2.2.2.2.1 a0.2.2.2.2.2.2.1 a0.2.2.2.2.2.2.2.1 a0.2.2.2.2.2.2.2.2.1 (tmm false 4 (tmm true 1 (ofNat a0.2.2.2.2.1.length))) (ofNat a0.2.2.2.2.2.1.length) 0 0 0 else bif a0.1==5 then Xu fuel a0.2.2.2.2.1 a0.2.2.2.2.2.1 a0.2.2.2.2.2.2.1 a0.2.2.2.2.2.2.2.1 a0.2.2.2.2.2.2.2.2.1 2 (ofNat a0.2.2.2.2.2.1.length) 0 0 0 else bif a0.1==6 then Xu fuel a0.2.2.2.2.1 a0.2.2.2.2.2.1 a0.2.2.2.2.2.2.1 a0.2.2.2.2.2.2.2.1 a0.2.2.2.2.2.2.2.2.1 0 0 0 4000 0 else bif a0.1==7 then Xu fuel a0.2.2.2.2.1 a0.2.2.2.2.2.1 a0.2.2.2.2.2.2.1 a0.2.2.2.2.2.2.2.1 a0.2.2.2.2.2.2.2.2.1 0 0 0 0 4000 else some (false,()):=mkE
theorem Z07 n x0 x1 x2 x3 x4 x5 x6 x7 x8 x9:Eq (Xu (n+1) x0 x1 x2 x3 x4 x5 x6 x7 x8 x9)<|let k1:=some (false,());bif ofNat x0.length==x5 then bif ofNat x1.length<=x6 then bif ofNat x2.length<=x7 then bif ofNat x3.length<=x8 then some (decide (ofNat x4.length<=x9),())else k1 else k1 else k1 else k1:=mkI
def Ytz:Tb:=[(114,Ydj),(115,Ydi),(116,Ydh),(117,Yde)]
def F53:TFun:=⟨[],[(13,qc [qn 1,[.boxN 56 9 [.p (.int .u8),.any,.any,.any,.any,.p (.sl Vq1),.any,.any,.any]],qn 1,qi,qn 68])],[.a Vq2],[.c (.p di)],qc [qn 2,qi,qn 69],[],[],0⟩
def Ym5:=mkC Ytz prog 52 F53
theorem ok53:Ym5.ok prog 52:=mkO ⟨Yzu,Yzt,Yzs,Yzp,trivial⟩
def Zhl(a0:Vy3):Option (Int×Unit):=Ym5.fn (a0,())
def Zb4(n:Nat)(x0:Int)(x1:(List Vy1))(x2:Int):Option (Int×Unit):=itr Ytz prog 52 F53 n 13 (x0,x1,x2,())
theorem Z08 a0:Eq (Zhl a0)<|let k1:Option (Int×Unit):=some (8,());bif a0.2.2.1<0 then k1 else bif a0.2.2.1>=20 then k1 else bif ofNat a0.2.2.2.1.length>4000 then k1 else bif a0.2.1<0 then k1 else bif a0.2.1>=4 then k1 else(Zpn a0).bind λe0=>bif !e0.1 then k1 else(Zmk a0.2.2.2.1).bind λe1=>bif !e1.1 then k1 else(Zmh a0).bind λe2=>bif !e2.1 then k1 else(Zmc a0.2.2.2.2.2.1).bind λe3=>bif e3.1 !=0 then k1 else Zb4 fuel a0.1 a0.2.2.2.2.2.1 0:=mkE
theorem Zkd n x0 x1 x2:Eq (Zb4 (n+1) x0 x1 x2)<|bif x2<ofNat x1.length then let k1:=Zb4 n x0 x1 (wrap .i64 (x2+1));bif x0==4 then ix x1 x2 λe0=>bif e0.2.2.2.2.2.2.2.1 !=0 then some (8,())else k1 else k1 else some (0,()):=mkI
end
end Tg
