import Derived.Test.YtpjpjpbaikghbaaGreatDoorSVT
set_option linter.all false
/- Functions of the code, told plainly and checked by the kernel. -/
set_option maxRecDepth 100000
namespace Tg
noncomputable section
open Go.Abs hiding fuel
open Go.Proofs.Tryz (prog)
open Int (ofNat toNat)
open Go.IntKind (wrap)
abbrev Zpa:List Go.Abs.SC:=[.p (.sl Vq11),.p (.sl Vq3)]
abbrev Yl9:List Go.Abs.SC:=[.any,.any,.any,.any,.any,.any,.p (.sl Vq7),.p (.sl Vq3),.p (.sl Vq8)]
abbrev Yma:List Go.Abs.SC:=[.any,.any,.any,.any,.any,.any,.any,.p (.sl Vq3),.p (.sl Vq8)]
def Yvq:Tb:=[]
def F172:TFun:=⟨[],[],[.c di,.c di,.c di],[.c (.p db)],qc [qn 6,qb,qn 8],[],[],0⟩
def Yco:=mkC Yvq prog 172 F172
theorem Yym:Yco.ok prog 172:=mkO trivial
def Qp(a0 a1 a2:Int):Option (Bool×Unit):=Yco.fn (a0,a1,a2,())
theorem Ztz a0 a1 a2:Eq (Qp a0 a1 a2)<|bif a0>=a1 then some (decide (a0<=a2),())else some (false,()):=mkE
def Yvr:Tb:=[(172,Yco)]
def F110:TFun:=⟨[],[],[.c (.int .u8),.c di,.c di],[.c (.p db)],qc [qn 6,qb,qn 59],[],[],0⟩
def Ycp:=mkC Yvr prog 110 F110
theorem Yyn:Ycp.ok prog 110:=mkO ⟨Yym,trivial⟩
def Zpb(a0 a1 a2:Int):Option (Bool×Unit):=Ycp.fn (a0,a1,a2,())
theorem Z47 a0 a1 a2:Eq (Zpb a0 a1 a2)<|let k1:=some (false,());bif a0==1 then bif a1==0 then some (a2==1,())else k1 else bif a0==2 then bif a1==1 then match Qp a2 1 2 with|none=>none|some e0=>some (e0.1,())else k1 else bif a0==3 then bif a1==1 then match Qp a2 1 3 with|none=>none|some e0=>some (e0.1,())else k1 else bif a0==4 then match Qp a1 1 4 with|none=>none|some e0=>bif e0.1 then some (a2==1,())else k1 else bif a0==5 then bif a1==2 then some (a2==1,())else k1 else bif a0==6 then match Qp a1 1 3 with|none=>none|some e0=>bif e0.1 then some (a2==0,())else k1 else bif a0==7 then match Qp a1 1 4 with|none=>none|some e0=>bif e0.1 then some (a2==0,())else k1 else k1:=mkE
def Ymb:Tb:=[]
def F107:TFun:=⟨[],[(4,qc [qn 1,qi,[.boxN 31 2 [.any,.p (.sl Vq3)]],qn 2,[.boxN 89 5 [.p di,.p di,.p di,.p di,.any]],qi,qn 49])],[.a [.sl Vq11,.sl Vq3],.c di],[.c (.p db)],qc [qn 4,qb,qn 51],[],[],0⟩
def Ycq:=mkC Ymb prog 107 F107
theorem Yyo:Ycq.ok prog 107:=mkO trivial
def Zls(a0:(List Vy9×List Vy2×Unit))(a1:Int):Option (Bool×Unit):=Ycq.fn (a0,a1,())
def Zc4(n:Nat)(x0:Int)(x1:(List Vy2))(x2 x3 x4 x5 x6:Int):Option (Bool×Unit):=itr Ymb prog 107 F107 n 4 (x0,x1,x2,x3,x4,x5,x6,())
theorem Z0c a0 a1:Eq (Zls a0 a1)<|bif 0<=a1 then match a0.2.1[a1.toNat]? with|none=>none|some e0=>Zc4 fuel a1 a0.2.1 e0.1 e0.2.1 e0.2.2.1 e0.2.2.2.1 0 else none:=mkE
theorem Zlt n x0 x1 x2 x3 x4 x5 x6:Eq (Zc4 (n+1) x0 x1 x2 x3 x4 x5 x6)<|bif x6<x0 then bif 0<=x6 then match x1[x6.toNat]? with|none=>none|some e0=>bif e0.1>x2 then some (false,())else let k1:=let k3:=Zc4 n x0 x1 x2 x3 x4 x5 (wrap .i64 (x6+1));bif e0.2.2.1==x4 then bif e0.2.2.2.1==x5 then some (false,())else k3 else k3;bif e0.1==x2 then bif e0.2.1>=x3 then some (false,())else k1 else k1 else none else some (true,()):=mkI
def Ymc:Tb:=[]
def F108:TFun:=⟨[],[(4,qc [qn 1,qi,[.boxN 31 2 [.any,.p (.sl Vq3)]],qn 2,qi,qi,qn 18])],[.a [.sl Vq11,.sl Vq3],.c di],[.c (.p di)],qc [qn 4,qi,qn 20],[],[],0⟩
def Ycr:=mkC Ymc prog 108 F108
theorem Yyp:Ycr.ok prog 108:=mkO trivial
def Zee(a0:(List Vy9×List Vy2×Unit))(a1:Int):Option (Int×Unit):=Ycr.fn (a0,a1,())
def Q6(n:Nat)(x0:Int)(x1:(List Vy2))(x2 x3:Int):Option (Int×Unit):=itr Ymc prog 108 F108 n 4 (x0,x1,x2,x3,())
theorem Zt0 a0 a1:Eq (Zee a0 a1)<|Q6 fuel a1 a0.2.1 0 0:=mkE
theorem Zh8 n x0 x1 x2 x3:Eq (Q6 (n+1) x0 x1 x2 x3)<|bif x3<ofNat x1.length then bif 0<=x3 then match x1[x3.toNat]? with|none=>none|some e0=>bif e0.1==x0 then Q6 n x0 x1 (wrap .i64 (x2+1)) (wrap .i64 (x3+1))else Q6 n x0 x1 x2 (wrap .i64 (x3+1))else none else some (x2,()):=mkI
def Ymd:Tb:=[]
def F109:TFun:=⟨[],[(4,qc [qn 1,qi,[.boxN 31 2 [.any,.p (.sl Vq3)]],qn 2,qi,qi,qn 18])],[.a [.sl Vq11,.sl Vq3],.c di],[.c (.p di)],qc [qn 4,qi,qn 20],[],[],0⟩
def Ycs:=mkC Ymd prog 109 F109
theorem Yyq:Ycs.ok prog 109:=mkO trivial
def Zfg(a0:(List Vy9×List Vy2×Unit))(a1:Int):Option (Int×Unit):=Ycs.fn (a0,a1,())
def Zao(n:Nat)(x0:Int)(x1:(List Vy2))(x2 x3:Int):Option (Int×Unit):=itr Ymd prog 109 F109 n 4 (x0,x1,x2,x3,())
theorem Zxd a0 a1:Eq (Zfg a0 a1)<|Zao fuel a1 a0.2.1 0 0:=mkE
theorem Zjs n x0 x1 x2 x3:Eq (Zao (n+1) x0 x1 x2 x3)<|bif x3<ofNat x1.length then bif 0<=x3 then match x1[x3.toNat]? with|none=>none|some e0=>bif e0.2.2.1==x0 then Zao n x0 x1 (wrap .i64 (x2+1)) (wrap .i64 (x3+1))else Zao n x0 x1 x2 (wrap .i64 (x3+1))else none else some (x2,()):=mkI
def Yct:Tb:=[]
def F111:TFun:=⟨[],[(4,qc [qn 1,qi,[.boxN 31 2 Zpa],qn 2,[.c (.rowN 4 1 [.bool])],qi,qn 41]),(9,qc [qn 1,qi,[.boxN 31 2 Zpa],qn 2,[.c (.rowN 4 1 [.bool])],qi,qi,qn 40])],[.a [.sl Vq11,.sl Vq3],.c di],[.c (.s 4 1 [.bool])],qc [qn 4,[.c (.rowN 4 1 [.bool])],qn 43],[],[],0⟩
def Zxe:=mkC Yct prog 111 F111
theorem Yyr:Zxe.ok prog 111:=mkO trivial
def Ygh:TCon:=⟨Zxe.args,[.c (.p (.sl [.bool]))],Zxe.fn⟩
theorem Yvs:Ygh.ok prog 111:=TCon.frz (c:=Zxe) Yyr rfl
def Zhr(a0:(List Vy9×List Vy2×Unit))(a1:Int):Option (List (Bool×Unit)×Unit):=Zxe.fn (a0,a1,())
def Q7(n:Nat)(x0:Int)(x1:(List Vy9))(x2:(List Vy2))(x3:(List (Bool×Unit)))(x4:Int):Option (List (Bool×Unit)×Unit):=itr Yct prog 111 F111 n 4 (x0,x1,x2,x3,x4,())
def Xy(n:Nat)(x0:Int)(x1:(List Vy9))(x2:(List Vy2))(x3:(List (Bool×Unit)))(x4 x5:Int):Option (List (Bool×Unit)×Unit):=itr Yct prog 111 F111 n 9 (x0,x1,x2,x3,x4,x5,())
theorem Zt1 a0 a1:Eq (Zhr a0 a1)<|bif decide (toNat (ofNat a0.1.length)<=toNat (ofNat a0.1.length))&&(decide (1*toNat (ofNat a0.1.length)<=281474976710656)&&decide (toNat (ofNat a0.1.length)<=9223372036854775807))then Q7 fuel a1 a0.1 a0.2.1 (List.replicate (toNat (ofNat a0.1.length)) (false,())) 0 else none:=mkE
theorem Zh9 n x0 x1 x2 x3 x4:Eq (Q7 (n+1) x0 x1 x2 x3 x4)<|bif x4<=ofNat x1.length then Xy n x0 x1 x2 x3 x4 0 else some (x3,()):=mkI
theorem Zia n x0 x1 x2 x3 x4 x5:Eq (Xy (n+1) x0 x1 x2 x3 x4 x5)<|bif x5<ofNat x2.length then bif 0<=x5 then match x2[x5.toNat]? with|none=>none|some e0=>bif e0.1==x0 then bif 0<=e0.2.2.1 then bif e0.2.2.1.toNat<x3.length then match x3[e0.2.2.1.toNat]? with|none=>none|some e1=>Xy n x0 x1 x2 (List.set x3 e0.2.2.1.toNat (true,e1.2)) x4 (wrap .i64 (x5+1))else none else none else bif 0<=e0.1 then bif e0.1.toNat<x3.length then match x3[e0.1.toNat]? with|none=>none|some e1=>bif e1.1 then bif 0<=e0.2.2.1 then bif e0.2.2.1.toNat<x3.length then match x3[e0.2.2.1.toNat]? with|none=>none|some e2=>Xy n x0 x1 x2 (List.set x3 e0.2.2.1.toNat (true,e2.2)) x4 (wrap .i64 (x5+1))else none else none else Xy n x0 x1 x2 x3 x4 (wrap .i64 (x5+1))else none else none else none else Q7 n x0 x1 x2 x3 (wrap .i64 (x4+1)):=mkI
def Z2s:Tb:=[(107,Ycq),(108,Ycr),(109,Ycs),(110,Ycp),(111,Ygh)]
def F51:TFun:=⟨[1,10],[(1,qc [qn 1,[.boxN 31 2 Zpa],qn 137]),(3,qc [qn 1,[.boxN 31 2 Zpa],qn 1,qi,qn 135]),(10,qc [qn 1,[.boxN 31 2 Zpa],qn 137]),(12,qc [qn 1,[.boxN 31 2 Zpa],qn 3,qi,qn 133]),(21,qc [qn 1,[.boxN 31 2 Zpa],qn 5,qi,qn 131])],[.a [.sl Vq11,.sl Vq3]],[.c (.p db)],qc [qn 2,qb,qn 136],[],[],0⟩
def Yme:=mkC Z2s prog 51 F51
theorem ok51:Yme.ok prog 51:=mkO ⟨Yyo,Yyp,Yyq,Yyn,Yvs,trivial⟩
def Zlu(a0:(List Vy9×List Vy2×Unit)):Option (Bool×Unit):=Yme.fn (a0,())
def Zlv(n:Nat)(x0:(List Vy9))(x1:(List Vy2)):Option (Bool×Unit):=itr Z2s prog 51 F51 n 1 (x0,x1,())
def Zc5(n:Nat)(x0:(List Vy9))(x1:(List Vy2))(x2:Int):Option (Bool×Unit):=itr Z2s prog 51 F51 n 3 (x0,x1,x2,())
def Zjt(n:Nat)(x0:(List Vy9))(x1:(List Vy2)):Option (Bool×Unit):=itr Z2s prog 51 F51 n 10 (x0,x1,())
def Zb1(n:Nat)(x0:(List Vy9))(x1:(List Vy2))(x2:Int):Option (Bool×Unit):=itr Z2s prog 51 F51 n 12 (x0,x1,x2,())
def Zb2(n:Nat)(x0:(List Vy9))(x1:(List Vy2))(x2:Int):Option (Bool×Unit):=itr Z2s prog 51 F51 n 21 (x0,x1,x2,())
theorem Z0d a0:Eq (Zlu a0)<|Zc5 fuel a0.1 a0.2.1 0:=mkE
theorem Zxf n x0 x1:Eq (Zlv (n+1) x0 x1)<|Zb1 n x0 x1 0:=mkI
theorem Zlw n x0 x1 x2:Eq (Zc5 (n+1) x0 x1 x2)<|bif x2<ofNat x1.length then bif 0<=x2 then match x1[x2.toNat]? with|none=>none|some e0=>let k1:=some (false,());bif e0.1<0 then k1 else bif e0.2.2.1<0 then k1 else bif e0.1>=ofNat x0.length then k1 else bif e0.2.2.1>=ofNat x0.length then k1 else bif e0.2.2.2.2.1<1 then k1 else bif e0.2.2.2.2.1>8 then k1 else Zc5 n x0 x1 (wrap .i64 (x2+1))else none else Zlv n x0 x1:=mkI
theorem Zt2 n x0 x1:Eq (Zjt (n+1) x0 x1)<|Zb2 n x0 x1 0:=mkI
theorem Zju n x0 x1 x2:Eq (Zb1 (n+1) x0 x1 x2)<|bif x2<ofNat x1.length then bif 0<=x2 then match x1[x2.toNat]? with|none=>none|some e0=>match Zls (x0,x1,()) x2 with|none=>none|some e1=>let k1:=some (false,());bif !e1.1 then k1 else bif e0.2.1<0 then k1 else match Zee (x0,x1,()) e0.1 with|none=>none|some e2=>bif e0.2.1>=e2.1 then k1 else bif e0.2.2.2.1<0 then k1 else match Zfg (x0,x1,()) e0.2.2.1 with|none=>none|some e3=>bif e0.2.2.2.1>=e3.1 then k1 else Zb1 n x0 x1 (wrap .i64 (x2+1))else none else Zjt n x0 x1:=mkI
theorem Zjv n x0 x1 x2:Eq (Zb2 (n+1) x0 x1 x2)<|bif x2<ofNat x0.length then bif 0<=x2 then match x0[x2.toNat]? with|none=>none|some e0=>let k1:=some (false,());bif e0.2.1<0 then k1 else bif e0.2.1>3 then k1 else match Zfg (x0,x1,()) x2 with|none=>none|some e1=>match Zee (x0,x1,()) x2 with|none=>none|some e2=>match Zpb e0.1 e1.1 e2.1 with|none=>none|some e3=>bif !e3.1 then k1 else match Zhr (x0,x1,()) x2 with|none=>none|some e4=>bif 0<=x2 then match e4.1[x2.toNat]? with|none=>none|some e5=>bif e5.1 then k1 else Zb2 n x0 x1 (wrap .i64 (x2+1))else none else none else some (true,()):=mkI
def Yys:Tb:=[(51,Yme)]
def F28:TFun:=⟨[],[],[.a [.sl Vq11,.sl Vq3]],[.c (.p di)],qc [qn 2,qi,qn 13],[],[],0⟩
def Ymf:=mkC Yys prog 28 F28
theorem ok28:Ymf.ok prog 28:=mkO ⟨ok51,trivial⟩
def Zg8(a0:(List Vy9×List Vy2×Unit)):Option (Int×Unit):=Ymf.fn (a0,())
theorem Z0e a0:Eq (Zg8 a0)<|bif ofNat a0.1.length>20 then some (4,())else bif ofNat a0.2.1.length>100 then some (4,())else match Zlu a0 with|none=>none|some e0=>bif !e0.1 then some (8,())else some (0,()):=mkE
def Yvt:Tb:=[]
def F112:TFun:=⟨[],[],[.a Vq8],[.c (.p db)],qc [qn 2,qb,qn 8],[],[],0⟩
def Zxg:=mkC Yvt prog 112 F112
theorem Ymg:Zxg.ok prog 112:=mkO trivial
def Zcj(a0:(Int×Int×Int×Unit)):Option (Bool×Unit):=Zxg.fn (a0,())
theorem Z0f a0:Eq (Zcj a0)<|bif a0.2.1>=(-1099511627776)then some (decide (a0.2.1<=1099511627776),())else some (false,()):=mkE
def Yvu:Tb:=[]
def F113:TFun:=⟨[],[],[.c di],[.c (.p db)],qc [qn 2,qb,qn 10],[],[],0⟩
def Zxh:=mkC Yvu prog 113 F113
theorem Ymh:Zxh.ok prog 113:=mkO trivial
def Zgd(a0:Int):Option (Bool×Unit):=Zxh.fn (a0,())
theorem Z48 a0:Eq (Zgd a0)<|let k1:=some (a0==9223372036854775807,());bif a0>=(-1099511627776)then bif a0<=1099511627776 then some (true,())else k1 else k1:=mkE
def Yvv:Tb:=[]
def F114:TFun:=⟨[],[],[.a Vq3],[.c (.p db)],qc [qn 2,qb,qn 19],[],[],0⟩
def Z49:=mkC Yvv prog 114 F114
theorem Yta:Z49.ok prog 114:=mkO trivial
def Znk(a0:Vy2):Option (Bool×Unit):=Z49.fn (a0,())
theorem Z8s a0:Eq (Znk a0)<|bif a0.2.1<a0.2.2.1 then bif a0.2.1>=(-2199023255552)then some (decide (a0.2.2.1<=2199023255552),())else some (false,())else some (false,()):=mkE
def Ytb:Tb:=[(112,Zxg),(113,Zxh),(114,Z49)]
def F52:TFun:=⟨[3],[(3,qc [qn 1,[.boxN 108 10 [.p (.int .u8),.p di,.p di,.p di,.p di,.p di,.p di,.p di,.p di,.p di]],qn 2,[.c (.p (.int .u8))],qb,qn 42])],[.a Vq4],[.c (.p db)],qc [qn 2,qb,qn 45],[],[],0⟩
def Ygi:=mkC Ytb prog 52 F52
theorem ok52:Ygi.ok prog 52:=mkO ⟨Ymg,Ymh,Yta,trivial⟩
def Zg9(a0:Vy4):Option (Bool×Unit):=Ygi.fn (a0,())
def Zge(n:Nat)(x0 x1 x2 x3 x4 x5 x6 x7 x8 x9 x10:Int)(x11:Bool):Option (Bool×Unit):=itr Ytb prog 52 F52 n 3 (x0,x1,x2,x3,x4,x5,x6,x7,x8,x9,x10,x11,())
theorem Z0g a0:Eq (Zg9 a0)<|bif a0.1==1 then Zge fuel a0.1 a0.2.1 a0.2.2.1 a0.2.2.2.1 a0.2.2.2.2.1 a0.2.2.2.2.2.1 a0.2.2.2.2.2.2.1 a0.2.2.2.2.2.2.2.1 a0.2.2.2.2.2.2.2.2.1 a0.2.2.2.2.2.2.2.2.2.1 a0.1 true else Zge fuel a0.1 a0.2.1 a0.2.2.1 a0.2.2.2.1 a0.2.2.2.2.1 a0.2.2.2.2.2.1 a0.2.2.2.2.2.2.1 a0.2.2.2.2.2.2.2.1 a0.2.2.2.2.2.2.2.2.1 a0.2.2.2.2.2.2.2.2.2.1 a0.1 (a0.1==4):=mkE
theorem Zxi n x0 x1 x2 x3 x4 x5 x6 x7 x8 x9 x10 x11:Eq (Zge (n+1) x0 x1 x2 x3 x4 x5 x6 x7 x8 x9 x10 x11)<|let k1:=some (false,());bif x11 then(Zcj (x1,x2,x3,())).bind λe0=>bif e0.1 then some ((x0==x0&&(x1==x1&&(x2==x2&&(x3==x3&&(x4==0&&(x5==0&&(x6==0&&(x7==0&&(x8==0&&(x9==0&&true))))))))),()))else k1 else bif x10==2 then(Zgd x4).bind λe0=>bif e0.1 then some ((x0==x0&&(x1==0&&(x2==0&&(x3==0&&(x4==x4&&(x5==0&&(x6==0&&(x7==0&&(x8==0&&(x9==0&&true))))))))),()))else k1 else bif x10==3 then(Znk (x5,x6,x7,x8,x9,())).bind λe0=>bif e0.1 then some ((x0==x0&&(x1==0&&(x2==0&&(x3==0&&(x4==0&&(x5==x5&&(x6==x6&&(x7==x7&&(x8==x8&&(x9==x9&&true))))))))),()))else k1 else k1:=mkI
def Ytc:Tb:=[(52,Ygi)]
def F29:TFun:=⟨[],[(6,qc [qn 1,[.boxN 75 2 [.any,.p (.sl Vq4)]],qn 1,qi,qn 30])],[.a [.int .i64,.sl Vq4]],[.c (.p di)],qc [qn 2,qi,qn 31],[],[],0⟩
def Ymi:=mkC Ytc prog 29 F29
theorem ok29:Ymi.ok prog 29:=mkO ⟨ok52,trivial⟩
def Zlx(a0:(Int×List Vy4×Unit)):Option (Int×Unit):=Ymi.fn (a0,())
def Zc6(n:Nat)(x0:(List Vy4))(x1:Int):Option (Int×Unit):=itr Ytc prog 29 F29 n 6 (x0,x1,())
theorem Z0h a0:Eq (Zlx a0)<|bif a0.1<1 then some (8,())else bif a0.1>8 then some (8,())else bif ofNat a0.2.1.length>a0.1 then some (8,())else Zc6 fuel a0.2.1 0:=mkE
theorem Zly n x0 x1:Eq (Zc6 (n+1) x0 x1)<|bif x1<ofNat x0.length then ix x0 x1 λe0=>(Zg9 e0).bind λe1=>bif !e1.1 then some (8,())else Zc6 n x0 (wrap .i64 (x1+1))else some (0,()):=mkI
def Ymj:Tb:=[]
def F175:TFun:=⟨[2],[(2,qc [qn 1,[.boxN 143 4 [.p di,.p di,.p di,.p di]],qn 1,qb,qn 49])],[.a [.int .i64,.int .i64,.int .i64,.int .i64]],[.c (.p di)],qc [qn 2,qi,qn 50],[],[],0⟩
def Ycu:=mkC Ymj prog 175 F175
theorem Yyt:Ycu.ok prog 175:=mkO trivial
def Xu(a0:(Int×Int×Int×Int×Unit)):Option (Int×Unit):=Ycu.fn (a0,())
def Zgf(n:Nat)(x0 x1 x2 x3:Int)(x4:Bool):Option (Int×Unit):=itr Ymj prog 175 F175 n 2 (x0,x1,x2,x3,x4,())
theorem Z0i a0:Eq (Xu a0)<|bif a0.1<0 then Zgf fuel a0.1 a0.2.1 a0.2.2.1 a0.2.2.2.1 true else Zgf fuel a0.1 a0.2.1 a0.2.2.1 a0.2.2.2.1 (decide (a0.1>1073741824)):=mkE
theorem Zxj n x0 x1 x2 x3 x4:Eq (Zgf (n+1) x0 x1 x2 x3 x4)<|bif x4 then some (8,())else let k1:Option (Int×Unit):=let k3:Option (Int×Unit):=bif x2>x3 then some (8,())else some (0,());bif x0==1 then bif x1 !=x2 then some (8,())else bif x2 !=x3 then some (8,())else k3 else k3;bif x0==0 then bif x1 !=0 then some (8,())else bif x2 !=0 then some (8,())else bif x3 !=0 then some (8,())else k1 else k1:=mkI
def Yvw:Tb:=[]
def F176:TFun:=⟨[],[],[.a Vq1,.a Vq1],[.c (.p db)],qc [qn 4,qb,qn 33],[],[],0⟩
def Ycv:=mkC Yvw prog 176 F176
theorem Yyu:Ycv.ok prog 176:=mkO trivial
def Zi3(a0 a1:Vy1):Option (Bool×Unit):=Ycv.fn (a0,a1,())
theorem Z5a a0 a1:Eq (Zi3 a0 a1)<|bif a0.2.2.1 !=a1.2.2.1 then some (decide (a0.2.2.1<a1.2.2.1),())else bif a0.2.1 !=a1.2.1 then some (decide (a0.2.1<a1.2.1),())else some (decide (a0.1<a1.1),()):=mkE
def Ymk:Tb:=[(175,Ycu),(176,Ycv)]
def F118:TFun:=⟨[],[(6,qc [[.c (.p (.sl Vq1))],qn 2,qi,qn 81])],[.c (.sl Vq1)],[.c (.p di)],qc [qn 2,qi,qn 82],[],[],0⟩
def Ycw:=mkC Ymk prog 118 F118
theorem Yyv:Ycw.ok prog 118:=mkO ⟨Yyt,Yyu,trivial⟩
def Zlz(a0:(List Vy1)):Option (Int×Unit):=Ycw.fn (a0,())
def X7(n:Nat)(x0:(List Vy1))(x1:Int):Option (Int×Unit):=itr Ymk prog 118 F118 n 6 (x0,x1,())
theorem Z0j a0:Eq (Zlz a0)<|bif ofNat a0.length>4000 then some (4,())else X7 fuel a0 0:=mkE
theorem Zl0 n x0 x1:Eq (X7 (n+1) x0 x1)<|bif x1<ofNat x0.length then ix x0 x1 λe0=>bif e0.2.1>=(-1100585369600)then bif e0.2.1<e0.2.2.1 then(Xu (e0.2.2.2.1,e0.2.2.2.2.1,e0.2.2.2.2.2.1,e0.2.2.2.2.2.2.1,())).bind λe1=>bif e1.1==0 then(Xu e0.2.2.2.2.2.2.2).bind λe2=>bif !decide (e0.2.2.1<=1100585369600)then some (8,())else bif !e2.1==0 then some (8,())else let k1:Option (Int×Unit):=let k3:=X7 n x0 (wrap .i64 (x1+1));bif x1>0 then ix x0 (wrap .i64 (x1-1)) λe3=>(Zi3 e3 e0).bind λe4=>bif !e4.1 then some (8,())else k3 else k3;bif e0.2.2.2.1==0 then bif e0.2.2.2.2.2.2.2.1==0 then some (8,())else k1 else k1 else bif !decide (e0.2.2.1<=1100585369600)then some (8,())else some (8,())else(Xu (e0.2.2.2.1,e0.2.2.2.2.1,e0.2.2.2.2.2.1,e0.2.2.2.2.2.2.1,())).bind λe1=>bif e1.1==0 then(Xu e0.2.2.2.2.2.2.2).bind λe2=>some (8,())else some (8,())else(Xu (e0.2.2.2.1,e0.2.2.2.2.1,e0.2.2.2.2.2.1,e0.2.2.2.2.2.2.1,())).bind λe1=>bif e1.1==0 then(Xu e0.2.2.2.2.2.2.2).bind λe2=>some (8,())else some (8,())else some (0,()):=mkI
def Yvx:Tb:=[(113,Zxh)]
def F173:TFun:=⟨[],[],[.c di],[.c (.p db)],qc [qn 2,qb,qn 6],[],[],0⟩
def Ycx:=mkC Yvx prog 173 F173
theorem Yyw:Ycx.ok prog 173:=mkO ⟨Ymh,trivial⟩
def Zl1(a0:Int):Option (Bool×Unit):=Ycx.fn (a0,())
theorem Z0k a0:Eq (Zl1 a0)<|bif a0==(-9223372036854775808)then some (true,())else(Zgd a0).bind λe0=>some (e0.1,()):=mkE
def Yvy:Tb:=[(113,Zxh),(112,Zxg)]
def F174:TFun:=⟨[],[],[.a Vq7],[.c (.p di)],qc [qn 2,qi,qn 28],[],[],0⟩
def Ycy:=mkC Yvy prog 174 F174
theorem Yyx:Ycy.ok prog 174:=mkO ⟨Ymh,Ymg,trivial⟩
def Zl2(a0:Vy5):Option (Int×Unit):=Ycy.fn (a0,())
theorem Z0l a0:Eq (Zl2 a0)<|bif a0.1 then(Zgd a0.2.1).bind λe0=>let k1:Option (Int×Unit):=bif !a0.1 then bif a0.2.1==0 then(Zcj a0.2.2).bind λe1=>bif e1.1 then some (0,())else some (8,())else some (8,())else some (8,());bif e0.1 then bif a0.2.2.1==0&&(a0.2.2.2.1==0&&(a0.2.2.2.2.1==0&&true))then some (0,())else k1 else k1 else bif !a0.1 then bif a0.2.1==0 then(Zcj a0.2.2).bind λe0=>bif e0.1 then some (0,())else some (8,())else some (8,())else some (8,()):=mkE
def Zl3:Tb:=[(173,Ycx),(174,Ycy),(114,Z49),(112,Zxg)]
def F117:TFun:=⟨[1,10,19],[(1,qc [qn 1,[.boxN 59 9 Yl9],qn 61]),(3,qc [qn 1,[.boxN 59 9 [.any,.any,.any,.any,.p (.sl Vq10),.any,.p (.sl Vq7),.p (.sl Vq3),.p (.sl Vq8)]],qn 1,qi,qn 59]),(10,qc [qn 1,[.boxN 59 9 Yma],qn 61]),(12,qc [qn 1,[.boxN 59 9 Yl9],qn 2,qi,qn 58]),(19,qc [qn 1,[.boxN 59 9 [.any,.any,.any,.any,.any,.any,.any,.any,.p (.sl Vq8)]],qn 61]),(21,qc [qn 1,[.boxN 59 9 Yma],qn 3,qi,qn 57]),(30,qc [qn 1,[.boxN 59 9 [.any,.any,.any,.any,.any,.any,.any,.any,.p (.sl Vq8)]],qn 4,qi,qn 56])],[.a Vq2],[.c (.p db)],qc [qn 2,qb,qn 60],[],[],0⟩
def Ycz:=mkC Zl3 prog 117 F117
theorem Yyy:Ycz.ok prog 117:=mkO ⟨Yyw,Yyx,Yta,Ymg,trivial⟩
def Zl4(a0:Vy3):Option (Bool×Unit):=Ycz.fn (a0,())
def Zl5(n:Nat)(x0:(List Vy5))(x1:(List Vy2))(x2:Vy6):Option (Bool×Unit):=itr Zl3 prog 117 F117 n 1 (x0,x1,x2,())
def Za7(n:Nat)(x0:Vy7)(x1:(List Vy5))(x2:(List Vy2))(x3:Vy6)(x4:Int):Option (Bool×Unit):=itr Zl3 prog 117 F117 n 3 (x0,x1,x2,x3,x4,())
def Zjw(n:Nat)(x0:(List Vy2))(x1:Vy6):Option (Bool×Unit):=itr Zl3 prog 117 F117 n 10 (x0,x1,())
def Zap(n:Nat)(x0:(List Vy5))(x1:(List Vy2))(x2:Vy6)(x3:Int):Option (Bool×Unit):=itr Zl3 prog 117 F117 n 12 (x0,x1,x2,x3,())
def Zjx(n:Nat)(x0:Vy6):Option (Bool×Unit):=itr Zl3 prog 117 F117 n 19 (x0,())
def Zaq(n:Nat)(x0:(List Vy2))(x1:Vy6)(x2:Int):Option (Bool×Unit):=itr Zl3 prog 117 F117 n 21 (x0,x1,x2,())
def Zar(n:Nat)(x0:Vy6)(x1:Int):Option (Bool×Unit):=itr Zl3 prog 117 F117 n 30 (x0,x1,())
theorem Z0m a0:Eq (Zl4 a0)<|Za7 fuel a0.2.2.2.2.1 a0.2.2.2.2.2.2.1 a0.2.2.2.2.2.2.2.1 a0.2.2.2.2.2.2.2.2.1 0:=mkE
theorem Zxk n x0 x1 x2:Eq (Zl5 (n+1) x0 x1 x2)<|Zap n x0 x1 x2 0:=mkI
theorem Zl6 n x0 x1 x2 x3 x4:Eq (Za7 (n+1) x0 x1 x2 x3 x4)<|bif x4<ofNat x0.length then ix x0 x4 λe0=>(Zl1 e0.1).bind λe1=>bif !e1.1 then some (false,())else Za7 n x0 x1 x2 x3 (wrap .i64 (x4+1))else Zl5 n x1 x2 x3:=mkI
theorem Zt3 n x0 x1:Eq (Zjw (n+1) x0 x1)<|Zaq n x0 x1 0:=mkI
theorem Zjy n x0 x1 x2 x3:Eq (Zap (n+1) x0 x1 x2 x3)<|bif x3<ofNat x0.length then ix x0 x3 λe0=>(Zl2 e0).bind λe1=>bif e1.1 !=0 then some (false,())else Zap n x0 x1 x2 (wrap .i64 (x3+1))else Zjw n x1 x2:=mkI
theorem Zt4 n x0:Eq (Zjx (n+1) x0)<|Zar n x0 0:=mkI
theorem Zjz n x0 x1 x2:Eq (Zaq (n+1) x0 x1 x2)<|bif x2<ofNat x0.length then ix x0 x2 λe0=>(Znk e0).bind λe1=>bif !e1.1 then some (false,())else Zaq n x0 x1 (wrap .i64 (x2+1))else Zjx n x1:=mkI
theorem Zj0 n x0 x1:Eq (Zar (n+1) x0 x1)<|bif x1<ofNat x0.length then ix x0 x1 λe0=>(Zcj e0).bind λe1=>bif !e1.1 then some (false,())else Zar n x0 (wrap .i64 (x1+1))else some (true,()):=mkI
def Yml:Tb:=[(52,Ygi)]
def F116:TFun:=⟨[],[(3,qc [[.c (.p (.sl Vq6))],qn 2,qi,qn 29])],[.c (.sl Vq6)],[.c (.p db)],qc [qn 2,qb,qn 30],[],[],0⟩
def Yc0:=mkC Yml prog 116 F116
theorem Yyz:Yc0.ok prog 116:=mkO ⟨ok52,trivial⟩
def Zl7(a0:(List Vy1)):Option (Bool×Unit):=Yc0.fn (a0,())
def Zc7(n:Nat)(x0:(List Vy1))(x1:Int):Option (Bool×Unit):=itr Yml prog 116 F116 n 3 (x0,x1,())
theorem Z0n a0:Eq (Zl7 a0)<|Zc7 fuel a0 0:=mkE
theorem Zl8 n x0 x1:Eq (Zc7 (n+1) x0 x1)<|bif x1<ofNat x0.length then ix x0 x1 λe0=>bif e0.1<0 then some (false,())else ix x0 x1 λe1=>bif e1.1>=3 then some (false,())else ix x0 x1 λe2=>(Zg9 e2.2).bind λe3=>bif !e3.1 then some (false,())else Zc7 n x0 (wrap .i64 (x1+1))else some (true,()):=mkI
def Ymm:Tb:=[]
def F115:TFun:=⟨[2],[(2,qc [qn 1,[.boxN 59 9 [.any,.any,.any,.any,.p (.sl Vq10),.p (.sl Vq1),.p (.sl Vq7),.p (.sl Vq3),.p (.sl Vq8)]],qn 1,qi,qi,qi,qi,qi,qn 61])],[.a Vq2],[.c (.p db)],qc [qn 2,qb,qn 66],[],[],0⟩
def Yc1:=mkC Ymm prog 115 F115
theorem Yy0:Yc1.ok prog 115:=mkO trivial
def Zpc(a0:Vy3):Option (Bool×Unit):=Yc1.fn (a0,())
def Xv(n:Nat)(x0:Vy7)(x1:(List Vy1))(x2:(List Vy5))(x3:(List Vy2))(x4:Vy6)(x5 x6 x7 x8 x9:Int):Option (Bool×Unit):=itr Ymm prog 115 F115 n 2 (x0,x1,x2,x3,x4,x5,x6,x7,x8,x9,())
theorem Z5b a0:Eq (Zpc a0)<|bif a0.1==1 then Xv fuel a0.2.2.2.2.1 a0.2.2.2.2.2.1 a0.2.2.2.2.2.2.1 a0.2.2.2.2.2.2.2.1 a0.2.2.2.2.2.2.2.2.1 0 0 60 0 0 else bif a0.1==2 then Xv fuel a0.2.2.2.2.1 a0.2.2.2.2.2.1 a0.2.2.2.2.2.2.1 a0.2.2.2.2.2.2.2.1 a0.2.2.2.2.2.2.2.2.1 1 0 0 0 0 else bif a0.1==3 then Xv fuel a0.2.2.2.2.1 a0.2.2.2.2.2.1 a0.2.2.2.2.2.2.1 a0.2.2.2.2.2.2.2.1 a0.2.2.2.2.2.2.2.2.1 0 0 0 0 0 else bif a0.1==4 then Xv fuel a0.2.2.2.2.1 a0.2.2.2.2.2.1 a0.2.2.2.2.2.2.1 a0.2.2.2.2.2.2.2.1 a0.2.2.2.2.2.2.2.2.1 (tmm false 4 (tmm true 1 (ofNat a0.2.2.2.2.1.length))) (ofNat a0.2.2.2.2.2.1.length) 0 0 0 else bif a0.1==5 then Xv fuel a0.2.2.2.2.1 a0.2.2.2.2.2.1 a0.2.2.2.2.2.2.1 a0.2.2.2.2.2.2.2.1 a0.2.2.2.2.2.2.2.2.1 2 (ofNat a0.2.2.2.2.2.1.length) 0 0 0 else bif a0.1==6 then Xv fuel a0.2.2.2.2.1 a0.2.2.2.2.2.1 a0.2.2.2.2.2.2.1 a0.2.2.2.2.2.2.2.1 a0.2.2.2.2.2.2.2.2.1 0 0 0 4000 0 else bif a0.1==7 then Xv fuel a0.2.2.2.2.1 a0.2.2.2.2.2.1 a0.2.2.2.2.2.2.1 a0.2.2.2.2.2.2.2.1 a0.2.2.2.2.2.2.2.2.1 0 0 0 0 4000 else some (false,()):=mkE
theorem Z0o n x0 x1 x2 x3 x4 x5 x6 x7 x8 x9:Eq (Xv (n+1) x0 x1 x2 x3 x4 x5 x6 x7 x8 x9)<|let k1:=some (false,());bif ofNat x0.length==x5 then bif ofNat x1.length<=x6 then bif ofNat x2.length<=x7 then bif ofNat x3.length<=x8 then some (decide (ofNat x4.length<=x9),())else k1 else k1 else k1 else k1:=mkI
def Ytd:Tb:=[(115,Yc1),(116,Yc0),(117,Ycz),(118,Ycw)]
def F53:TFun:=⟨[],[(13,qc [qn 1,[.boxN 59 9 [.p (.int .u8),.any,.any,.any,.any,.p (.sl Vq1),.any,.any,.any]],qn 1,qi,qn 68])],[.a Vq2],[.c (.p di)],qc [qn 2,qi,qn 69],[],[],0⟩
def Ymn:=mkC Ytd prog 53 F53
theorem ok53:Ymn.ok prog 53:=mkO ⟨Yy0,Yyz,Yyy,Yyv,trivial⟩
def Zha(a0:Vy3):Option (Int×Unit):=Ymn.fn (a0,())
def Zb3(n:Nat)(x0:Int)(x1:(List Vy1))(x2:Int):Option (Int×Unit):=itr Ytd prog 53 F53 n 13 (x0,x1,x2,())
theorem Z0p a0:Eq (Zha a0)<|let k1:Option (Int×Unit):=some (8,());bif a0.2.2.1<0 then k1 else bif a0.2.2.1>=20 then k1 else bif ofNat a0.2.2.2.1.length>4000 then k1 else bif a0.2.1<0 then k1 else bif a0.2.1>=4 then k1 else(Zpc a0).bind λe0=>bif !e0.1 then k1 else(Zl7 a0.2.2.2.1).bind λe1=>bif !e1.1 then k1 else(Zl4 a0).bind λe2=>bif !e2.1 then k1 else(Zlz a0.2.2.2.2.2.1).bind λe3=>bif e3.1 !=0 then k1 else Zb3 fuel a0.1 a0.2.2.2.2.2.1 0:=mkE
theorem Zj1 n x0 x1 x2:Eq (Zb3 (n+1) x0 x1 x2)<|bif x2<ofNat x1.length then let k1:=Zb3 n x0 x1 (wrap .i64 (x2+1));bif x0==4 then ix x1 x2 λe0=>bif e0.2.2.2.2.2.2.2.1 !=0 then some (8,())else k1 else k1 else some (0,()):=mkI
end
end Tg
