import Derived.Test.YtpjpjpbaikghbaaGreatDoorSVT
set_option linter.all false
/- Functions of the code, told plainly and checked by the kernel. -/
set_option maxRecDepth 100000
namespace Tg
noncomputable section
open Go.Abs hiding fuel
open Go.Proofs.Tryz (prog)
open Int (ofNat toNat)
open Go.IntKind (wrap)
abbrev Ylz:List Go.Abs.SC:=[.any,.any,.any,.any,.any,.any,.any,.any,.any,.any,.any,.any,.any,.p (.sl [.int .i64,.sl Vq4])]
abbrev Yl0:List Go.Abs.SC:=[.any,.any,.any,.any,.p (.sl Vq10),.p (.sl Vq1),.p (.sl Vq7),.any,.any]
def Yl1:Tb:=[]
def F25:TFun:=⟨[2],[(2,qc [qn 1,[.boxN 59 9 Yl0],qn 54]),(4,qc [qn 1,[.boxN 59 9 Yl0],qn 1,[.c (.rowN 3 1 Vq10)],qi,qn 51])],[.a Vq2],[.c (.p db)],qc [qn 2,qb,qn 53],[],[],0⟩
def Yl2:=mkC Yl1 prog 25 F25
theorem ok25:Yl2.ok prog 25:=mkO trivial
def Zg3(a0:Vy3):Option (Bool×Unit):=Yl2.fn (a0,())
def Zlh(n:Nat)(x0:Vy7)(x1:(List Vy1))(x2:(List Vy5)):Option (Bool×Unit):=itr Yl1 prog 25 F25 n 2 (x0,x1,x2,())
def Zcz(n:Nat)(x0:Vy7)(x1:(List Vy1))(x2:(List Vy5))(x3:Vy7)(x4:Int):Option (Bool×Unit):=itr Yl1 prog 25 F25 n 4 (x0,x1,x2,x3,x4,())
theorem Zz0 a0:Eq (Zg3 a0)<|Zcz fuel a0.2.2.2.2.1 a0.2.2.2.2.2.1 a0.2.2.2.2.2.2.1 ([(ofNat a0.2.2.2.1.length,()),(ofNat a0.2.2.2.2.2.2.2.1.length,()),(ofNat a0.2.2.2.2.2.2.2.2.1.length,())]) 0:=mkE
theorem Zw6 n x0 x1 x2:Eq (Zlh (n+1) x0 x1 x2)<|bif ofNat x1.length>100 then some (true,())else bif ofNat x2.length>100 then some (true,())else some (decide (ofNat x0.length>20),()):=mkI
theorem Zli n x0 x1 x2 x3 x4:Eq (Zcz (n+1) x0 x1 x2 x3 x4)<|bif x4<ofNat x3.length then ixb x3 x4 λe0=>let k1:=Zcz n x0 x1 x2 x3 (wrap .i64 (x4+1));bif e0.1>100 then ixb x3 x4 λe1=>bif e1.1<3990 then some (true,())else ixb x3 x4 λe2=>bif e2.1>4010 then some (true,())else k1 else ixb x3 x4 λe1=>bif e1.1>4010 then some (true,())else k1 else Zlh n x0 x1 x2:=mkI
def Yx8:Tb:=[]
def F26:TFun:=⟨[],[],[.a [.int .i64,.sl Vq4]],[.c (.p db)],qc [qn 2,qb,qn 4],[],[],0⟩
def Yl3:=mkC Yx8 prog 26 F26
theorem ok26:Yl3.ok prog 26:=mkO trivial
def Zti(a0:(Int×List Vy4×Unit)):Option (Bool×Unit):=Yl3.fn (a0,())
theorem Zz1 a0:Eq (Zti a0)<|some (decide (ofNat a0.2.1.length>20),()):=mkE
def Ygf:Tb:=[(25,Yl2),(26,Yl3)]
def F13:TFun:=⟨[4],[(4,qc [qn 1,[.boxN 35 14 Ylz],qn 74]),(6,qc [qn 1,[.boxN 35 14 [.any,.any,.any,.any,.any,.any,.any,.any,.any,.any,.any,.any,.p (.sl Vq2),.p (.sl [.int .i64,.sl Vq4])]],qn 1,qi,qn 72]),(15,qc [qn 1,[.boxN 35 14 Ylz],qn 2,qi,qn 71])],[.a [.int .u8,.sl Vq5,.sl Vq10,.bool,.sl Vq5,.int .u8,.int .i64,.int .i64,.bool,.int .u8,.sl Vq11,.sl Vq3,.sl Vq2,.sl [.int .i64,.sl Vq4]]],[.c (.p db)],qc [qn 2,qb,qn 73],[],[],0⟩
def Yl4:=mkC Ygf prog 13 F13
theorem ok13:Yl4.ok prog 13:=mkO ⟨ok25,ok26,trivial⟩
def Zlj(a0:(Int×List Vy2×List (Int×Unit)×Bool×List Vy2×Int×Int×Int×Bool×Int×List Vy9×List Vy2×List Vy3×List (Int×List Vy4×Unit)×Unit)):Option (Bool×Unit):=Yl4.fn (a0,())
def Zlk(n:Nat)(x0:(List (Int×List Vy4×Unit))):Option (Bool×Unit):=itr Ygf prog 13 F13 n 4 (x0,())
def Zc0(n:Nat)(x0:(List Vy3))(x1:(List (Int×List Vy4×Unit)))(x2:Int):Option (Bool×Unit):=itr Ygf prog 13 F13 n 6 (x0,x1,x2,())
def Zb0(n:Nat)(x0:(List (Int×List Vy4×Unit)))(x1:Int):Option (Bool×Unit):=itr Ygf prog 13 F13 n 15 (x0,x1,())
theorem Zz2 a0:Eq (Zlj a0)<|let k1:=some (true,());bif ofNat a0.2.2.2.2.2.2.2.2.2.2.1.length>30 then k1 else bif ofNat a0.2.2.2.2.2.2.2.2.2.2.2.1.length>60 then k1 else bif ofNat a0.2.2.2.2.2.2.2.2.2.2.2.2.1.length>30 then k1 else bif ofNat a0.2.2.2.2.2.2.2.2.2.2.2.2.2.1.length>60 then k1 else bif ofNat a0.2.1.length>100 then k1 else bif ofNat a0.2.2.2.2.1.length>100 then k1 else bif ofNat a0.2.2.1.length>20 then k1 else Zc0 fuel a0.2.2.2.2.2.2.2.2.2.2.2.2.1 a0.2.2.2.2.2.2.2.2.2.2.2.2.2.1 0:=mkE
theorem Zw7 n x0:Eq (Zlk (n+1) x0)<|Zb0 n x0 0:=mkI
theorem Zll n x0 x1 x2:Eq (Zc0 (n+1) x0 x1 x2)<|bif x2<ofNat x0.length then ix x0 x2 λe0=>(Zg3 e0).bind λe1=>bif e1.1 then some (true,())else Zc0 n x0 x1 (wrap .i64 (x2+1))else Zlk n x1:=mkI
theorem Zjr n x0 x1:Eq (Zb0 (n+1) x0 x1)<|bif x1<ofNat x0.length then ix x0 x1 λe0=>(Zti e0).bind λe1=>bif e1.1 then some (true,())else Zb0 n x0 (wrap .i64 (x1+1))else some (false,()):=mkI
end
end Tg

/- Functions of the code, told plainly and checked by the kernel. -/
namespace Tg
noncomputable section
open Go.Abs hiding fuel
open Go.Proofs.Tryz (prog)
open Int (ofNat toNat)
open Go.IntKind (wrap)
def Yvg:Tb:=[]
def F244:TFun:=⟨[],[],[.c (.int .u8)],[.c (.p di)],qc [qn 2,qi,qn 4],[],[],0⟩
def Ycd:=mkC Yvg prog 244 F244
theorem Yx9:Ycd.ok prog 244:=mkO trivial
def Zlm(a0:Int):Option (Int×Unit):=Ycd.fn (a0,())
theorem Zz3 a0:Eq (Zlm a0)<|bif a0<=4 then some (0,())else bif a0<=6 then some (1,())else some (2,()):=mkE
def Yvh:Tb:=[]
def F245:TFun:=⟨[],[],[.a Vq5,.c di,.c di],[.c (.p db)],qc [qn 6,qb,qn 45],[],[],0⟩
def Yce:=mkC Yvh prog 245 F245
theorem Yya:Yce.ok prog 245:=mkO trivial
def Zln(a0:Vy2)(a1 a2:Int):Option (Bool×Unit):=Yce.fn (a0,a1,a2,())
theorem Zz4 a0 a1 a2:Eq (Zln a0 a1 a2)<|bif a0.1>=1 then bif a0.1<=19 then bif a0.2.1>=0 then let k1:=bif a0.2.2.2.2.1>=0 then bif a0.2.2.2.2.1<=400 then bif a0.2.2.1==a1 then some (a0.2.2.2.1==a2,())else some (false,())else some (false,())else some (false,());bif a0.2.1==0 then k1 else bif a0.1==1 then k1 else some (false,())else some (false,())else some (false,())else some (false,()):=mkE
def Z41:Tb:=[(244,Ycd),(245,Yce)]
def F213:TFun:=⟨[11,2],[(2,qc [[.c (.p (.sl Vq5))],qn 4,[.c (.rowN 3 1 Vq10)],[.c (.rowN 3 1 Vq10)],qn 95]),(4,qc [[.c (.p (.sl Vq5))],qn 4,[.c (.rowN 3 1 Vq10)],[.c (.rowN 3 1 Vq10)],qi,qn 94]),(11,qc [[.c (.p (.sl Vq5))],qn 4,[.c (.rowN 3 1 Vq10)],[.c (.rowN 3 1 Vq10)],qi,qi,qi,qi,qi,qn 90])],[.c (.sl Vq5)],[.c (.s 3 1 Vq10),.c (.s 3 1 Vq10),.c (.p db)],qc [qn 2,[.c (.rowN 3 1 Vq10)],[.c (.rowN 3 1 Vq10)],qb,qn 97],[],[],0⟩
def Zw8:=mkC Z41 prog 213 F213
theorem Yyb:Zw8.ok prog 213:=mkO ⟨Yx9,Yya,trivial⟩
def Ygg:TCon:=⟨Zw8.args,[.c (.p (.sl Vq10)),.c (.p (.sl Vq10)),.c (.p db)],Zw8.fn⟩
theorem Yvi:Ygg.ok prog 213:=TCon.frz (c:=Zw8) Yyb rfl
def Zg4(a0:(List Vy2)):Option Vy10:=Zw8.fn (a0,())
def Zlo(n:Nat)(x0:(List Vy2))(x1 x2:Vy7):Option Vy10:=itr Z41 prog 213 F213 n 2 (x0,x1,x2,())
def Zz(n:Nat)(x0:(List Vy2))(x1 x2:Vy7)(x3:Int):Option Vy10:=itr Z41 prog 213 F213 n 4 (x0,x1,x2,x3,())
def Qg(n:Nat)(x0:(List Vy2))(x1 x2:Vy7)(x3 x4 x5 x6 x7:Int):Option Vy10:=itr Z41 prog 213 F213 n 11 (x0,x1,x2,x3,x4,x5,x6,x7,())
theorem Zz5 a0:Eq (Zg4 a0)<|Zz fuel a0 ([]) ([]) 0:=mkE
theorem Zw9 n x0 x1 x2:Eq (Zlo (n+1) x0 x1 x2)<|bif ofNat x0.length>0 then bif 0<=wrap .i64 (ofNat x0.length-1)then bif toNat (wrap .i64 (ofNat x0.length-1))<x1.length then match x1[toNat (wrap .i64 (ofNat x0.length-1))]? with|none=>none|some e0=>some (x1,x2,e0.1==ofNat x0.length,())else none else none else some (x1,x2,false,()):=mkI
theorem Q4 n x0 x1 x2 x3:Eq (Zz (n+1) x0 x1 x2 x3)<|bif x3<ofNat x0.length then bif 0<=x3 then match x0[x3.toNat]? with|none=>none|some e0=>match Zlm e0.1 with|none=>none|some e1=>bif e1.1>0 then bif wrap .i64 (x3-1)<0 then some ([],[],false,())else bif 0<=wrap .i64 (x3-1)then bif toNat (wrap .i64 (x3-1))<x1.length then match x1[toNat (wrap .i64 (x3-1))]? with|none=>none|some e2=>bif 0<=wrap .i64 (x3-1)then bif toNat (wrap .i64 (x3-1))<x1.length then match x1[toNat (wrap .i64 (x3-1))]? with|none=>none|some e3=>bif 0<=wrap .i64 (x3-1)then bif toNat (wrap .i64 (x3-1))<x2.length then match x2[toNat (wrap .i64 (x3-1))]? with|none=>none|some e4=>bif e1.1==2 then bif wrap .i64 (wrap .i64 (x3-1)-e2.1)<0 then some ([],[],false,())else bif 0<=wrap .i64 (wrap .i64 (x3-1)-e2.1)then bif toNat (wrap .i64 (wrap .i64 (x3-1)-e2.1))<x1.length then match x1[toNat (wrap .i64 (wrap .i64 (x3-1)-e2.1))]? with|none=>none|some e5=>bif 0<=wrap .i64 (wrap .i64 (x3-1)-e2.1)then bif toNat (wrap .i64 (wrap .i64 (x3-1)-e2.1))<x2.length then match x2[toNat (wrap .i64 (wrap .i64 (x3-1)-e2.1))]? with|none=>none|some e6=>Qg n x0 x1 x2 x3 (wrap .i64 (wrap .i64 (x3-1)-e2.1)) (wrap .i64 (x3-1)) (wrap .i64 (wrap .i64 (1+e3.1)+e5.1)) (tmm true (wrap .i64 (1+e4.1)) (wrap .i64 (1+e6.1)))else none else none else none else none else Qg n x0 x1 x2 x3 (wrap .i64 (x3-1)) 0 (wrap .i64 (1+e3.1)) (wrap .i64 (1+e4.1))else none else none else none else none else none else none else Qg n x0 x1 x2 x3 0 0 1 1 else none else Zlo n x0 x1 x2:=mkI
theorem Ztx n x0 x1 x2 x3 x4 x5 x6 x7:Eq (Qg (n+1) x0 x1 x2 x3 x4 x5 x6 x7)<|bif 0<=x3 then match x0[x3.toNat]? with|none=>none|some e0=>match Zln e0 x4 x5 with|none=>none|some e1=>bif !e1.1 then some ([],[],false,())else bif Ze (x1.length+List.length [(x6,())]) 8 then bif Ze (x2.length+List.length [(x7,())]) 8 then Zz n x0 (x1++[(x6,())]) (x2++[(x7,())]) (wrap .i64 (x3+1))else none else none else none:=mkI
def Yvj:Tb:=[(213,Ygg)]
def F168:TFun:=⟨[],[],[.c (.sl Vq5)],[.c (.p di)],qc [qn 2,qi,qn 21],[],[],0⟩
def Z42:=mkC Yvj prog 168 F168
theorem Ys8:Z42.ok prog 168:=mkO ⟨Yvi,trivial⟩
def Xr(a0:(List Vy2)):Option (Int×Unit):=Z42.fn (a0,())
theorem Zz6 a0:Eq (Xr a0)<|bif ofNat a0.length>60 then some (4,())else match Zg4 a0 with|none=>none|some e0=>bif !e0.2.2.1 then some (8,())else bif 0<=wrap .i64 (ofNat a0.length-1)then match e0.2.1[toNat (wrap .i64 (ofNat a0.length-1))]? with|none=>none|some e1=>bif e1.1>20 then some (34,())else some (0,())else none:=mkE
def Zxa:Tb:=[]
def F169:TFun:=⟨[7],[(7,qc [[.c (.p (.sl Vq10))],qn 59]),(9,qc [[.c (.p (.sl Vq10))],qn 4,qi,qn 54]),(17,qc [[.c (.p (.sl Vq10))],qn 5,qi,qn 53]),(22,qc [[.c (.p (.sl Vq10))],qn 5,qi,qi,qn 52])],[.c (.sl Vq10),.c db],[.c (.p di)],qc [qn 4,qi,qn 55],[],[],0⟩
def Ycf:=mkC Zxa prog 169 F169
theorem Yyc:Ycf.ok prog 169:=mkO trivial
def Xt(a0:Vy7)(a1:Bool):Option (Int×Unit):=Ycf.fn (a0,a1,())
def Zh6(n:Nat)(x0:Vy7):Option (Int×Unit):=itr Zxa prog 169 F169 n 7 (x0,())
def Q5(n:Nat)(x0:Vy7)(x1:Int):Option (Int×Unit):=itr Zxa prog 169 F169 n 9 (x0,x1,())
def Ql(n:Nat)(x0:Vy7)(x1:Int):Option (Int×Unit):=itr Zxa prog 169 F169 n 17 (x0,x1,())
def Zaw(n:Nat)(x0:Vy7)(x1 x2:Int):Option (Int×Unit):=itr Zxa prog 169 F169 n 22 (x0,x1,x2,())
theorem Zty a0 a1:Eq (Xt a0 a1)<|bif ofNat a0.length>4 then some (4,())else bif ofNat a0.length==0 then some (8,())else bif a1 then bif ofNat a0.length !=2 then some (8,())else Q5 fuel a0 0 else Q5 fuel a0 0:=mkE
theorem Zr2 n x0:Eq (Zh6 (n+1) x0)<|Ql n x0 0:=mkI
theorem Zh7 n x0 x1:Eq (Q5 (n+1) x0 x1)<|bif x1<ofNat x0.length then bif 0<=x1 then match x0[x1.toNat]? with|none=>none|some e0=>bif e0.1<0 then some (8,())else bif 0<=x1 then match x0[x1.toNat]? with|none=>none|some e1=>bif e1.1>3 then some (8,())else Q5 n x0 (wrap .i64 (x1+1))else none else none else Zh6 n x0:=mkI
theorem Zg5 n x0 x1:Eq (Ql (n+1) x0 x1)<|bif x1<ofNat x0.length then Zaw n x0 x1 0 else some (0,()):=mkI
theorem Zg6 n x0 x1 x2:Eq (Zaw (n+1) x0 x1 x2)<|bif x2<x1 then bif 0<=x2 then match x0[x2.toNat]? with|none=>none|some e0=>bif 0<=x1 then match x0[x1.toNat]? with|none=>none|some e1=>bif e0.1==e1.1 then some (43,())else Zaw n x0 x1 (wrap .i64 (x2+1))else none else none else Ql n x0 (wrap .i64 (x1+1)):=mkI
def Yvk:Tb:=[]
def F170:TFun:=⟨[],[],[.a [.int .u8,.int .i64,.int .i64]],[.c (.p db)],qc [qn 2,qb,qn 42],[],[],0⟩
def Ycg:=mkC Yvk prog 170 F170
theorem Yyd:Ycg.ok prog 170:=mkO trivial
def Zgc(a0:(Int×Int×Int×Unit)):Option (Bool×Unit):=Ycg.fn (a0,())
theorem Z43 a0:Eq (Zgc a0)<|let k1:=some (false,());bif a0.2.1<1 then k1 else bif a0.2.1>1073741824 then k1 else bif a0.1==2 then bif a0.2.2.1>=1 then bif a0.2.2.1<=a0.2.1 then some ((decide (a0.2.1<=wrap .i64 (16*a0.2.2.1)),()))else k1 else k1 else bif a0.1==1 then some (a0.2.2.1==0,())else bif a0.1==3 then some (a0.2.2.1==0,())else k1:=mkE
def Yvl:Tb:=[(168,Z42),(169,Ycf),(170,Ycg)]
def F105:TFun:=⟨[],[],[.a Vq9],[.c (.p di)],qc [qn 2,qi,qn 77],[],[],0⟩
def Ych:=mkC Yvl prog 105 F105
theorem Yye:Ych.ok prog 105:=mkO ⟨Ys8,Yyc,Yyd,trivial⟩
def Zg7(a0:Vy8):Option (Int×Unit):=Ych.fn (a0,())
theorem Zz7 a0:Eq (Zg7 a0)<|bif a0.1<1 then some (8,())else bif a0.1>4 then some (8,())else bif a0.2.2.2.2.2.2.2.2.2.1<1 then some (8,())else bif a0.2.2.2.2.2.2.2.2.2.1>2 then some (8,())else let k1:Option (Int×Unit):=let k4:Option (Int×Unit):=match Xt a0.2.2.1 a0.2.2.2.1 with|none=>none|some e1=>bif e1.1 !=0 then match Xt a0.2.2.1 a0.2.2.2.1 with|none=>none|some e2=>some (e2.1,())else match Zgc (a0.2.2.2.2.2.1,a0.2.2.2.2.2.2.1,a0.2.2.2.2.2.2.2.1,())with|none=>none|some e2=>bif !e2.1 then some (8,())else bif a0.2.2.2.1 then bif a0.2.2.2.2.2.1 !=1 then some (8,())else some (0,())else some (0,());let k5:Option (Int×Unit):=bif a0.2.2.2.1 then bif a0.2.2.2.2.2.1 !=1 then some (8,())else some (0,())else some (0,());bif a0.1 !=1 then match Xr a0.2.1 with|none=>none|some e0=>bif e0.1 !=0 then match Xr a0.2.1 with|none=>none|some e1=>some (e1.1,())else bif ofNat a0.2.2.2.2.1.length>0 then match Xr a0.2.2.2.2.1 with|none=>none|some e1=>bif e1.1 !=0 then match Xr a0.2.2.2.2.1 with|none=>none|some e2=>some (e2.1,())else match Xt a0.2.2.1 a0.2.2.2.1 with|none=>none|some e2=>bif e2.1 !=0 then match Xt a0.2.2.1 a0.2.2.2.1 with|none=>none|some e3=>some (e3.1,())else match Zgc (a0.2.2.2.2.2.1,a0.2.2.2.2.2.2.1,a0.2.2.2.2.2.2.2.1,())with|none=>none|some e3=>bif !e3.1 then some (8,())else k5 else k4 else bif ofNat a0.2.2.2.2.1.length>0 then match Xr a0.2.2.2.2.1 with|none=>none|some e0=>bif e0.1 !=0 then match Xr a0.2.2.2.2.1 with|none=>none|some e1=>some (e1.1,())else k4 else match Xt a0.2.2.1 a0.2.2.2.1 with|none=>none|some e0=>bif e0.1 !=0 then match Xt a0.2.2.1 a0.2.2.2.1 with|none=>none|some e1=>some (e1.1,())else match Zgc (a0.2.2.2.2.2.1,a0.2.2.2.2.2.2.1,a0.2.2.2.2.2.2.2.1,())with|none=>none|some e1=>bif !e1.1 then some (8,())else k5;bif a0.1==1 then bif ofNat a0.2.1.length>0 then some (8,())else k1 else k1:=mkE
def Yvm:Tb:=[]
def F247:TFun:=⟨[],[],[.c (.int .u8)],[.c (.p db)],qc [qn 2,qb,qn 6],[],[],0⟩
def Z44:=mkC Yvm prog 247 F247
theorem Ys9:Z44.ok prog 247:=mkO trivial
def Zev(a0:Int):Option (Bool×Unit):=Z44.fn (a0,())
theorem Zz8 a0:Eq (Zev a0)<|bif a0==6 then some (true,())else some (decide (a0>=12),()):=mkE
def Yvn:Tb:=[(247,Z44)]
def F281:TFun:=⟨[],[],[.c (.sl Vq5),.c di],[.c (.p db)],qc [qn 4,qb,qn 62],[],[],0⟩
def Yci:=mkC Yvn prog 281 F281
theorem Yyf:Yci.ok prog 281:=mkO ⟨Ys9,trivial⟩
def Zo9(a0:(List Vy2))(a1:Int):Option (Bool×Unit):=Yci.fn (a0,a1,())
theorem Z45 a0 a1:Eq (Zo9 a0 a1)<|bif 0<=a1 then match a0[a1.toNat]? with|none=>none|some e0=>bif 0<=e0.2.2.1 then match a0[e0.2.2.1.toNat]? with|none=>none|some e1=>match Zev e1.1 with|none=>none|some e2=>bif 0<=e0.2.2.2.1 then match a0[e0.2.2.2.1.toNat]? with|none=>none|some e3=>match Zev e3.1 with|none=>none|some e4=>bif e0.1<=4 then some (true,())else bif e0.1==5 then some (!e2.1,())else bif e0.1==6 then some (e2.1,())else bif e0.1==16 then some (e2.1==e4.1,())else bif e0.1==17 then some (e2.1==e4.1,())else bif e0.1>=18 then bif e2.1 then some (e4.1,())else some (false,())else bif !e2.1 then some (!e4.1,())else some (false,())else none else none else none:=mkE
def Yl5:Tb:=[(281,Yci)]
def F246:TFun:=⟨[],[(3,qc [[.c (.p (.sl Vq5))],qn 2,qi,qn 13])],[.c (.sl Vq5)],[.c (.p di)],qc [qn 2,qi,qn 14],[],[],0⟩
def Ycj:=mkC Yl5 prog 246 F246
theorem Yyg:Ycj.ok prog 246:=mkO ⟨Yyf,trivial⟩
def Zlp(a0:(List Vy2)):Option (Int×Unit):=Ycj.fn (a0,())
def Zc1(n:Nat)(x0:(List Vy2))(x1:Int):Option (Int×Unit):=itr Yl5 prog 246 F246 n 3 (x0,x1,())
theorem Zz9 a0:Eq (Zlp a0)<|Zc1 fuel a0 0:=mkE
theorem Zlq n x0 x1:Eq (Zc1 (n+1) x0 x1)<|bif x1<ofNat x0.length then match Zo9 x0 x1 with|none=>none|some e0=>bif !e0.1 then some (x1,())else Zc1 n x0 (wrap .i64 (x1+1))else some (ofNat x0.length,()):=mkI
def Yvo:Tb:=[(168,Z42),(246,Ycj),(247,Z44)]
def F214:TFun:=⟨[],[],[.c (.sl Vq5)],[.c (.p db),.c (.p di),.c (.p di)],qc [qn 2,qb,qi,qi,qn 24],[],[],0⟩
def Yck:=mkC Yvo prog 214 F214
theorem Yyh:Yck.ok prog 214:=mkO ⟨Ys8,Yyg,Ys9,trivial⟩
def Zxb(a0:(List Vy2)):Option (Bool×Int×Int×Unit):=Yck.fn (a0,())
theorem Ycl a0:Eq (Zxb a0)<|match Xr a0 with|none=>none|some e0=>bif e0.1 !=0 then match Xr a0 with|none=>none|some e1=>some (false,0,e1.1,())else match Zlp a0 with|none=>none|some e1=>bif e1.1<ofNat a0.length then some (false,e1.1,42,())else bif 0<=wrap .i64 (ofNat a0.length-1)then match a0[toNat (wrap .i64 (ofNat a0.length-1))]? with|none=>none|some e2=>match Zev e2.1 with|none=>none|some e3=>some (e3.1,wrap .i64 (ofNat a0.length-1),0,())else none:=mkE
def Yvp:Tb:=[(214,Yck)]
def F171:TFun:=⟨[],[],[.c (.sl Vq5),.c db],[.c (.p di),.c (.p di)],qc [qn 4,qi,qi,qn 19],[],[],0⟩
def Ycm:=mkC Yvp prog 171 F171
theorem Yyi:Ycm.ok prog 171:=mkO ⟨Yyh,trivial⟩
def Zi2(a0:(List Vy2))(a1:Bool):Option Vy9:=Ycm.fn (a0,a1,())
theorem Z46 a0 a1:Eq (Zi2 a0 a1)<|match Zxb a0 with|none=>none|some e0=>bif e0.2.2.1==0 then bif !e0.1==a1 then some (e0.2.1,42,())else some e0.2 else some e0.2:=mkE
def Yl6:Tb:=[(171,Ycm)]
def F106:TFun:=⟨[1],[(1,qc [qn 1,[.boxN 27 10 [.any,.any,.any,.any,.p (.sl Vq5),.any,.any,.any,.any,.any]],qn 44])],[.a Vq9],[.c (.p di),.c (.p di)],qc [qn 2,qi,qi,qn 42],[],[],0⟩
def Ycn:=mkC Yl6 prog 106 F106
theorem Yyj:Ycn.ok prog 106:=mkO ⟨Yyi,trivial⟩
def Ztj(a0:Vy8):Option Vy9:=Ycn.fn (a0,())
def Zc2(n:Nat)(x0:(List Vy2)):Option Vy9:=itr Yl6 prog 106 F106 n 1 (x0,())
theorem Z0a a0:Eq (Ztj a0)<|bif ofNat a0.2.1.length>0 then match Zi2 a0.2.1 false with|none=>none|some e0=>bif e0.2.1 !=0 then bif 0<=e0.1 then match a0.2.1[e0.1.toNat]? with|none=>none|some e1=>some (e1.2.2.2.2.1,e0.2.1,())else none else Zc2 fuel a0.2.2.2.2.1 else Zc2 fuel a0.2.2.2.2.1:=mkE
theorem Zxc n x0:Eq (Zc2 (n+1) x0)<|bif ofNat x0.length>0 then match Zi2 x0 true with|none=>none|some e0=>bif e0.2.1 !=0 then bif 0<=e0.1 then match x0[e0.1.toNat]? with|none=>none|some e1=>some (e1.2.2.2.2.1,e0.2.1,())else none else some (0,0,())else some (0,0,()):=mkI
def Yyk:Tb:=[(105,Ych),(106,Ycn)]
def F50:TFun:=⟨[],[],[.a Vq9],[.c (.p di),.c (.p di)],qc [qn 2,qi,qi,qn 9],[],[],0⟩
def Yl7:=mkC Yyk prog 50 F50
theorem ok50:Yl7.ok prog 50:=mkO ⟨Yye,Yyj,trivial⟩
def Zlr(a0:Vy8):Option Vy9:=Yl7.fn (a0,())
theorem Z0b a0:Eq (Zlr a0)<|match Zg7 a0 with|none=>none|some e0=>bif e0.1 !=0 then match Zg7 a0 with|none=>none|some e1=>some (0,e1.1,())else match Ztj a0 with|none=>none|some e1=>some e1:=mkE
def Yyl:Tb:=[(50,Yl7)]
def F27:TFun:=⟨[],[],[.a Vq9],[.c (.p db)],qc [qn 2,qb,qn 9],[],[],0⟩
def Yl8:=mkC Yyl prog 27 F27
theorem ok27:Yl8.ok prog 27:=mkO ⟨ok50,trivial⟩
def Zc3(a0:Vy8):Option (Bool×Unit):=Yl8.fn (a0,())
theorem Zr3 a0:Eq (Zc3 a0)<|match Zlr a0 with|none=>none|some e0=>some (e0.2.1==0,()):=mkE
end
end Tg
