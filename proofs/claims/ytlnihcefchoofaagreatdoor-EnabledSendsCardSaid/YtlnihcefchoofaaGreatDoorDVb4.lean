import Derived.Test.YtlnihcefchoofaaGreatDoorDVT
set_option linter.all false
set_option maxRecDepth 100000
namespace Tg
noncomputable section
open Go.Abs hiding fuel
open Go.Proofs.Tryz (prog)
open Int (ofNat toNat)
open Go.IntKind (wrap)
abbrev Ymh:List Go.Abs.SC:=[.any,.any,.any,.any,.any,.any,.any,.any,.any,.any,.any,.any,.any,.p (.sl [.int .i64,.sl Vq4])]
abbrev Ymi:List Go.Abs.SC:=[.any,.any,.any,.any,.p (.sl Vq10),.p (.sl Vq1),.p (.sl Vq7),.any,.any]
def Ymj:Tb:=[]
def F25:TFun:=⟨[2],[(2,qc [qn 1,[.boxN 56 9 Ymi],qn 54]),(4,qc [qn 1,[.boxN 56 9 Ymi],qn 1,[.c (.rowN 3 1 Vq10)],qi,qn 51])],[.a Vq2],[.c (.p db)],qc [qn 2,qb,qn 53],[],[],0⟩
def Ymk:=mkC Ymj prog 24 F25
theorem ok25:Ymk.ok prog 24:=mkO trivial
def Zhe(a0:Vy3):Option (Bool×Unit):=Ymk.fn (a0,())
def Zlu(n:Nat)(x0:Vy7)(x1:(List Vy1))(x2:(List Vy5)):Option (Bool×Unit):=itr Ymj prog 24 F25 n 2 (x0,x1,x2,())
def Zc2(n:Nat)(x0:Vy7)(x1:(List Vy1))(x2:(List Vy5))(x3:Vy7)(x4:Int):Option (Bool×Unit):=itr Ymj prog 24 F25 n 4 (x0,x1,x2,x3,x4,())
theorem Z0j a0:Eq (Zhe a0)<|Zc2 fuel a0.2.2.2.2.1 a0.2.2.2.2.2.1 a0.2.2.2.2.2.2.1 ([(ofNat a0.2.2.2.1.length,()),(ofNat a0.2.2.2.2.2.2.2.1.length,()),(ofNat a0.2.2.2.2.2.2.2.2.1.length,())]) 0:=mkE
theorem Zxm n x0 x1 x2:Eq (Zlu (n+1) x0 x1 x2)<|bif ofNat x1.length>100 then some (true,())else bif ofNat x2.length>100 then some (true,())else some (decide (ofNat x0.length>20),()):=mkI
theorem Zlv n x0 x1 x2 x3 x4:Eq (Zc2 (n+1) x0 x1 x2 x3 x4)<|bif x4<ofNat x3.length then ixb x3 x4 λe0=>let k1:=Zc2 n x0 x1 x2 x3 (wrap .i64 (x4+1));bif e0.1>100 then ixb x3 x4 λe1=>bif e1.1<3990 then some (true,())else ixb x3 x4 λe2=>bif e2.1>4010 then some (true,())else k1 else ixb x3 x4 λe1=>bif e1.1>4010 then some (true,())else k1 else Zlu n x0 x1 x2:=mkI
def Yyv:Tb:=[]
def F26:TFun:=⟨[],[],[.a [.int .i64,.sl Vq4]],[.c (.p db)],qc [qn 2,qb,qn 4],[],[],0⟩
def Yml:=mkC Yyv prog 25 F26
theorem ok26:Yml.ok prog 25:=mkO trivial
def Ztv(a0:(Int×List Vy4×Unit)):Option (Bool×Unit):=Yml.fn (a0,())
theorem Z0k a0:Eq (Ztv a0)<|some (decide (ofNat a0.2.1.length>20),()):=mkE
def Ygx:Tb:=[(24,Ymk),(25,Yml)]
def F13:TFun:=⟨[4],[(4,qc [qn 1,[.boxN 35 14 Ymh],qn 74]),(6,qc [qn 1,[.boxN 35 14 [.any,.any,.any,.any,.any,.any,.any,.any,.any,.any,.any,.any,.p (.sl Vq2),.p (.sl [.int .i64,.sl Vq4])]],qn 1,qi,qn 72]),(15,qc [qn 1,[.boxN 35 14 Ymh],qn 2,qi,qn 71])],[.a [.int .u8,.sl Vq5,.sl Vq10,.bool,.sl Vq5,.int .u8,.int .i64,.int .i64,.bool,.int .u8,.sl Vq11,.sl Vq3,.sl Vq2,.sl [.int .i64,.sl Vq4]]],[.c (.p db)],qc [qn 2,qb,qn 73],[],[],0⟩
def Ymm:=mkC Ygx prog 11 F13
theorem ok13:Ymm.ok prog 11:=mkO ⟨ok25,ok26,trivial⟩
def Zlw(a0:(Int×List Vy2×List (Int×Unit)×Bool×List Vy2×Int×Int×Int×Bool×Int×List Vy9×List Vy2×List Vy3×List (Int×List Vy4×Unit)×Unit)):Option (Bool×Unit):=Ymm.fn (a0,())
def Zlx(n:Nat)(x0:(List (Int×List Vy4×Unit))):Option (Bool×Unit):=itr Ygx prog 11 F13 n 4 (x0,())
def Zc3(n:Nat)(x0:(List Vy3))(x1:(List (Int×List Vy4×Unit)))(x2:Int):Option (Bool×Unit):=itr Ygx prog 11 F13 n 6 (x0,x1,x2,())
def Zb1(n:Nat)(x0:(List (Int×List Vy4×Unit)))(x1:Int):Option (Bool×Unit):=itr Ygx prog 11 F13 n 15 (x0,x1,())
theorem Z0l a0:Eq (Zlw a0)<|let k1:=some (true,());bif ofNat a0.2.2.2.2.2.2.2.2.2.2.1.length>30 then k1 else bif ofNat a0.2.2.2.2.2.2.2.2.2.2.2.1.length>60 then k1 else bif ofNat a0.2.2.2.2.2.2.2.2.2.2.2.2.1.length>30 then k1 else bif ofNat a0.2.2.2.2.2.2.2.2.2.2.2.2.2.1.length>60 then k1 else bif ofNat a0.2.1.length>100 then k1 else bif ofNat a0.2.2.2.2.1.length>100 then k1 else bif ofNat a0.2.2.1.length>20 then k1 else Zc3 fuel a0.2.2.2.2.2.2.2.2.2.2.2.2.1 a0.2.2.2.2.2.2.2.2.2.2.2.2.2.1 0:=mkE
theorem Zxn n x0:Eq (Zlx (n+1) x0)<|Zb1 n x0 0:=mkI
theorem Zly n x0 x1 x2:Eq (Zc3 (n+1) x0 x1 x2)<|bif x2<ofNat x0.length then ix x0 x2 λe0=>(Zhe e0).bind λe1=>bif e1.1 then some (true,())else Zc3 n x0 x1 (wrap .i64 (x2+1))else Zlx n x1:=mkI
theorem Zj3 n x0 x1:Eq (Zb1 (n+1) x0 x1)<|bif x1<ofNat x0.length then ix x0 x1 λe0=>(Ztv e0).bind λe1=>bif e1.1 then some (true,())else Zb1 n x0 (wrap .i64 (x1+1))else some (false,()):=mkI
end
noncomputable section
open Go.Abs hiding fuel
open Go.Proofs.Tryz (prog)
open Int (ofNat toNat)
open Go.IntKind (wrap)
def Yv2:Tb:=[]
def F244:TFun:=⟨[],[],[.c (.int .u8)],[.c (.p di)],qc [qn 2,qi,qn 4],[],[],0⟩
def Ycv:=mkC Yv2 prog 243 F244
theorem Yyw:Ycv.ok prog 243:=mkO trivial
def Zlz(a0:Int):Option (Int×Unit):=Ycv.fn (a0,())
theorem Z0m a0:Eq (Zlz a0)<|bif a0<=4 then some (0,())else bif a0<=6 then some (1,())else some (2,()):=mkE
def Yv3:Tb:=[]
def F245:TFun:=⟨[],[],[.a Vq5,.c di,.c di],[.c (.p db)],qc [qn 6,qb,qn 45],[],[],0⟩
def Ycw:=mkC Yv3 prog 244 F245
theorem Yyx:Ycw.ok prog 244:=mkO trivial
def Zl0(a0:Vy2)(a1 a2:Int):Option (Bool×Unit):=Ycw.fn (a0,a1,a2,())
theorem Z0n a0 a1 a2:Eq (Zl0 a0 a1 a2)<|bif a0.1>=1 then bif a0.1<=19 then bif a0.2.1>=0 then let k1:=bif a0.2.2.2.2.1>=0 then bif a0.2.2.2.2.1<=400 then bif a0.2.2.1==a1 then some (a0.2.2.2.1==a2,())else some (false,())else some (false,())else some (false,());bif a0.2.1==0 then k1 else bif a0.1==1 then k1 else some (false,())else some (false,())else some (false,())else some (false,()):=mkE
def Z5i:Tb:=[(243,Ycv),(244,Ycw)]
def F213:TFun:=⟨[11,2],[(2,qc [[.c (.p (.sl Vq5))],qn 4,[.c (.rowN 3 1 Vq10)],[.c (.rowN 3 1 Vq10)],qn 95]),(4,qc [[.c (.p (.sl Vq5))],qn 4,[.c (.rowN 3 1 Vq10)],[.c (.rowN 3 1 Vq10)],qi,qn 94]),(11,qc [[.c (.p (.sl Vq5))],qn 4,[.c (.rowN 3 1 Vq10)],[.c (.rowN 3 1 Vq10)],qi,qi,qi,qi,qi,qn 90])],[.c (.sl Vq5)],[.c (.s 3 1 Vq10),.c (.s 3 1 Vq10),.c (.p db)],qc [qn 2,[.c (.rowN 3 1 Vq10)],[.c (.rowN 3 1 Vq10)],qb,qn 97],[],[],0⟩
def Zxo:=mkC Z5i prog 212 F213
theorem Yyy:Zxo.ok prog 212:=mkO ⟨Yyw,Yyx,trivial⟩
def Ygy:TCon:=⟨Zxo.args,[.c (.p (.sl Vq10)),.c (.p (.sl Vq10)),.c (.p db)],Zxo.fn⟩
theorem Yv4:Ygy.ok prog 212:=TCon.frz (c:=Zxo) Yyy rfl
def Zhf(a0:(List Vy2)):Option Vy10:=Zxo.fn (a0,())
def Zl1(n:Nat)(x0:(List Vy2))(x1 x2:Vy7):Option Vy10:=itr Z5i prog 212 F213 n 2 (x0,x1,x2,())
def Zz(n:Nat)(x0:(List Vy2))(x1 x2:Vy7)(x3:Int):Option Vy10:=itr Z5i prog 212 F213 n 4 (x0,x1,x2,x3,())
def Qg(n:Nat)(x0:(List Vy2))(x1 x2:Vy7)(x3 x4 x5 x6 x7:Int):Option Vy10:=itr Z5i prog 212 F213 n 11 (x0,x1,x2,x3,x4,x5,x6,x7,())
theorem Z0o a0:Eq (Zhf a0)<|Zz fuel a0 ([]) ([]) 0:=mkE
theorem Zxp n x0 x1 x2:Eq (Zl1 (n+1) x0 x1 x2)<|bif ofNat x0.length>0 then bif 0<=wrap .i64 (ofNat x0.length-1)then bif toNat (wrap .i64 (ofNat x0.length-1))<x1.length then match x1[toNat (wrap .i64 (ofNat x0.length-1))]? with|none=>none|some e0=>some (x1,x2,e0.1==ofNat x0.length,())else none else none else some (x1,x2,false,()):=mkI
theorem Q5 n x0 x1 x2 x3:Eq (Zz (n+1) x0 x1 x2 x3)<|bif x3<ofNat x0.length then bif 0<=x3 then match x0[x3.toNat]? with|none=>none|some e0=>match Zlz e0.1 with|none=>none|some e1=>bif e1.1>0 then bif wrap .i64 (x3-1)<0 then some ([],[],false,())else bif 0<=wrap .i64 (x3-1)then bif toNat (wrap .i64 (x3-1))<x1.length then match x1[toNat (wrap .i64 (x3-1))]? with|none=>none|some e2=>bif 0<=wrap .i64 (x3-1)then bif toNat (wrap .i64 (x3-1))<x1.length then match x1[toNat (wrap .i64 (x3-1))]? with|none=>none|some e3=>bif 0<=wrap .i64 (x3-1)then bif toNat (wrap .i64 (x3-1))<x2.length then match x2[toNat (wrap .i64 (x3-1))]? with|none=>none|some e4=>bif e1.1==2 then bif wrap .i64 (wrap .i64 (x3-1)-e2.1)<0 then some ([],[],false,())else bif 0<=wrap .i64 (wrap .i64 (x3-1)-e2.1)then bif toNat (wrap .i64 (wrap .i64 (x3-1)-e2.1))<x1.length then match x1[toNat (wrap .i64 (wrap .i64 (x3-1)-e2.1))]? with|none=>none|some e5=>bif 0<=wrap .i64 (wrap .i64 (x3-1)-e2.1)then bif toNat (wrap .i64 (wrap .i64 (x3-1)-e2.1))<x2.length then match x2[toNat (wrap .i64 (wrap .i64 (x3-1)-e2.1))]? with|none=>none|some e6=>Qg n x0 x1 x2 x3 (wrap .i64 (wrap .i64 (x3-1)-e2.1)) (wrap .i64 (x3-1)) (wrap .i64 (wrap .i64 (1+e3.1)+e5.1)) (tmm true (wrap .i64 (1+e4.1)) (wrap .i64 (1+e6.1)))else none else none else none else none else Qg n x0 x1 x2 x3 (wrap .i64 (x3-1)) 0 (wrap .i64 (1+e3.1)) (wrap .i64 (1+e4.1))else none else none else none else none else none else none else Qg n x0 x1 x2 x3 0 0 1 1 else none else Zl1 n x0 x1 x2:=mkI
theorem Zub n x0 x1 x2 x3 x4 x5 x6 x7:Eq (Qg (n+1) x0 x1 x2 x3 x4 x5 x6 x7)<|bif 0<=x3 then match x0[x3.toNat]? with|none=>none|some e0=>match Zl0 e0 x4 x5 with|none=>none|some e1=>bif !e1.1 then some ([],[],false,())else bif Ze (x1.length+List.length [(x6,())]) 8 then bif Ze (x2.length+List.length [(x7,())]) 8 then Zz n x0 (x1++[(x6,())]) (x2++[(x7,())]) (wrap .i64 (x3+1))else none else none else none:=mkI
def Yv5:Tb:=[(212,Ygy)]
def F168:TFun:=⟨[],[],[.c (.sl Vq5)],[.c (.p di)],qc [qn 2,qi,qn 21],[],[],0⟩
def Z5j:=mkC Yv5 prog 167 F168
theorem Ytu:Z5j.ok prog 167:=mkO ⟨Yv4,trivial⟩
def Xq(a0:(List Vy2)):Option (Int×Unit):=Z5j.fn (a0,())
theorem Z0p a0:Eq (Xq a0)<|bif ofNat a0.length>60 then some (4,())else match Zhf a0 with|none=>none|some e0=>bif !e0.2.2.1 then some (8,())else bif 0<=wrap .i64 (ofNat a0.length-1)then match e0.2.1[toNat (wrap .i64 (ofNat a0.length-1))]? with|none=>none|some e1=>bif e1.1>20 then some (34,())else some (0,())else none:=mkE
def Zxq:Tb:=[]
def F169:TFun:=⟨[7],[(7,qc [[.c (.p (.sl Vq10))],qn 59]),(9,qc [[.c (.p (.sl Vq10))],qn 4,qi,qn 54]),(17,qc [[.c (.p (.sl Vq10))],qn 5,qi,qn 53]),(22,qc [[.c (.p (.sl Vq10))],qn 5,qi,qi,qn 52])],[.c (.sl Vq10),.c db],[.c (.p di)],qc [qn 4,qi,qn 55],[],[],0⟩
def Ycx:=mkC Zxq prog 168 F169
theorem Yyz:Ycx.ok prog 168:=mkO trivial
def Xr(a0:Vy7)(a1:Bool):Option (Int×Unit):=Ycx.fn (a0,a1,())
def Zif(n:Nat)(x0:Vy7):Option (Int×Unit):=itr Zxq prog 168 F169 n 7 (x0,())
def Q6(n:Nat)(x0:Vy7)(x1:Int):Option (Int×Unit):=itr Zxq prog 168 F169 n 9 (x0,x1,())
def Ql(n:Nat)(x0:Vy7)(x1:Int):Option (Int×Unit):=itr Zxq prog 168 F169 n 17 (x0,x1,())
def Zav(n:Nat)(x0:Vy7)(x1 x2:Int):Option (Int×Unit):=itr Zxq prog 168 F169 n 22 (x0,x1,x2,())
theorem Zuc a0 a1:Eq (Xr a0 a1)<|bif ofNat a0.length>4 then some (4,())else bif ofNat a0.length==0 then some (8,())else bif a1 then bif ofNat a0.length !=2 then some (8,())else Q6 fuel a0 0 else Q6 fuel a0 0:=mkE
theorem Zse n x0:Eq (Zif (n+1) x0)<|Ql n x0 0:=mkI
theorem Zig n x0 x1:Eq (Q6 (n+1) x0 x1)<|bif x1<ofNat x0.length then bif 0<=x1 then match x0[x1.toNat]? with|none=>none|some e0=>bif e0.1<0 then some (8,())else bif 0<=x1 then match x0[x1.toNat]? with|none=>none|some e1=>bif e1.1>3 then some (8,())else Q6 n x0 (wrap .i64 (x1+1))else none else none else Zif n x0:=mkI
theorem Zhg n x0 x1:Eq (Ql (n+1) x0 x1)<|bif x1<ofNat x0.length then Zav n x0 x1 0 else some (0,()):=mkI
theorem Zhh n x0 x1 x2:Eq (Zav (n+1) x0 x1 x2)<|bif x2<x1 then bif 0<=x2 then match x0[x2.toNat]? with|none=>none|some e0=>bif 0<=x1 then match x0[x1.toNat]? with|none=>none|some e1=>bif e0.1==e1.1 then some (43,())else Zav n x0 x1 (wrap .i64 (x2+1))else none else none else Ql n x0 (wrap .i64 (x1+1)):=mkI
def Yv6:Tb:=[]
def F170:TFun:=⟨[],[],[.a [.int .u8,.int .i64,.int .i64]],[.c (.p db)],qc [qn 2,qb,qn 42],[],[],0⟩
def Ycy:=mkC Yv6 prog 169 F170
theorem Yy0:Ycy.ok prog 169:=mkO trivial
def Zgn(a0:(Int×Int×Int×Unit)):Option (Bool×Unit):=Ycy.fn (a0,())
theorem Z5k a0:Eq (Zgn a0)<|let k1:=some (false,());bif a0.2.1<1 then k1 else bif a0.2.1>1073741824 then k1 else bif a0.1==2 then bif a0.2.2.1>=1 then bif a0.2.2.1<=a0.2.1 then some ((decide (a0.2.1<=wrap .i64 (16*a0.2.2.1)),()))else k1 else k1 else bif a0.1==1 then some (a0.2.2.1==0,())else bif a0.1==3 then some (a0.2.2.1==0,())else k1:=mkE
def Yv7:Tb:=[(167,Z5j),(168,Ycx),(169,Ycy)]
def F105:TFun:=⟨[],[],[.a Vq9],[.c (.p di)],qc [qn 2,qi,qn 77],[],[],0⟩
def Ycz:=mkC Yv7 prog 104 F105
theorem Yy8:Ycz.ok prog 104:=mkO ⟨Ytu,Yyz,Yy0,trivial⟩
def Zhi(a0:Vy8):Option (Int×Unit):=Ycz.fn (a0,())
theorem Z0q a0:Eq (Zhi a0)<|bif a0.1<1 then some (8,())else bif a0.1>4 then some (8,())else bif a0.2.2.2.2.2.2.2.2.2.1<1 then some (8,())else bif a0.2.2.2.2.2.2.2.2.2.1>2 then some (8,())else let k1:Option (Int×Unit):=let k4:Option (Int×Unit):=match Xr a0.2.2.1 a0.2.2.2.1 with|none=>none|some e1=>bif e1.1 !=0 then match Xr a0.2.2.1 a0.2.2.2.1 with|none=>none|some e2=>some (e2.1,())else match Zgn (a0.2.2.2.2.2.1,a0.2.2.2.2.2.2.1,a0.2.2.2.2.2.2.2.1,())with|none=>none|some e2=>bif !e2.1 then some (8,())else bif a0.2.2.2.1 then bif a0.2.2.2.2.2.1 !=1 then some (8,())else some (0,())else some (0,());let k5:Option (Int×Unit):=bif a0.2.2.2.1 then bif a0.2.2.2.2.2.1 !=1 then some (8,())else some (0,())else some (0,());bif a0.1 !=1 then match Xq a0.2.1 with|none=>none|some e0=>bif e0.1 !=0 then match Xq a0.2.1 with|none=>none|some e1=>some (e1.1,())else bif ofNat a0.2.2.2.2.1.length>0 then match Xq a0.2.2.2.2.1 with|none=>none|some e1=>bif e1.1 !=0 then match Xq a0.2.2.2.2.1 with|none=>none|some e2=>some (e2.1,())else match Xr a0.2.2.1 a0.2.2.2.1 with|none=>none|some e2=>bif e2.1 !=0 then match Xr a0.2.2.1 a0.2.2.2.1 with|none=>none|some e3=>some (e3.1,())else match Zgn (a0.2.2.2.2.2.1,a0.2.2.2.2.2.2.1,a0.2.2.2.2.2.2.2.1,())with|none=>none|some e3=>bif !e3.1 then some (8,())else k5 else k4 else bif ofNat a0.2.2.2.2.1.length>0 then match Xq a0.2.2.2.2.1 with|none=>none|some e0=>bif e0.1 !=0 then match Xq a0.2.2.2.2.1 with|none=>none|some e1=>some (e1.1,())else k4 else match Xr a0.2.2.1 a0.2.2.2.1 with|none=>none|some e0=>bif e0.1 !=0 then match Xr a0.2.2.1 a0.2.2.2.1 with|none=>none|some e1=>some (e1.1,())else match Zgn (a0.2.2.2.2.2.1,a0.2.2.2.2.2.2.1,a0.2.2.2.2.2.2.2.1,())with|none=>none|some e1=>bif !e1.1 then some (8,())else k5;bif a0.1==1 then bif ofNat a0.2.1.length>0 then some (8,())else k1 else k1:=mkE
def Yv8:Tb:=[]
def F247:TFun:=⟨[],[],[.c (.int .u8)],[.c (.p db)],qc [qn 2,qb,qn 6],[],[],0⟩
def Z5l:=mkC Yv8 prog 246 F247
theorem Ytv:Z5l.ok prog 246:=mkO trivial
def Ze3(a0:Int):Option (Bool×Unit):=Z5l.fn (a0,())
theorem Z0r a0:Eq (Ze3 a0)<|bif a0==6 then some (true,())else some (decide (a0>=12),()):=mkE
def Yv9:Tb:=[(246,Z5l)]
def F281:TFun:=⟨[],[],[.c (.sl Vq5),.c di],[.c (.p db)],qc [qn 4,qb,qn 62],[],[],0⟩
def Yc0:=mkC Yv9 prog 280 F281
theorem Yy9:Yc0.ok prog 280:=mkO ⟨Ytv,trivial⟩
def Zpk(a0:(List Vy2))(a1:Int):Option (Bool×Unit):=Yc0.fn (a0,a1,())
theorem Z5m a0 a1:Eq (Zpk a0 a1)<|bif 0<=a1 then match a0[a1.toNat]? with|none=>none|some e0=>bif 0<=e0.2.2.1 then match a0[e0.2.2.1.toNat]? with|none=>none|some e1=>match Ze3 e1.1 with|none=>none|some e2=>bif 0<=e0.2.2.2.1 then match a0[e0.2.2.2.1.toNat]? with|none=>none|some e3=>match Ze3 e3.1 with|none=>none|some e4=>bif e0.1<=4 then some (true,())else bif e0.1==5 then some (!e2.1,())else bif e0.1==6 then some (e2.1,())else bif e0.1==16 then some (e2.1==e4.1,())else bif e0.1==17 then some (e2.1==e4.1,())else bif e0.1>=18 then bif e2.1 then some (e4.1,())else some (false,())else bif !e2.1 then some (!e4.1,())else some (false,())else none else none else none:=mkE
def Ymn:Tb:=[(280,Yc0)]
def F246:TFun:=⟨[],[(3,qc [[.c (.p (.sl Vq5))],qn 2,qi,qn 13])],[.c (.sl Vq5)],[.c (.p di)],qc [qn 2,qi,qn 14],[],[],0⟩
def Yc1:=mkC Ymn prog 245 F246
theorem Yza:Yc1.ok prog 245:=mkO ⟨Yy9,trivial⟩
def Zl2(a0:(List Vy2)):Option (Int×Unit):=Yc1.fn (a0,())
def Zc4(n:Nat)(x0:(List Vy2))(x1:Int):Option (Int×Unit):=itr Ymn prog 245 F246 n 3 (x0,x1,())
theorem Z0s a0:Eq (Zl2 a0)<|Zc4 fuel a0 0:=mkE
theorem Zl3 n x0 x1:Eq (Zc4 (n+1) x0 x1)<|bif x1<ofNat x0.length then match Zpk x0 x1 with|none=>none|some e0=>bif !e0.1 then some (x1,())else Zc4 n x0 (wrap .i64 (x1+1))else some (ofNat x0.length,()):=mkI
def Ywa:Tb:=[(167,Z5j),(245,Yc1),(246,Z5l)]
def F214:TFun:=⟨[],[],[.c (.sl Vq5)],[.c (.p db),.c (.p di),.c (.p di)],qc [qn 2,qb,qi,qi,qn 24],[],[],0⟩
def Yc2:=mkC Ywa prog 213 F214
theorem Yzb:Yc2.ok prog 213:=mkO ⟨Ytu,Yza,Ytv,trivial⟩
def Zxr(a0:(List Vy2)):Option (Bool×Int×Int×Unit):=Yc2.fn (a0,())
theorem Yc3 a0:Eq (Zxr a0)<|match Xq a0 with|none=>none|some e0=>bif e0.1 !=0 then match Xq a0 with|none=>none|some e1=>some (false,0,e1.1,())else match Zl2 a0 with|none=>none|some e1=>bif e1.1<ofNat a0.length then some (false,e1.1,42,())else bif 0<=wrap .i64 (ofNat a0.length-1)then match a0[toNat (wrap .i64 (ofNat a0.length-1))]? with|none=>none|some e2=>match Ze3 e2.1 with|none=>none|some e3=>some (e3.1,wrap .i64 (ofNat a0.length-1),0,())else none:=mkE
def Ywb:Tb:=[(213,Yc2)]
def F171:TFun:=⟨[],[],[.c (.sl Vq5),.c db],[.c (.p di),.c (.p di)],qc [qn 4,qi,qi,qn 19],[],[],0⟩
def Yc4:=mkC Ywb prog 170 F171
theorem Yzc:Yc4.ok prog 170:=mkO ⟨Yzb,trivial⟩
def Zjc(a0:(List Vy2))(a1:Bool):Option Vy9:=Yc4.fn (a0,a1,())
theorem Z5n a0 a1:Eq (Zjc a0 a1)<|match Zxr a0 with|none=>none|some e0=>bif e0.2.2.1==0 then bif !e0.1==a1 then some (e0.2.1,42,())else some e0.2 else some e0.2:=mkE
def Ymo:Tb:=[(170,Yc4)]
def F106:TFun:=⟨[1],[(1,qc [qn 1,[.boxN 27 10 [.any,.any,.any,.any,.p (.sl Vq5),.any,.any,.any,.any,.any]],qn 44])],[.a Vq9],[.c (.p di),.c (.p di)],qc [qn 2,qi,qi,qn 42],[],[],0⟩
def Yc5:=mkC Ymo prog 105 F106
theorem Yzd:Yc5.ok prog 105:=mkO ⟨Yzc,trivial⟩
def Ztw(a0:Vy8):Option Vy9:=Yc5.fn (a0,())
def Zc5(n:Nat)(x0:(List Vy2)):Option Vy9:=itr Ymo prog 105 F106 n 1 (x0,())
theorem Z0t a0:Eq (Ztw a0)<|bif ofNat a0.2.1.length>0 then match Zjc a0.2.1 false with|none=>none|some e0=>bif e0.2.1 !=0 then bif 0<=e0.1 then match a0.2.1[e0.1.toNat]? with|none=>none|some e1=>some (e1.2.2.2.2.1,e0.2.1,())else none else Zc5 fuel a0.2.2.2.2.1 else Zc5 fuel a0.2.2.2.2.1:=mkE
theorem Zxs n x0:Eq (Zc5 (n+1) x0)<|bif ofNat x0.length>0 then match Zjc x0 true with|none=>none|some e0=>bif e0.2.1 !=0 then bif 0<=e0.1 then match x0[e0.1.toNat]? with|none=>none|some e1=>some (e1.2.2.2.2.1,e0.2.1,())else none else some (0,0,())else some (0,0,()):=mkI
def Yze:Tb:=[(104,Ycz),(105,Yc5)]
def F50:TFun:=⟨[],[],[.a Vq9],[.c (.p di),.c (.p di)],qc [qn 2,qi,qi,qn 9],[],[],0⟩
def Ymp:=mkC Yze prog 49 F50
theorem ok50:Ymp.ok prog 49:=mkO ⟨Yy8,Yzd,trivial⟩
def Zl4(a0:Vy8):Option Vy9:=Ymp.fn (a0,())
theorem Z0u a0:Eq (Zl4 a0)<|match Zhi a0 with|none=>none|some e0=>bif e0.1 !=0 then match Zhi a0 with|none=>none|some e1=>some (0,e1.1,())else match Ztw a0 with|none=>none|some e1=>some e1:=mkE
def Yzf:Tb:=[(49,Ymp)]
def F27:TFun:=⟨[],[],[.a Vq9],[.c (.p db)],qc [qn 2,qb,qn 9],[],[],0⟩
def Ymq:=mkC Yzf prog 26 F27
theorem ok27:Ymq.ok prog 26:=mkO ⟨ok50,trivial⟩
def Zc6(a0:Vy8):Option (Bool×Unit):=Ymq.fn (a0,())
theorem Zsf a0:Eq (Zc6 a0)<|match Zl4 a0 with|none=>none|some e0=>some (e0.2.1==0,()):=mkE
end
end Tg
