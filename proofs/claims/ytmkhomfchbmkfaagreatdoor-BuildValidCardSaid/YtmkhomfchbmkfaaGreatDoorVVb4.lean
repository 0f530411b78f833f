import Derived.Test.YtmkhomfchbmkfaaGreatDoorVVT
/- Functions of the code, told plainly and checked by the kernel. -/
set_option linter.unusedVariables false
set_option linter.unusedSimpArgs false
set_option maxRecDepth 100000
namespace Tg
noncomputable section
open Go.Abs hiding fuel
open Go.Proofs.Tryz (prog)
open Int (ofNat toNat)
open Go.IntKind (wrap)
def Yrz:Tb:=[]
def F192:TFun:=⟨[],[],[.c (.int .u8)],[.c (.p di)],qc [qn 2,qi,qn 4],[],[],0⟩
def Yam:=mkC Yrz prog 192 F192
theorem Yui:Yam.ok prog 192:=mkO trivial
def Zmc (a0:Int):Option (Int×Unit):=Yam.fn (a0,())
theorem Zyy a0:Eq (Zmc a0) <| bif a0<=4 then some (0,()) else bif a0<=6 then some (1,()) else some (2,()):=mkE
def Yr0:Tb:=[]
def F193:TFun:=⟨[],[],[.a Vq4,.c di,.c di],[.c (.p db)],qc [qn 6,qb,qn 45],[],[],0⟩
def Yan:=mkC Yr0 prog 193 F193
theorem Yuj:Yan.ok prog 193:=mkO trivial
def Zmd (a0:Vy2)(a1 a2:Int):Option (Bool×Unit):=Yan.fn (a0,a1,a2,())
theorem Zyz a0 a1 a2:Eq (Zmd a0 a1 a2) <| bif a0.1>=1 then bif a0.1<=19 then bif a0.2.1>=0 then let k1:=bif a0.2.2.2.2.1>=0 then bif a0.2.2.2.2.1<=400 then bif a0.2.2.1==a1 then some (a0.2.2.2.1==a2,()) else some (false,()) else some (false,()) else some (false,());bif a0.2.1==0 then k1 else bif a0.1==1 then k1 else some (false,()) else some (false,()) else some (false,()) else some (false,()):=mkE
def Z3y:Tb:=[(192,Yam),(193,Yan)]
def F161:TFun:=⟨[11,2],[(2,qc [[.c (.p (.sl Vq4))],qn 4,[.c (.rowN 3 1 Vq11)],[.c (.rowN 3 1 Vq11)],qn 95]),(4,qc [[.c (.p (.sl Vq4))],qn 4,[.c (.rowN 3 1 Vq11)],[.c (.rowN 3 1 Vq11)],qi,qn 94]),(11,qc [[.c (.p (.sl Vq4))],qn 4,[.c (.rowN 3 1 Vq11)],[.c (.rowN 3 1 Vq11)],qi,qi,qi,qi,qi,qn 90])],[.c (.sl Vq4)],[.c (.s 3 1 Vq11),.c (.s 3 1 Vq11),.c (.p db)],qc [qn 2,[.c (.rowN 3 1 Vq11)],[.c (.rowN 3 1 Vq11)],qb,qn 97],[],[],0⟩
def Zwj:=mkC Z3y prog 161 F161
theorem Yuk:Zwj.ok prog 161:=mkO ⟨Yui,Yuj,trivial⟩
def Ydy:TCon:=⟨Zwj.args,[.c (.p (.sl Vq11)),.c (.p (.sl Vq11)),.c (.p db)],Zwj.fn⟩
theorem Yr1:Ydy.ok prog 161:=TCon.frz (c:=Zwj) Yuk rfl
def Zhp (a0:(List Vy2)):Option Vy10:=Zwj.fn (a0,())
def Zme (n:Nat)(x0:(List Vy2))(x1 x2:Vy8):Option Vy10:=itr Z3y prog 161 F161 n 2 (x0,x1,x2,())
def Z5 (n:Nat)(x0:(List Vy2))(x1 x2:Vy8)(x3:Int):Option Vy10:=itr Z3y prog 161 F161 n 4 (x0,x1,x2,x3,())
def Qy (n:Nat)(x0:(List Vy2))(x1 x2:Vy8)(x3 x4 x5 x6 x7:Int):Option Vy10:=itr Z3y prog 161 F161 n 11 (x0,x1,x2,x3,x4,x5,x6,x7,())
theorem Zy0 a0:Eq (Zhp a0) <| Z5 fuel a0 ([]) ([]) 0:=mkE
theorem Zwk n x0 x1 x2:Eq (Zme (n+1) x0 x1 x2) <| bif ofNat x0.length>0 then bif 0<=wrap .i64 (ofNat x0.length - 1) then bif toNat (wrap .i64 (ofNat x0.length - 1))<x1.length then match x1[toNat (wrap .i64 (ofNat x0.length - 1))]? with | none=>none | some e0=>some (x1,x2,e0.1==ofNat x0.length,()) else none else none else some (x1,x2,false,()):=mkI
theorem Zat n x0 x1 x2 x3:Eq (Z5 (n+1) x0 x1 x2 x3) <| bif x3<ofNat x0.length then bif 0<=x3 then match x0[x3.toNat]? with | none=>none | some e0=>match Zmc e0.1 with | none=>none | some e1=>bif e1.1>0 then bif wrap .i64 (x3 - 1)<0 then some ([],[],false,()) else bif 0<=wrap .i64 (x3 - 1) then bif toNat (wrap .i64 (x3 - 1))<x1.length then match x1[toNat (wrap .i64 (x3 - 1))]? with | none=>none | some e2=>bif 0<=wrap .i64 (x3 - 1) then bif toNat (wrap .i64 (x3 - 1))<x1.length then match x1[toNat (wrap .i64 (x3 - 1))]? with | none=>none | some e3=>bif 0<=wrap .i64 (x3 - 1) then bif toNat (wrap .i64 (x3 - 1))<x2.length then match x2[toNat (wrap .i64 (x3 - 1))]? with | none=>none | some e4=>bif e1.1==2 then bif wrap .i64 (wrap .i64 (x3 - 1) - e2.1)<0 then some ([],[],false,()) else bif 0<=wrap .i64 (wrap .i64 (x3 - 1) - e2.1) then bif toNat (wrap .i64 (wrap .i64 (x3 - 1) - e2.1))<x1.length then match x1[toNat (wrap .i64 (wrap .i64 (x3 - 1) - e2.1))]? with | none=>none | some e5=>bif 0<=wrap .i64 (wrap .i64 (x3 - 1) - e2.1) then bif toNat (wrap .i64 (wrap .i64 (x3 - 1) - e2.1))<x2.length then match x2[toNat (wrap .i64 (wrap .i64 (x3 - 1) - e2.1))]? with | none=>none | some e6=>Qy n x0 x1 x2 x3 (wrap .i64 (wrap .i64 (x3 - 1) - e2.1)) (wrap .i64 (x3 - 1)) (wrap .i64 (wrap .i64 (1+e3.1)+e5.1)) (tmm true (wrap .i64 (1+e4.1)) (wrap .i64 (1+e6.1))) else none else none else none else none else Qy n x0 x1 x2 x3 (wrap .i64 (x3 - 1)) 0 (wrap .i64 (1+e3.1)) (wrap .i64 (1+e4.1)) else none else none else none else none else none else none else Qy n x0 x1 x2 x3 0 0 1 1 else none else Zme n x0 x1 x2:=mkI
theorem Ztl n x0 x1 x2 x3 x4 x5 x6 x7:Eq (Qy (n+1) x0 x1 x2 x3 x4 x5 x6 x7) <| bif 0<=x3 then match x0[x3.toNat]? with | none=>none | some e0=>match Zmd e0 x4 x5 with | none=>none | some e1=>bif !e1.1 then some ([],[],false,()) else bif Zb (x1.length+List.length [(x6,())]) 8 then bif Zb (x2.length+List.length [(x7,())]) 8 then Z5 n x0 (x1++[(x6,())]) (x2++[(x7,())]) (wrap .i64 (x3+1)) else none else none else none:=mkI
def Yr2:Tb:=[(161,Ydy)]
def F129:TFun:=⟨[],[],[.c (.sl Vq4)],[.c (.p di)],qc [qn 2,qi,qn 21],[],[],0⟩
def Z3z:=mkC Yr2 prog 129 F129
theorem Ypo:Z3z.ok prog 129:=mkO ⟨Yr1,trivial⟩
def Qa (a0:(List Vy2)):Option (Int×Unit):=Z3z.fn (a0,())
theorem Zy1 a0:Eq (Qa a0) <| bif ofNat a0.length>60 then some (4,()) else match Zhp a0 with | none=>none | some e0=>bif !e0.2.2.1 then some (8,()) else bif 0<=wrap .i64 (ofNat a0.length - 1) then match e0.2.1[toNat (wrap .i64 (ofNat a0.length - 1))]? with | none=>none | some e1=>bif e1.1>20 then some (34,()) else some (0,()) else none:=mkE
def Zwl:Tb:=[]
def F130:TFun:=⟨[7],[(7,qc [[.c (.p (.sl Vq11))],qn 59]),(9,qc [[.c (.p (.sl Vq11))],qn 4,qi,qn 54]),(17,qc [[.c (.p (.sl Vq11))],qn 5,qi,qn 53]),(22,qc [[.c (.p (.sl Vq11))],qn 5,qi,qi,qn 52])],[.c (.sl Vq11),.c db],[.c (.p di)],qc [qn 4,qi,qn 55],[],[],0⟩
def Yao:=mkC Zwl prog 130 F130
theorem Yul:Yao.ok prog 130:=mkO trivial
def Qb (a0:Vy8)(a1:Bool):Option (Int×Unit):=Yao.fn (a0,a1,())
def Ziq (n:Nat)(x0:Vy8):Option (Int×Unit):=itr Zwl prog 130 F130 n 7 (x0,())
def Zau (n:Nat)(x0:Vy8)(x1:Int):Option (Int×Unit):=itr Zwl prog 130 F130 n 9 (x0,x1,())
def Xv (n:Nat)(x0:Vy8)(x1:Int):Option (Int×Unit):=itr Zwl prog 130 F130 n 17 (x0,x1,())
def Q6 (n:Nat)(x0:Vy8)(x1 x2:Int):Option (Int×Unit):=itr Zwl prog 130 F130 n 22 (x0,x1,x2,())
theorem Ztm a0 a1:Eq (Qb a0 a1) <| bif ofNat a0.length>4 then some (4,()) else bif ofNat a0.length==0 then some (8,()) else bif a1 then bif ofNat a0.length !=2 then some (8,()) else Zau fuel a0 0 else Zau fuel a0 0:=mkE
theorem Zr5 n x0:Eq (Ziq (n+1) x0) <| Xv n x0 0:=mkI
theorem Zir n x0 x1:Eq (Zau (n+1) x0 x1) <| bif x1<ofNat x0.length then bif 0<=x1 then match x0[x1.toNat]? with | none=>none | some e0=>bif e0.1<0 then some (8,()) else bif 0<=x1 then match x0[x1.toNat]? with | none=>none | some e1=>bif e1.1>3 then some (8,()) else Zau n x0 (wrap .i64 (x1+1)) else none else none else Ziq n x0:=mkI
theorem Zhq n x0 x1:Eq (Xv (n+1) x0 x1) <| bif x1<ofNat x0.length then Q6 n x0 x1 0 else some (0,()):=mkI
theorem Zhr n x0 x1 x2:Eq (Q6 (n+1) x0 x1 x2) <| bif x2<x1 then bif 0<=x2 then match x0[x2.toNat]? with | none=>none | some e0=>bif 0<=x1 then match x0[x1.toNat]? with | none=>none | some e1=>bif e0.1==e1.1 then some (43,()) else Q6 n x0 x1 (wrap .i64 (x2+1)) else none else none else Xv n x0 (wrap .i64 (x1+1)):=mkI
def Yr3:Tb:=[]
def F131:TFun:=⟨[],[],[.a [.int .u8,.int .i64,.int .i64]],[.c (.p db)],qc [qn 2,qb,qn 42],[],[],0⟩
def Yap:=mkC Yr3 prog 131 F131
theorem Yum:Yap.ok prog 131:=mkO trivial
def Zg3 (a0:(Int×Int×Int×Unit)):Option (Bool×Unit):=Yap.fn (a0,())
theorem Z30 a0:Eq (Zg3 a0) <| let k1:=some (false,());bif a0.2.1<1 then k1 else bif a0.2.1>1073741824 then k1 else bif a0.1==2 then bif a0.2.2.1>=1 then bif a0.2.2.1<=a0.2.1 then some ((decide (a0.2.1<=wrap .i64 (16*a0.2.2.1)),())) else k1 else k1 else bif a0.1==1 then some (a0.2.2.1==0,()) else bif a0.1==3 then some (a0.2.2.1==0,()) else k1:=mkE
def Yun:Tb:=[(129,Z3z),(130,Yao),(131,Yap)]
def F88:TFun:=⟨[],[],[.a Vq8],[.c (.p di)],qc [qn 2,qi,qn 77],[],[],0⟩
def Yi4:=mkC Yun prog 88 F88
theorem ok88:Yi4.ok prog 88:=mkO ⟨Ypo,Yul,Yum,trivial⟩
def Zhs (a0:Vy7):Option (Int×Unit):=Yi4.fn (a0,())
theorem Zy2 a0:Eq (Zhs a0) <| bif a0.1<1 then some (8,()) else bif a0.1>4 then some (8,()) else bif a0.2.2.2.2.2.2.2.2.2.1<1 then some (8,()) else bif a0.2.2.2.2.2.2.2.2.2.1>2 then some (8,()) else let k1:Option (Int×Unit):=let k4:Option (Int×Unit):=match Qb a0.2.2.1 a0.2.2.2.1 with | none=>none | some e1=>bif e1.1 !=0 then match Qb a0.2.2.1 a0.2.2.2.1 with | none=>none | some e2=>some (e2.1,()) else match Zg3 (a0.2.2.2.2.2.1,a0.2.2.2.2.2.2.1,a0.2.2.2.2.2.2.2.1,()) with | none=>none | some e2=>bif !e2.1 then some (8,()) else bif a0.2.2.2.1 then bif a0.2.2.2.2.2.1 !=1 then some (8,()) else some (0,()) else some (0,());let k5:Option (Int×Unit):=bif a0.2.2.2.1 then bif a0.2.2.2.2.2.1 !=1 then some (8,()) else some (0,()) else some (0,());bif a0.1 !=1 then match Qa a0.2.1 with | none=>none | some e0=>bif e0.1 !=0 then match Qa a0.2.1 with | none=>none | some e1=>some (e1.1,()) else bif ofNat a0.2.2.2.2.1.length>0 then match Qa a0.2.2.2.2.1 with | none=>none | some e1=>bif e1.1 !=0 then match Qa a0.2.2.2.2.1 with | none=>none | some e2=>some (e2.1,()) else match Qb a0.2.2.1 a0.2.2.2.1 with | none=>none | some e2=>bif e2.1 !=0 then match Qb a0.2.2.1 a0.2.2.2.1 with | none=>none | some e3=>some (e3.1,()) else match Zg3 (a0.2.2.2.2.2.1,a0.2.2.2.2.2.2.1,a0.2.2.2.2.2.2.2.1,()) with | none=>none | some e3=>bif !e3.1 then some (8,()) else k5 else k4 else bif ofNat a0.2.2.2.2.1.length>0 then match Qa a0.2.2.2.2.1 with | none=>none | some e0=>bif e0.1 !=0 then match Qa a0.2.2.2.2.1 with | none=>none | some e1=>some (e1.1,()) else k4 else match Qb a0.2.2.1 a0.2.2.2.1 with | none=>none | some e0=>bif e0.1 !=0 then match Qb a0.2.2.1 a0.2.2.2.1 with | none=>none | some e1=>some (e1.1,()) else match Zg3 (a0.2.2.2.2.2.1,a0.2.2.2.2.2.2.1,a0.2.2.2.2.2.2.2.1,()) with | none=>none | some e1=>bif !e1.1 then some (8,()) else k5;bif a0.1==1 then bif ofNat a0.2.1.length>0 then some (8,()) else k1 else k1:=mkE
def Yr4:Tb:=[]
def F195:TFun:=⟨[],[],[.c (.int .u8)],[.c (.p db)],qc [qn 2,qb,qn 6],[],[],0⟩
def Z31:=mkC Yr4 prog 195 F195
theorem Ypp:Z31.ok prog 195:=mkO trivial
def Zfc (a0:Int):Option (Bool×Unit):=Z31.fn (a0,())
theorem Zy3 a0:Eq (Zfc a0) <| bif a0==6 then some (true,()) else some (decide (a0>=12),()):=mkE
def Yr5:Tb:=[(195,Z31)]
def F222:TFun:=⟨[],[],[.c (.sl Vq4),.c di],[.c (.p db)],qc [qn 4,qb,qn 62],[],[],0⟩
def Yaq:=mkC Yr5 prog 222 F222
theorem Yuo:Yaq.ok prog 222:=mkO ⟨Ypp,trivial⟩
def Zpm (a0:(List Vy2))(a1:Int):Option (Bool×Unit):=Yaq.fn (a0,a1,())
theorem Z32 a0 a1:Eq (Zpm a0 a1) <| bif 0<=a1 then match a0[a1.toNat]? with | none=>none | some e0=>bif 0<=e0.2.2.1 then match a0[e0.2.2.1.toNat]? with | none=>none | some e1=>match Zfc e1.1 with | none=>none | some e2=>bif 0<=e0.2.2.2.1 then match a0[e0.2.2.2.1.toNat]? with | none=>none | some e3=>match Zfc e3.1 with | none=>none | some e4=>bif e0.1<=4 then some (true,()) else bif e0.1==5 then some (!e2.1,()) else bif e0.1==6 then some (e2.1,()) else bif e0.1==16 then some (e2.1==e4.1,()) else bif e0.1==17 then some (e2.1==e4.1,()) else bif e0.1>=18 then bif e2.1 then some (e4.1,()) else some (false,()) else bif !e2.1 then some (!e4.1,()) else some (false,()) else none else none else none:=mkE
def Yi5:Tb:=[(222,Yaq)]
def F194:TFun:=⟨[],[(3,qc [[.c (.p (.sl Vq4))],qn 2,qi,qn 13])],[.c (.sl Vq4)],[.c (.p di)],qc [qn 2,qi,qn 14],[],[],0⟩
def Yar:=mkC Yi5 prog 194 F194
theorem Yup:Yar.ok prog 194:=mkO ⟨Yuo,trivial⟩
def Zmf (a0:(List Vy2)):Option (Int×Unit):=Yar.fn (a0,())
def Zdo (n:Nat)(x0:(List Vy2))(x1:Int):Option (Int×Unit):=itr Yi5 prog 194 F194 n 3 (x0,x1,())
theorem Zy4 a0:Eq (Zmf a0) <| Zdo fuel a0 0:=mkE
theorem Zmg n x0 x1:Eq (Zdo (n+1) x0 x1) <| bif x1<ofNat x0.length then match Zpm x0 x1 with | none=>none | some e0=>bif !e0.1 then some (x1,()) else Zdo n x0 (wrap .i64 (x1+1)) else some (ofNat x0.length,()):=mkI
def Yr6:Tb:=[(129,Z3z),(194,Yar),(195,Z31)]
def F162:TFun:=⟨[],[],[.c (.sl Vq4)],[.c (.p db),.c (.p di),.c (.p di)],qc [qn 2,qb,qi,qi,qn 24],[],[],0⟩
def Yas:=mkC Yr6 prog 162 F162
theorem Yuq:Yas.ok prog 162:=mkO ⟨Ypo,Yup,Ypp,trivial⟩
def Zwm (a0:(List Vy2)):Option (Bool×Int×Int×Unit):=Yas.fn (a0,())
theorem Yat a0:Eq (Zwm a0) <| match Qa a0 with | none=>none | some e0=>bif e0.1 !=0 then match Qa a0 with | none=>none | some e1=>some (false,0,e1.1,()) else match Zmf a0 with | none=>none | some e1=>bif e1.1<ofNat a0.length then some (false,e1.1,42,()) else bif 0<=wrap .i64 (ofNat a0.length - 1) then match a0[toNat (wrap .i64 (ofNat a0.length - 1))]? with | none=>none | some e2=>match Zfc e2.1 with | none=>none | some e3=>some (e3.1,wrap .i64 (ofNat a0.length - 1),0,()) else none:=mkE
def Yr7:Tb:=[(162,Yas)]
def F132:TFun:=⟨[],[],[.c (.sl Vq4),.c db],[.c (.p di),.c (.p di)],qc [qn 4,qi,qi,qn 19],[],[],0⟩
def Yau:=mkC Yr7 prog 132 F132
theorem Yur:Yau.ok prog 132:=mkO ⟨Yuq,trivial⟩
def Zjk (a0:(List Vy2))(a1:Bool):Option Vy9:=Yau.fn (a0,a1,())
theorem Z33 a0 a1:Eq (Zjk a0 a1) <| match Zwm a0 with | none=>none | some e0=>bif e0.2.2.1==0 then bif !e0.1==a1 then some (e0.2.1,42,()) else some e0.2 else some e0.2:=mkE
def Ypq:Tb:=[(132,Yau)]
def F89:TFun:=⟨[1],[(1,qc [qn 1,[.boxN 27 10 [.any,.any,.any,.any,.p (.sl Vq4),.any,.any,.any,.any,.any]],qn 44])],[.a Vq8],[.c (.p di),.c (.p di)],qc [qn 2,qi,qi,qn 42],[],[],0⟩
def Yi6:=mkC Ypq prog 89 F89
theorem ok89:Yi6.ok prog 89:=mkO ⟨Yur,trivial⟩
def Zs9 (a0:Vy7):Option Vy9:=Yi6.fn (a0,())
def Zbq (n:Nat)(x0:(List Vy2)):Option Vy9:=itr Ypq prog 89 F89 n 1 (x0,())
theorem Zy5 a0:Eq (Zs9 a0) <| bif ofNat a0.2.1.length>0 then match Zjk a0.2.1 false with | none=>none | some e0=>bif e0.2.1 !=0 then bif 0<=e0.1 then match a0.2.1[e0.1.toNat]? with | none=>none | some e1=>some (e1.2.2.2.2.1,e0.2.1,()) else none else Zbq fuel a0.2.2.2.2.1 else Zbq fuel a0.2.2.2.2.1:=mkE
theorem Zwn n x0:Eq (Zbq (n+1) x0) <| bif ofNat x0.length>0 then match Zjk x0 true with | none=>none | some e0=>bif e0.2.1 !=0 then bif 0<=e0.1 then match x0[e0.1.toNat]? with | none=>none | some e1=>some (e1.2.2.2.2.1,e0.2.1,()) else none else some (0,0,()) else some (0,0,()):=mkI
def Yus:Tb:=[(88,Yi4),(89,Yi6)]
def F57:TFun:=⟨[],[],[.a Vq8],[.c (.p di),.c (.p di)],qc [qn 2,qi,qi,qn 9],[],[],0⟩
def Ydz:=mkC Yus prog 57 F57
theorem ok57:Ydz.ok prog 57:=mkO ⟨ok88,ok89,trivial⟩
def Zht (a0:Vy7):Option Vy9:=Ydz.fn (a0,())
theorem Zy6 a0:Eq (Zht a0) <| match Zhs a0 with | none=>none | some e0=>bif e0.1 !=0 then match Zhs a0 with | none=>none | some e1=>some (0,e1.1,()) else match Zs9 a0 with | none=>none | some e1=>some e1:=mkE
def Yut:Tb:=[(57,Ydz)]
def F49:TFun:=⟨[],[],[.a Vq8],[.c (.p db)],qc [qn 2,qb,qn 9],[],[],0⟩
def Yi7:=mkC Yut prog 49 F49
theorem ok49:Yi7.ok prog 49:=mkO ⟨ok57,trivial⟩
def Zbr (a0:Vy7):Option (Bool×Unit):=Yi7.fn (a0,())
theorem Zr6 a0:Eq (Zbr a0) <| match Zht a0 with | none=>none | some e0=>some (e0.2.1==0,()):=mkE
end
end Tg
