import Derived.Test.YtdgcdoiefodccaaGreatProg
import Derived.Test.YtdgcdoiefodccaaGreatBVT
/- Functions of the code, told plainly and checked by the kernel. -/
set_option linter.unusedVariables false
set_option linter.unusedSimpArgs false
set_option maxRecDepth 100000
namespace Tg
open Go.Abs hiding fuel
open Go.Proofs.Tryz (prog)
open Int (ofNat toNat)
open Go.IntKind (wrap)
noncomputable def Ypq:Tb:=[]
def F196:TFun:=⟨[],[],[.c (.int .u8)],[.c (.p di)],qc [qn 2,qi,qn 4],[],[],0⟩
noncomputable def Z9b:=mkC Ypq prog 196 F196
theorem Ysb:Z9b.ok prog 196:=mkO trivial (by kernel_rfl)
noncomputable def Zmc (a0:Int):Option (Int×Unit):=Z9b.fn (a0,())
theorem Zye a0:Eq (Zmc a0) <| bif a0≤4 then some (0,()) else bif a0≤6 then some (1,()) else some (2,()):=mkE (by kernel_rfl)
noncomputable def Ypr:Tb:=[]
def F197:TFun:=⟨[],[],[.a Vq5,.c di,.c di],[.c (.p db)],qc [qn 6,qb,qn 45],[],[],0⟩
noncomputable def Z9c:=mkC Ypr prog 197 F197
theorem Ysc:Z9c.ok prog 197:=mkO trivial (by kernel_rfl)
noncomputable def Zmd (a0:Vy2)(a1 a2:Int):Option (Bool×Unit):=Z9c.fn (a0,a1,a2,())
theorem Zyf a0 a1 a2:Eq (Zmd a0 a1 a2) <| bif a0.1≥1 then bif a0.1≤19 then bif a0.2.1≥0 then let k1:=bif a0.2.2.2.2.1≥0 then bif a0.2.2.2.2.1≤400 then bif a0.2.2.1==a1 then some (a0.2.2.2.1==a2,()) else some (false,()) else some (false,()) else some (false,());bif a0.2.1==0 then k1 else bif a0.1==1 then k1 else some (false,()) else some (false,()) else some (false,()) else some (false,()):=mkE (by kernel_rfl)
noncomputable def Z2w:Tb:=[(196,Z9b),(197,Z9c)]
def F176:TFun:=⟨[11,2],[(2,qc [[.c (.p (.sl Vq5))],qn 4,[.c (.rowN 3 1 Vq11)],[.c (.rowN 3 1 Vq11)],qn 95]),(4,qc [[.c (.p (.sl Vq5))],qn 4,[.c (.rowN 3 1 Vq11)],[.c (.rowN 3 1 Vq11)],qi,qn 94]),(11,qc [[.c (.p (.sl Vq5))],qn 4,[.c (.rowN 3 1 Vq11)],[.c (.rowN 3 1 Vq11)],qi,qi,qi,qi,qi,qn 90])],[.c (.sl Vq5)],[.c (.s 3 1 Vq11),.c (.s 3 1 Vq11),.c (.p db)],qc [qn 2,[.c (.rowN 3 1 Vq11)],[.c (.rowN 3 1 Vq11)],qb,qn 97],[],[],0⟩
noncomputable def Zvz:=mkC Z2w prog 176 F176
theorem Ysd:Zvz.ok prog 176:=mkO ⟨Ysb,Ysc,trivial⟩ (by kernel_rfl)
noncomputable def Yb5:TCon:=⟨Zvz.args,[.c (.p (.sl Vq11)),.c (.p (.sl Vq11)),.c (.p db)],Zvz.fn⟩
theorem Yps:Yb5.ok prog 176:=TCon.frz (c:=Zvz) Ysd rfl
noncomputable def Zhr (a0:(List Vy2)):Option Vy11:=Zvz.fn (a0,())
noncomputable def Zme (n:Nat)(x0:(List Vy2))(x1 x2:Vy8):Option Vy11:=itr Z2w prog 176 F176 n 2 (x0,x1,x2,())
noncomputable def Zz (n:Nat)(x0:(List Vy2))(x1 x2:Vy8)(x3:Int):Option Vy11:=itr Z2w prog 176 F176 n 4 (x0,x1,x2,x3,())
noncomputable def Qp (n:Nat)(x0:(List Vy2))(x1 x2:Vy8)(x3 x4 x5 x6 x7:Int):Option Vy11:=itr Z2w prog 176 F176 n 11 (x0,x1,x2,x3,x4,x5,x6,x7,())
theorem Zyg a0:Eq (Zhr a0) <| Zz fuel a0 ([]) ([]) 0:=mkE (by kernel_rfl)
theorem Zv0 n x0 x1 x2:Eq (Zme (n+1) x0 x1 x2) <| bif ofNat x0.length>0 then bif 0≤wrap .i64 (ofNat x0.length - 1) then bif toNat (wrap .i64 (ofNat x0.length - 1))<x1.length then match x1[toNat (wrap .i64 (ofNat x0.length - 1))]? with | none=>none | some e0=>some (x1,x2,e0.1==ofNat x0.length,()) else none else none else some (x1,x2,false,()):=mkI (by kernel_rfl)
theorem Zam n x0 x1 x2 x3:Eq (Zz (n+1) x0 x1 x2 x3) <| bif x3<ofNat x0.length then bif 0≤x3 then match x0[x3.toNat]? with | none=>none | some e0=>match Zmc e0.1 with | none=>none | some e1=>bif e1.1>0 then bif wrap .i64 (x3 - 1)<0 then some ([],[],false,()) else bif 0≤wrap .i64 (x3 - 1) then bif toNat (wrap .i64 (x3 - 1))<x1.length then match x1[toNat (wrap .i64 (x3 - 1))]? with | none=>none | some e2=>bif 0≤wrap .i64 (x3 - 1) then bif toNat (wrap .i64 (x3 - 1))<x1.length then match x1[toNat (wrap .i64 (x3 - 1))]? with | none=>none | some e3=>bif 0≤wrap .i64 (x3 - 1) then bif toNat (wrap .i64 (x3 - 1))<x2.length then match x2[toNat (wrap .i64 (x3 - 1))]? with | none=>none | some e4=>bif e1.1==2 then bif wrap .i64 (wrap .i64 (x3 - 1) - e2.1)<0 then some ([],[],false,()) else bif 0≤wrap .i64 (wrap .i64 (x3 - 1) - e2.1) then bif toNat (wrap .i64 (wrap .i64 (x3 - 1) - e2.1))<x1.length then match x1[toNat (wrap .i64 (wrap .i64 (x3 - 1) - e2.1))]? with | none=>none | some e5=>bif 0≤wrap .i64 (wrap .i64 (x3 - 1) - e2.1) then bif toNat (wrap .i64 (wrap .i64 (x3 - 1) - e2.1))<x2.length then match x2[toNat (wrap .i64 (wrap .i64 (x3 - 1) - e2.1))]? with | none=>none | some e6=>Qp n x0 x1 x2 x3 (wrap .i64 (wrap .i64 (x3 - 1) - e2.1)) (wrap .i64 (x3 - 1)) (wrap .i64 (wrap .i64 (1+e3.1)+e5.1)) (tmm true (wrap .i64 (1+e4.1)) (wrap .i64 (1+e6.1))) else none else none else none else none else Qp n x0 x1 x2 x3 (wrap .i64 (x3 - 1)) 0 (wrap .i64 (1+e3.1)) (wrap .i64 (1+e4.1)) else none else none else none else none else none else none else Qp n x0 x1 x2 x3 0 0 1 1 else none else Zme n x0 x1 x2:=mkI (by kernel_rfl)
theorem Zth n x0 x1 x2 x3 x4 x5 x6 x7:Eq (Qp (n+1) x0 x1 x2 x3 x4 x5 x6 x7) <| bif 0≤x3 then match x0[x3.toNat]? with | none=>none | some e0=>match Zmd e0 x4 x5 with | none=>none | some e1=>bif !e1.1 then some ([],[],false,()) else bif Zb (x1.length+List.length [(x6,())]) 8 then bif Zb (x2.length+List.length [(x7,())]) 8 then Zz n x0 (x1++[(x6,())]) (x2++[(x7,())]) (wrap .i64 (x3+1)) else none else none else none:=mkI (by kernel_rfl)
noncomputable def Ypt:Tb:=[(176,Yb5)]
def F149:TFun:=⟨[],[],[.c (.sl Vq5)],[.c (.p di)],qc [qn 2,qi,qn 21],[],[],0⟩
noncomputable def Z2x:=mkC Ypt prog 149 F149
theorem Yno:Z2x.ok prog 149:=mkO ⟨Yps,trivial⟩ (by kernel_rfl)
noncomputable def X3 (a0:(List Vy2)):Option (Int×Unit):=Z2x.fn (a0,())
theorem Zyh a0:Eq (X3 a0) <| bif ofNat a0.length>60 then some (4,()) else match Zhr a0 with | none=>none | some e0=>bif !e0.2.2.1 then some (8,()) else bif 0≤wrap .i64 (ofNat a0.length - 1) then match e0.2.1[toNat (wrap .i64 (ofNat a0.length - 1))]? with | none=>none | some e1=>bif e1.1>20 then some (34,()) else some (0,()) else none:=mkE (by kernel_rfl)
noncomputable def Zv1:Tb:=[]
def F150:TFun:=⟨[7],[(7,qc [[.c (.p (.sl Vq11))],qn 59]),(9,qc [[.c (.p (.sl Vq11))],qn 4,qi,qn 54]),(17,qc [[.c (.p (.sl Vq11))],qn 5,qi,qn 53]),(22,qc [[.c (.p (.sl Vq11))],qn 5,qi,qi,qn 52])],[.c (.sl Vq11),.c db],[.c (.p di)],qc [qn 4,qi,qn 55],[],[],0⟩
noncomputable def Z9d:=mkC Zv1 prog 150 F150
theorem Yse:Z9d.ok prog 150:=mkO trivial (by kernel_rfl)
noncomputable def X4 (a0:Vy8)(a1:Bool):Option (Int×Unit):=Z9d.fn (a0,a1,())
noncomputable def Ziu (n:Nat)(x0:Vy8):Option (Int×Unit):=itr Zv1 prog 150 F150 n 7 (x0,())
noncomputable def Zan (n:Nat)(x0:Vy8)(x1:Int):Option (Int×Unit):=itr Zv1 prog 150 F150 n 9 (x0,x1,())
noncomputable def Xr (n:Nat)(x0:Vy8)(x1:Int):Option (Int×Unit):=itr Zv1 prog 150 F150 n 17 (x0,x1,())
noncomputable def Qy (n:Nat)(x0:Vy8)(x1 x2:Int):Option (Int×Unit):=itr Zv1 prog 150 F150 n 22 (x0,x1,x2,())
theorem Zti a0 a1:Eq (X4 a0 a1) <| bif ofNat a0.length>4 then some (4,()) else bif ofNat a0.length==0 then some (8,()) else bif a1 then bif ofNat a0.length !=2 then some (8,()) else Zan fuel a0 0 else Zan fuel a0 0:=mkE (by kernel_rfl)
theorem Zrx n x0:Eq (Ziu (n+1) x0) <| Xr n x0 0:=mkI (by kernel_rfl)
theorem Ziv n x0 x1:Eq (Zan (n+1) x0 x1) <| bif x1<ofNat x0.length then bif 0≤x1 then match x0[x1.toNat]? with | none=>none | some e0=>bif e0.1<0 then some (8,()) else bif 0≤x1 then match x0[x1.toNat]? with | none=>none | some e1=>bif e1.1>3 then some (8,()) else Zan n x0 (wrap .i64 (x1+1)) else none else none else Ziu n x0:=mkI (by kernel_rfl)
theorem Zhs n x0 x1:Eq (Xr (n+1) x0 x1) <| bif x1<ofNat x0.length then Qy n x0 x1 0 else some (0,()):=mkI (by kernel_rfl)
theorem Zht n x0 x1 x2:Eq (Qy (n+1) x0 x1 x2) <| bif x2<x1 then bif 0≤x2 then match x0[x2.toNat]? with | none=>none | some e0=>bif 0≤x1 then match x0[x1.toNat]? with | none=>none | some e1=>bif e0.1==e1.1 then some (43,()) else Qy n x0 x1 (wrap .i64 (x2+1)) else none else none else Xr n x0 (wrap .i64 (x1+1)):=mkI (by kernel_rfl)
noncomputable def Ypu:Tb:=[]
def F151:TFun:=⟨[],[],[.a [.int .u8,.int .i64,.int .i64]],[.c (.p db)],qc [qn 2,qb,qn 42],[],[],0⟩
noncomputable def Z9e:=mkC Ypu prog 151 F151
theorem Ysf:Z9e.ok prog 151:=mkO trivial (by kernel_rfl)
noncomputable def Zg3 (a0:(Int×Int×Int×Unit)):Option (Bool×Unit):=Z9e.fn (a0,())
theorem Z2y a0:Eq (Zg3 a0) <| let k1:=some (false,());bif a0.2.1<1 then k1 else bif a0.2.1>1073741824 then k1 else bif a0.1==2 then bif a0.2.2.1≥1 then bif a0.2.2.1≤a0.2.1 then some ((decide (a0.2.1≤wrap .i64 (16*a0.2.2.1)),())) else k1 else k1 else bif a0.1==1 then some (a0.2.2.1==0,()) else bif a0.1==3 then some (a0.2.2.1==0,()) else k1:=mkE (by kernel_rfl)
noncomputable def Ypv:Tb:=[(149,Z2x),(150,Z9d),(151,Z9e)]
def F119:TFun:=⟨[],[],[.a Vq10],[.c (.p di)],qc [qn 2,qi,qn 77],[],[],0⟩
noncomputable def Z9f:=mkC Ypv prog 119 F119
theorem Ysg:Z9f.ok prog 119:=mkO ⟨Yno,Yse,Ysf,trivial⟩ (by kernel_rfl)
noncomputable def Zhu (a0:Vy7):Option (Int×Unit):=Z9f.fn (a0,())
theorem Zyi a0:Eq (Zhu a0) <| bif a0.1<1 then some (8,()) else bif a0.1>4 then some (8,()) else bif a0.2.2.2.2.2.2.2.2.2.1<1 then some (8,()) else bif a0.2.2.2.2.2.2.2.2.2.1>2 then some (8,()) else let k1:Option (Int×Unit):=let k4:Option (Int×Unit):=match X4 a0.2.2.1 a0.2.2.2.1 with | none=>none | some e1=>bif e1.1 !=0 then match X4 a0.2.2.1 a0.2.2.2.1 with | none=>none | some e2=>some (e2.1,()) else match Zg3 (a0.2.2.2.2.2.1,a0.2.2.2.2.2.2.1,a0.2.2.2.2.2.2.2.1,()) with | none=>none | some e2=>bif !e2.1 then some (8,()) else bif a0.2.2.2.1 then bif a0.2.2.2.2.2.1 !=1 then some (8,()) else some (0,()) else some (0,());let k5:Option (Int×Unit):=bif a0.2.2.2.1 then bif a0.2.2.2.2.2.1 !=1 then some (8,()) else some (0,()) else some (0,());bif a0.1 !=1 then match X3 a0.2.1 with | none=>none | some e0=>bif e0.1 !=0 then match X3 a0.2.1 with | none=>none | some e1=>some (e1.1,()) else bif ofNat a0.2.2.2.2.1.length>0 then match X3 a0.2.2.2.2.1 with | none=>none | some e1=>bif e1.1 !=0 then match X3 a0.2.2.2.2.1 with | none=>none | some e2=>some (e2.1,()) else match X4 a0.2.2.1 a0.2.2.2.1 with | none=>none | some e2=>bif e2.1 !=0 then match X4 a0.2.2.1 a0.2.2.2.1 with | none=>none | some e3=>some (e3.1,()) else match Zg3 (a0.2.2.2.2.2.1,a0.2.2.2.2.2.2.1,a0.2.2.2.2.2.2.2.1,()) with | none=>none | some e3=>bif !e3.1 then some (8,()) else k5 else k4 else bif ofNat a0.2.2.2.2.1.length>0 then match X3 a0.2.2.2.2.1 with | none=>none | some e0=>bif e0.1 !=0 then match X3 a0.2.2.2.2.1 with | none=>none | some e1=>some (e1.1,()) else k4 else match X4 a0.2.2.1 a0.2.2.2.1 with | none=>none | some e0=>bif e0.1 !=0 then match X4 a0.2.2.1 a0.2.2.2.1 with | none=>none | some e1=>some (e1.1,()) else match Zg3 (a0.2.2.2.2.2.1,a0.2.2.2.2.2.2.1,a0.2.2.2.2.2.2.2.1,()) with | none=>none | some e1=>bif !e1.1 then some (8,()) else k5;bif a0.1==1 then bif ofNat a0.2.1.length>0 then some (8,()) else k1 else k1:=mkE (by kernel_rfl)
noncomputable def Ypw:Tb:=[]
def F199:TFun:=⟨[],[],[.c (.int .u8)],[.c (.p db)],qc [qn 2,qb,qn 6],[],[],0⟩
noncomputable def Z2z:=mkC Ypw prog 199 F199
theorem Ynp:Z2z.ok prog 199:=mkO trivial (by kernel_rfl)
noncomputable def Zfa (a0:Int):Option (Bool×Unit):=Z2z.fn (a0,())
theorem Zyj a0:Eq (Zfa a0) <| bif a0==6 then some (true,()) else some (decide (a0≥12),()):=mkE (by kernel_rfl)
noncomputable def Ypx:Tb:=[(199,Z2z)]
def F204:TFun:=⟨[],[],[.c (.sl Vq5),.c di],[.c (.p db)],qc [qn 4,qb,qn 62],[],[],0⟩
noncomputable def Z9g:=mkC Ypx prog 204 F204
theorem Ysh:Z9g.ok prog 204:=mkO ⟨Ynp,trivial⟩ (by kernel_rfl)
noncomputable def Zpj (a0:(List Vy2))(a1:Int):Option (Bool×Unit):=Z9g.fn (a0,a1,())
theorem Z20 a0 a1:Eq (Zpj a0 a1) <| bif 0≤a1 then match a0[a1.toNat]? with | none=>none | some e0=>bif 0≤e0.2.2.1 then match a0[e0.2.2.1.toNat]? with | none=>none | some e1=>match Zfa e1.1 with | none=>none | some e2=>bif 0≤e0.2.2.2.1 then match a0[e0.2.2.2.1.toNat]? with | none=>none | some e3=>match Zfa e3.1 with | none=>none | some e4=>bif e0.1≤4 then some (true,()) else bif e0.1==5 then some (!e2.1,()) else bif e0.1==6 then some (e2.1,()) else bif e0.1==16 then some (e2.1==e4.1,()) else bif e0.1==17 then some (e2.1==e4.1,()) else bif e0.1≥18 then bif e2.1 then some (e4.1,()) else some (false,()) else bif !e2.1 then some (!e4.1,()) else some (false,()) else none else none else none:=mkE (by kernel_rfl)
noncomputable def Yg4:Tb:=[(204,Z9g)]
def F198:TFun:=⟨[],[(3,qc [[.c (.p (.sl Vq5))],qn 2,qi,qn 13])],[.c (.sl Vq5)],[.c (.p di)],qc [qn 2,qi,qn 14],[],[],0⟩
noncomputable def Z9h:=mkC Yg4 prog 198 F198
theorem Ysi:Z9h.ok prog 198:=mkO ⟨Ysh,trivial⟩ (by kernel_rfl)
noncomputable def Zmf (a0:(List Vy2)):Option (Int×Unit):=Z9h.fn (a0,())
noncomputable def Zdj (n:Nat)(x0:(List Vy2))(x1:Int):Option (Int×Unit):=itr Yg4 prog 198 F198 n 3 (x0,x1,())
theorem Zyk a0:Eq (Zmf a0) <| Zdj fuel a0 0:=mkE (by kernel_rfl)
theorem Zmg n x0 x1:Eq (Zdj (n+1) x0 x1) <| bif x1<ofNat x0.length then match Zpj x0 x1 with | none=>none | some e0=>bif !e0.1 then some (x1,()) else Zdj n x0 (wrap .i64 (x1+1)) else some (ofNat x0.length,()):=mkI (by kernel_rfl)
noncomputable def Ypy:Tb:=[(149,Z2x),(198,Z9h),(199,Z2z)]
def F177:TFun:=⟨[],[],[.c (.sl Vq5)],[.c (.p db),.c (.p di),.c (.p di)],qc [qn 2,qb,qi,qi,qn 24],[],[],0⟩
noncomputable def Z9i:=mkC Ypy prog 177 F177
theorem Ysj:Z9i.ok prog 177:=mkO ⟨Yno,Ysi,Ynp,trivial⟩ (by kernel_rfl)
noncomputable def Zv2 (a0:(List Vy2)):Option (Bool×Int×Int×Unit):=Z9i.fn (a0,())
theorem Z9j a0:Eq (Zv2 a0) <| match X3 a0 with | none=>none | some e0=>bif e0.1 !=0 then match X3 a0 with | none=>none | some e1=>some (false,0,e1.1,()) else match Zmf a0 with | none=>none | some e1=>bif e1.1<ofNat a0.length then some (false,e1.1,42,()) else bif 0≤wrap .i64 (ofNat a0.length - 1) then match a0[toNat (wrap .i64 (ofNat a0.length - 1))]? with | none=>none | some e2=>match Zfa e2.1 with | none=>none | some e3=>some (e3.1,wrap .i64 (ofNat a0.length - 1),0,()) else none:=mkE (by kernel_rfl)
noncomputable def Ypz:Tb:=[(177,Z9i)]
def F152:TFun:=⟨[],[],[.c (.sl Vq5),.c db],[.c (.p di),.c (.p di)],qc [qn 4,qi,qi,qn 19],[],[],0⟩
noncomputable def Z9k:=mkC Ypz prog 152 F152
theorem Ysk:Z9k.ok prog 152:=mkO ⟨Ysj,trivial⟩ (by kernel_rfl)
noncomputable def Zjj (a0:(List Vy2))(a1:Bool):Option Vy10:=Z9k.fn (a0,a1,())
theorem Z21 a0 a1:Eq (Zjj a0 a1) <| match Zv2 a0 with | none=>none | some e0=>bif e0.2.2.1==0 then bif !e0.1==a1 then some (e0.2.1,42,()) else some e0.2 else some e0.2:=mkE (by kernel_rfl)
noncomputable def Yg5:Tb:=[(152,Z9k)]
def F120:TFun:=⟨[1],[(1,qc [qn 1,[.boxN 27 10 [.any,.any,.any,.any,.p (.sl Vq5),.any,.any,.any,.any,.any]],qn 44])],[.a Vq10],[.c (.p di),.c (.p di)],qc [qn 2,qi,qi,qn 42],[],[],0⟩
noncomputable def Z9l:=mkC Yg5 prog 120 F120
theorem Ysl:Z9l.ok prog 120:=mkO ⟨Ysk,trivial⟩ (by kernel_rfl)
noncomputable def Zs4 (a0:Vy7):Option Vy10:=Z9l.fn (a0,())
noncomputable def Zbl (n:Nat)(x0:(List Vy2)):Option Vy10:=itr Yg5 prog 120 F120 n 1 (x0,())
theorem Zyl a0:Eq (Zs4 a0) <| bif ofNat a0.2.1.length>0 then match Zjj a0.2.1 false with | none=>none | some e0=>bif e0.2.1 !=0 then bif 0≤e0.1 then match a0.2.1[e0.1.toNat]? with | none=>none | some e1=>some (e1.2.2.2.2.1,e0.2.1,()) else none else Zbl fuel a0.2.2.2.2.1 else Zbl fuel a0.2.2.2.2.1:=mkE (by kernel_rfl)
theorem Zv3 n x0:Eq (Zbl (n+1) x0) <| bif ofNat x0.length>0 then match Zjj x0 true with | none=>none | some e0=>bif e0.2.1 !=0 then bif 0≤e0.1 then match x0[e0.1.toNat]? with | none=>none | some e1=>some (e1.2.2.2.2.1,e0.2.1,()) else none else some (0,0,()) else some (0,0,()):=mkI (by kernel_rfl)
noncomputable def Ysm:Tb:=[(119,Z9f),(120,Z9l)]
def F82:TFun:=⟨[],[],[.a Vq10],[.c (.p di),.c (.p di)],qc [qn 2,qi,qi,qn 9],[],[],0⟩
noncomputable def Yb6:=mkC Ysm prog 82 F82
theorem ok82:Yb6.ok prog 82:=mkO ⟨Ysg,Ysl,trivial⟩ (by kernel_rfl)
noncomputable def Zhv (a0:Vy7):Option Vy10:=Yb6.fn (a0,())
theorem Zym a0:Eq (Zhv a0) <| match Zhu a0 with | none=>none | some e0=>bif e0.1 !=0 then match Zhu a0 with | none=>none | some e1=>some (0,e1.1,()) else match Zs4 a0 with | none=>none | some e1=>some e1:=mkE (by kernel_rfl)
noncomputable def Ysn:Tb:=[(82,Yb6)]
def F51:TFun:=⟨[],[],[.a Vq10],[.c (.p db)],qc [qn 2,qb,qn 9],[],[],0⟩
noncomputable def Yg6:=mkC Ysn prog 51 F51
theorem ok51:Yg6.ok prog 51:=mkO ⟨ok82,trivial⟩ (by kernel_rfl)
noncomputable def Zdk (a0:Vy7):Option (Bool×Unit):=Yg6.fn (a0,())
theorem Zry a0:Eq (Zdk a0) <| match Zhv a0 with | none=>none | some e0=>some (e0.2.1==0,()):=mkE (by kernel_rfl)
end Tg
