import Derived.Test.YtdppkfgoiagepaaGreatDoorBVT
/- Functions of the code, told plainly and checked by the kernel. -/
set_option linter.unusedVariables false
set_option linter.unusedSimpArgs false
set_option maxRecDepth 100000
namespace Tg
open Go.Abs hiding fuel
open Go.Proofs.Tryz (prog)
open Int (ofNat toNat)
open Go.IntKind (wrap)
noncomputable def Ya3:Tb:=[]
def F151:TFun:=⟨[],[],[.c (.int .u8)],[.c (.p di)],qc [qn 2,qi,qn 4],[],[],0⟩
noncomputable def Zzr:=mkC Ya3 prog 151 F151
theorem Ycn:Zzr.ok prog 151:=mkO trivial (by kernel_rfl)
noncomputable def Zhv (a0:Int):Option (Int×Unit):=Zzr.fn (a0,())
theorem Zq5 a0:Eq (Zhv a0) <| bif a0≤4 then some (0,()) else bif a0≤6 then some (1,()) else some (2,()):=mkE (by kernel_rfl)
noncomputable def Ya4:Tb:=[]
def F152:TFun:=⟨[],[],[.a Vq5,.c di,.c di],[.c (.p db)],qc [qn 6,qb,qn 45],[],[],0⟩
noncomputable def Zzs:=mkC Ya4 prog 152 F152
theorem Yco:Zzs.ok prog 152:=mkO trivial (by kernel_rfl)
noncomputable def Zhw (a0:Vy2)(a1 a2:Int):Option (Bool×Unit):=Zzs.fn (a0,a1,a2,())
theorem Zq6 a0 a1 a2:Eq (Zhw a0 a1 a2) <| bif a0.1≥1 then bif a0.1≤19 then bif a0.2.1≥0 then let k1:=bif a0.2.2.2.2.1≥0 then bif a0.2.2.2.2.1≤400 then bif a0.2.2.1==a1 then some (a0.2.2.2.1==a2,()) else some (false,()) else some (false,()) else some (false,());bif a0.2.1==0 then k1 else bif a0.1==1 then k1 else some (false,()) else some (false,()) else some (false,()) else some (false,()):=mkE (by kernel_rfl)
noncomputable def Zu0:Tb:=[(151,Zzr),(152,Zzs)]
def F121:TFun:=⟨[11,2],[(2,qc [[.c (.p (.sl Vq5))],qn 4,[.c (.rowN 3 1 Vq11)],[.c (.rowN 3 1 Vq11)],qn 95]),(4,qc [[.c (.p (.sl Vq5))],qn 4,[.c (.rowN 3 1 Vq11)],[.c (.rowN 3 1 Vq11)],qi,qn 94]),(11,qc [[.c (.p (.sl Vq5))],qn 4,[.c (.rowN 3 1 Vq11)],[.c (.rowN 3 1 Vq11)],qi,qi,qi,qi,qi,qn 90])],[.c (.sl Vq5)],[.c (.s 3 1 Vq11),.c (.s 3 1 Vq11),.c (.p db)],qc [qn 2,[.c (.rowN 3 1 Vq11)],[.c (.rowN 3 1 Vq11)],qb,qn 97],[],[],0⟩
noncomputable def Zp0:=mkC Zu0 prog 121 F121
theorem Ycp:Zp0.ok prog 121:=mkO ⟨Ycn,Yco,trivial⟩ (by kernel_rfl)
noncomputable def Z1y:TCon:=⟨Zp0.args,[.c (.p (.sl Vq11)),.c (.p (.sl Vq11)),.c (.p db)],Zp0.fn⟩
theorem Ya5:Z1y.ok prog 121:=TCon.frz (c:=Zp0) Ycp rfl
noncomputable def Zer (a0:(List Vy2)):Option Vy9:=Zp0.fn (a0,())
noncomputable def Zhx (n:Nat)(x0:(List Vy2))(x1 x2:Vy7):Option Vy9:=itr Zu0 prog 121 F121 n 2 (x0,x1,x2,())
noncomputable def Zz (n:Nat)(x0:(List Vy2))(x1 x2:Vy7)(x3:Int):Option Vy9:=itr Zu0 prog 121 F121 n 4 (x0,x1,x2,x3,())
noncomputable def Xr (n:Nat)(x0:(List Vy2))(x1 x2:Vy7)(x3 x4 x5 x6 x7:Int):Option Vy9:=itr Zu0 prog 121 F121 n 11 (x0,x1,x2,x3,x4,x5,x6,x7,())
theorem Zq7 a0:Eq (Zer a0) <| Zz fuel a0 ([]) ([]) 0:=mkE (by kernel_rfl)
theorem Zp1 n x0 x1 x2:Eq (Zhx (n+1) x0 x1 x2) <| bif ofNat x0.length>0 then bif 0≤wrap .i64 (ofNat x0.length - 1) then bif toNat (wrap .i64 (ofNat x0.length - 1))<x1.length then match x1[toNat (wrap .i64 (ofNat x0.length - 1))]? with | none=>none | some e0=>some (x1,x2,e0.1==ofNat x0.length,()) else none else none else some (x1,x2,false,()):=mkI (by kernel_rfl)
theorem Qa n x0 x1 x2 x3:Eq (Zz (n+1) x0 x1 x2 x3) <| bif x3<ofNat x0.length then bif 0≤x3 then match x0[x3.toNat]? with | none=>none | some e0=>match Zhv e0.1 with | none=>none | some e1=>bif e1.1>0 then bif wrap .i64 (x3 - 1)<0 then some ([],[],false,()) else bif 0≤wrap .i64 (x3 - 1) then bif toNat (wrap .i64 (x3 - 1))<x1.length then match x1[toNat (wrap .i64 (x3 - 1))]? with | none=>none | some e2=>bif 0≤wrap .i64 (x3 - 1) then bif toNat (wrap .i64 (x3 - 1))<x1.length then match x1[toNat (wrap .i64 (x3 - 1))]? with | none=>none | some e3=>bif 0≤wrap .i64 (x3 - 1) then bif toNat (wrap .i64 (x3 - 1))<x2.length then match x2[toNat (wrap .i64 (x3 - 1))]? with | none=>none | some e4=>bif e1.1==2 then bif wrap .i64 (wrap .i64 (x3 - 1) - e2.1)<0 then some ([],[],false,()) else bif 0≤wrap .i64 (wrap .i64 (x3 - 1) - e2.1) then bif toNat (wrap .i64 (wrap .i64 (x3 - 1) - e2.1))<x1.length then match x1[toNat (wrap .i64 (wrap .i64 (x3 - 1) - e2.1))]? with | none=>none | some e5=>bif 0≤wrap .i64 (wrap .i64 (x3 - 1) - e2.1) then bif toNat (wrap .i64 (wrap .i64 (x3 - 1) - e2.1))<x2.length then match x2[toNat (wrap .i64 (wrap .i64 (x3 - 1) - e2.1))]? with | none=>none | some e6=>Xr n x0 x1 x2 x3 (wrap .i64 (wrap .i64 (x3 - 1) - e2.1)) (wrap .i64 (x3 - 1)) (wrap .i64 (wrap .i64 (1+e3.1)+e5.1)) (tmm true (wrap .i64 (1+e4.1)) (wrap .i64 (1+e6.1))) else none else none else none else none else Xr n x0 x1 x2 x3 (wrap .i64 (x3 - 1)) 0 (wrap .i64 (1+e3.1)) (wrap .i64 (1+e4.1)) else none else none else none else none else none else none else Xr n x0 x1 x2 x3 0 0 1 1 else none else Zhx n x0 x1 x2:=mkI (by kernel_rfl)
theorem Znf n x0 x1 x2 x3 x4 x5 x6 x7:Eq (Xr (n+1) x0 x1 x2 x3 x4 x5 x6 x7) <| bif 0≤x3 then match x0[x3.toNat]? with | none=>none | some e0=>match Zhw e0 x4 x5 with | none=>none | some e1=>bif !e1.1 then some ([],[],false,()) else bif Ze (x1.length+List.length [(x6,())]) 8 then bif Ze (x2.length+List.length [(x7,())]) 8 then Zz n x0 (x1++[(x6,())]) (x2++[(x7,())]) (wrap .i64 (x3+1)) else none else none else none:=mkI (by kernel_rfl)
noncomputable def Ycq:Tb:=[(121,Z1y)]
def F94:TFun:=⟨[],[],[.c (.sl Vq5)],[.c (.p di)],qc [qn 2,qi,qn 21],[],[],0⟩
noncomputable def Z1z:=mkC Ycq prog 94 F94
theorem ok94:Z1z.ok prog 94:=mkO ⟨Ya5,trivial⟩ (by kernel_rfl)
noncomputable def Xc (a0:(List Vy2)):Option (Int×Unit):=Z1z.fn (a0,())
theorem Zq8 a0:Eq (Xc a0) <| bif ofNat a0.length>60 then some (4,()) else match Zer a0 with | none=>none | some e0=>bif !e0.2.2.1 then some (8,()) else bif 0≤wrap .i64 (ofNat a0.length - 1) then match e0.2.1[toNat (wrap .i64 (ofNat a0.length - 1))]? with | none=>none | some e1=>bif e1.1>20 then some (34,()) else some (0,()) else none:=mkE (by kernel_rfl)
noncomputable def Zxq:Tb:=[]
def F95:TFun:=⟨[7],[(7,qc [[.c (.p (.sl Vq11))],qn 59]),(9,qc [[.c (.p (.sl Vq11))],qn 4,qi,qn 54]),(17,qc [[.c (.p (.sl Vq11))],qn 5,qi,qn 53]),(22,qc [[.c (.p (.sl Vq11))],qn 5,qi,qi,qn 52])],[.c (.sl Vq11),.c db],[.c (.p di)],qc [qn 4,qi,qn 55],[],[],0⟩
noncomputable def Z5w:=mkC Zxq prog 95 F95
theorem ok95:Z5w.ok prog 95:=mkO trivial (by kernel_rfl)
noncomputable def Xd (a0:Vy7)(a1:Bool):Option (Int×Unit):=Z5w.fn (a0,a1,())
noncomputable def Zfl (n:Nat)(x0:Vy7):Option (Int×Unit):=itr Zxq prog 95 F95 n 7 (x0,())
noncomputable def Xf (n:Nat)(x0:Vy7)(x1:Int):Option (Int×Unit):=itr Zxq prog 95 F95 n 9 (x0,x1,())
noncomputable def Y3 (n:Nat)(x0:Vy7)(x1:Int):Option (Int×Unit):=itr Zxq prog 95 F95 n 17 (x0,x1,())
noncomputable def Xy (n:Nat)(x0:Vy7)(x1 x2:Int):Option (Int×Unit):=itr Zxq prog 95 F95 n 22 (x0,x1,x2,())
theorem Zng a0 a1:Eq (Xd a0 a1) <| bif ofNat a0.length>4 then some (4,()) else bif ofNat a0.length==0 then some (8,()) else bif a1 then bif ofNat a0.length !=2 then some (8,()) else Xf fuel a0 0 else Xf fuel a0 0:=mkE (by kernel_rfl)
theorem Zl6 n x0:Eq (Zfl (n+1) x0) <| Y3 n x0 0:=mkI (by kernel_rfl)
theorem Zfm n x0 x1:Eq (Xf (n+1) x0 x1) <| bif x1<ofNat x0.length then bif 0≤x1 then match x0[x1.toNat]? with | none=>none | some e0=>bif e0.1<0 then some (8,()) else bif 0≤x1 then match x0[x1.toNat]? with | none=>none | some e1=>bif e1.1>3 then some (8,()) else Xf n x0 (wrap .i64 (x1+1)) else none else none else Zfl n x0:=mkI (by kernel_rfl)
theorem Zes n x0 x1:Eq (Y3 (n+1) x0 x1) <| bif x1<ofNat x0.length then Xy n x0 x1 0 else some (0,()):=mkI (by kernel_rfl)
theorem Zet n x0 x1 x2:Eq (Xy (n+1) x0 x1 x2) <| bif x2<x1 then bif 0≤x2 then match x0[x2.toNat]? with | none=>none | some e0=>bif 0≤x1 then match x0[x1.toNat]? with | none=>none | some e1=>bif e0.1==e1.1 then some (43,()) else Xy n x0 x1 (wrap .i64 (x2+1)) else none else none else Y3 n x0 (wrap .i64 (x1+1)):=mkI (by kernel_rfl)
noncomputable def Ycr:Tb:=[]
def F96:TFun:=⟨[],[],[.a [.int .u8,.int .i64,.int .i64]],[.c (.p db)],qc [qn 2,qb,qn 42],[],[],0⟩
noncomputable def Z5x:=mkC Ycr prog 96 F96
theorem ok96:Z5x.ok prog 96:=mkO trivial (by kernel_rfl)
noncomputable def Zd9 (a0:(Int×Int×Int×Unit)):Option (Bool×Unit):=Z5x.fn (a0,())
theorem Zu1 a0:Eq (Zd9 a0) <| let k1:=some (false,());bif a0.2.1<1 then k1 else bif a0.2.1>1073741824 then k1 else bif a0.1==2 then bif a0.2.2.1≥1 then bif a0.2.2.1≤a0.2.1 then some ((decide (a0.2.1≤wrap .i64 (16*a0.2.2.1)),())) else k1 else k1 else bif a0.1==1 then some (a0.2.2.1==0,()) else bif a0.1==3 then some (a0.2.2.1==0,()) else k1:=mkE (by kernel_rfl)
noncomputable def Ycs:Tb:=[(94,Z1z),(95,Z5w),(96,Z5x)]
def F66:TFun:=⟨[],[],[.a Vq10],[.c (.p di)],qc [qn 2,qi,qn 77],[],[],0⟩
noncomputable def Z5y:=mkC Ycs prog 66 F66
theorem ok66:Z5y.ok prog 66:=mkO ⟨ok94,ok95,ok96,trivial⟩ (by kernel_rfl)
noncomputable def Zeu (a0:Vy8):Option (Int×Unit):=Z5y.fn (a0,())
theorem Zq9 a0:Eq (Zeu a0) <| bif a0.1<1 then some (8,()) else bif a0.1>4 then some (8,()) else bif a0.2.2.2.2.2.2.2.2.2.1<1 then some (8,()) else bif a0.2.2.2.2.2.2.2.2.2.1>2 then some (8,()) else let k1:Option (Int×Unit):=let k4:Option (Int×Unit):=match Xd a0.2.2.1 a0.2.2.2.1 with | none=>none | some e1=>bif e1.1 !=0 then match Xd a0.2.2.1 a0.2.2.2.1 with | none=>none | some e2=>some (e2.1,()) else match Zd9 (a0.2.2.2.2.2.1,a0.2.2.2.2.2.2.1,a0.2.2.2.2.2.2.2.1,()) with | none=>none | some e2=>bif !e2.1 then some (8,()) else bif a0.2.2.2.1 then bif a0.2.2.2.2.2.1 !=1 then some (8,()) else some (0,()) else some (0,());let k5:Option (Int×Unit):=bif a0.2.2.2.1 then bif a0.2.2.2.2.2.1 !=1 then some (8,()) else some (0,()) else some (0,());bif a0.1 !=1 then match Xc a0.2.1 with | none=>none | some e0=>bif e0.1 !=0 then match Xc a0.2.1 with | none=>none | some e1=>some (e1.1,()) else bif ofNat a0.2.2.2.2.1.length>0 then match Xc a0.2.2.2.2.1 with | none=>none | some e1=>bif e1.1 !=0 then match Xc a0.2.2.2.2.1 with | none=>none | some e2=>some (e2.1,()) else match Xd a0.2.2.1 a0.2.2.2.1 with | none=>none | some e2=>bif e2.1 !=0 then match Xd a0.2.2.1 a0.2.2.2.1 with | none=>none | some e3=>some (e3.1,()) else match Zd9 (a0.2.2.2.2.2.1,a0.2.2.2.2.2.2.1,a0.2.2.2.2.2.2.2.1,()) with | none=>none | some e3=>bif !e3.1 then some (8,()) else k5 else k4 else bif ofNat a0.2.2.2.2.1.length>0 then match Xc a0.2.2.2.2.1 with | none=>none | some e0=>bif e0.1 !=0 then match Xc a0.2.2.2.2.1 with | none=>none | some e1=>some (e1.1,()) else k4 else match Xd a0.2.2.1 a0.2.2.2.1 with | none=>none | some e0=>bif e0.1 !=0 then match Xd a0.2.2.1 a0.2.2.2.1 with | none=>none | some e1=>some (e1.1,()) else match Zd9 (a0.2.2.2.2.2.1,a0.2.2.2.2.2.2.1,a0.2.2.2.2.2.2.2.1,()) with | none=>none | some e1=>bif !e1.1 then some (8,()) else k5;bif a0.1==1 then bif ofNat a0.2.1.length>0 then some (8,()) else k1 else k1:=mkE (by kernel_rfl)
noncomputable def Ya6:Tb:=[]
def F154:TFun:=⟨[],[],[.c (.int .u8)],[.c (.p db)],qc [qn 2,qb,qn 6],[],[],0⟩
noncomputable def Zu2:=mkC Ya6 prog 154 F154
theorem Z9t:Zu2.ok prog 154:=mkO trivial (by kernel_rfl)
noncomputable def Zcg (a0:Int):Option (Bool×Unit):=Zu2.fn (a0,())
theorem Zra a0:Eq (Zcg a0) <| bif a0==6 then some (true,()) else some (decide (a0≥12),()):=mkE (by kernel_rfl)
noncomputable def Ya7:Tb:=[(154,Zu2)]
def F181:TFun:=⟨[],[],[.c (.sl Vq5),.c di],[.c (.p db)],qc [qn 4,qb,qn 62],[],[],0⟩
noncomputable def Zzt:=mkC Ya7 prog 181 F181
theorem Yct:Zzt.ok prog 181:=mkO ⟨Z9t,trivial⟩ (by kernel_rfl)
noncomputable def Zj2 (a0:(List Vy2))(a1:Int):Option (Bool×Unit):=Zzt.fn (a0,a1,())
theorem Zu3 a0 a1:Eq (Zj2 a0 a1) <| bif 0≤a1 then match a0[a1.toNat]? with | none=>none | some e0=>bif 0≤e0.2.2.1 then match a0[e0.2.2.1.toNat]? with | none=>none | some e1=>match Zcg e1.1 with | none=>none | some e2=>bif 0≤e0.2.2.2.1 then match a0[e0.2.2.2.1.toNat]? with | none=>none | some e3=>match Zcg e3.1 with | none=>none | some e4=>bif e0.1≤4 then some (true,()) else bif e0.1==5 then some (!e2.1,()) else bif e0.1==6 then some (e2.1,()) else bif e0.1==16 then some (e2.1==e4.1,()) else bif e0.1==17 then some (e2.1==e4.1,()) else bif e0.1≥18 then bif e2.1 then some (e4.1,()) else some (false,()) else bif !e2.1 then some (!e4.1,()) else some (false,()) else none else none else none:=mkE (by kernel_rfl)
noncomputable def Z5z:Tb:=[(181,Zzt)]
def F153:TFun:=⟨[],[(3,qc [[.c (.p (.sl Vq5))],qn 2,qi,qn 13])],[.c (.sl Vq5)],[.c (.p di)],qc [qn 2,qi,qn 14],[],[],0⟩
noncomputable def Zzu:=mkC Z5z prog 153 F153
theorem Ycu:Zzu.ok prog 153:=mkO ⟨Yct,trivial⟩ (by kernel_rfl)
noncomputable def Zhy (a0:(List Vy2)):Option (Int×Unit):=Zzu.fn (a0,())
noncomputable def Za7 (n:Nat)(x0:(List Vy2))(x1:Int):Option (Int×Unit):=itr Z5z prog 153 F153 n 3 (x0,x1,())
theorem Zrb a0:Eq (Zhy a0) <| Za7 fuel a0 0:=mkE (by kernel_rfl)
theorem Zhz n x0 x1:Eq (Za7 (n+1) x0 x1) <| bif x1<ofNat x0.length then match Zj2 x0 x1 with | none=>none | some e0=>bif !e0.1 then some (x1,()) else Za7 n x0 (wrap .i64 (x1+1)) else some (ofNat x0.length,()):=mkI (by kernel_rfl)
noncomputable def Ya8:Tb:=[(94,Z1z),(153,Zzu),(154,Zu2)]
def F122:TFun:=⟨[],[],[.c (.sl Vq5)],[.c (.p db),.c (.p di),.c (.p di)],qc [qn 2,qb,qi,qi,qn 24],[],[],0⟩
noncomputable def Zzv:=mkC Ya8 prog 122 F122
theorem Ycv:Zzv.ok prog 122:=mkO ⟨ok94,Ycu,Z9t,trivial⟩ (by kernel_rfl)
noncomputable def Zp2 (a0:(List Vy2)):Option (Bool×Int×Int×Unit):=Zzv.fn (a0,())
theorem Zzw a0:Eq (Zp2 a0) <| match Xc a0 with | none=>none | some e0=>bif e0.1 !=0 then match Xc a0 with | none=>none | some e1=>some (false,0,e1.1,()) else match Zhy a0 with | none=>none | some e1=>bif e1.1<ofNat a0.length then some (false,e1.1,42,()) else bif 0≤wrap .i64 (ofNat a0.length - 1) then match a0[toNat (wrap .i64 (ofNat a0.length - 1))]? with | none=>none | some e2=>match Zcg e2.1 with | none=>none | some e3=>some (e3.1,wrap .i64 (ofNat a0.length - 1),0,()) else none:=mkE (by kernel_rfl)
noncomputable def Ycw:Tb:=[(122,Zzv)]
def F97:TFun:=⟨[],[],[.c (.sl Vq5),.c db],[.c (.p di),.c (.p di)],qc [qn 4,qi,qi,qn 19],[],[],0⟩
noncomputable def Z50:=mkC Ycw prog 97 F97
theorem ok97:Z50.ok prog 97:=mkO ⟨Ycv,trivial⟩ (by kernel_rfl)
noncomputable def Zf7 (a0:(List Vy2))(a1:Bool):Option (Int×Int×Unit):=Z50.fn (a0,a1,())
theorem Zu4 a0 a1:Eq (Zf7 a0 a1) <| match Zp2 a0 with | none=>none | some e0=>bif e0.2.2.1==0 then bif !e0.1==a1 then some (e0.2.1,42,()) else some e0.2 else some e0.2:=mkE (by kernel_rfl)
noncomputable def Z9u:Tb:=[(97,Z50)]
def F67:TFun:=⟨[1],[(1,qc [qn 1,[.boxN 27 10 [.any,.any,.any,.any,.p (.sl Vq5),.any,.any,.any,.any,.any]],qn 44])],[.a Vq10],[.c (.p di),.c (.p di)],qc [qn 2,qi,qi,qn 42],[],[],0⟩
noncomputable def Z51:=mkC Z9u prog 67 F67
theorem ok67:Z51.ok prog 67:=mkO ⟨ok97,trivial⟩ (by kernel_rfl)
noncomputable def Zm4 (a0:Vy8):Option (Int×Int×Unit):=Z51.fn (a0,())
noncomputable def Qv (n:Nat)(x0:(List Vy2)):Option (Int×Int×Unit):=itr Z9u prog 67 F67 n 1 (x0,())
theorem Zrc a0:Eq (Zm4 a0) <| bif ofNat a0.2.1.length>0 then match Zf7 a0.2.1 false with | none=>none | some e0=>bif e0.2.1 !=0 then bif 0≤e0.1 then match a0.2.1[e0.1.toNat]? with | none=>none | some e1=>some (e1.2.2.2.2.1,e0.2.1,()) else none else Qv fuel a0.2.2.2.2.1 else Qv fuel a0.2.2.2.2.1:=mkE (by kernel_rfl)
theorem Zp3 n x0:Eq (Qv (n+1) x0) <| bif ofNat x0.length>0 then match Zf7 x0 true with | none=>none | some e0=>bif e0.2.1 !=0 then bif 0≤e0.1 then match x0[e0.1.toNat]? with | none=>none | some e1=>some (e1.2.2.2.2.1,e0.2.1,()) else none else some (0,0,()) else some (0,0,()):=mkI (by kernel_rfl)
noncomputable def Ycx:Tb:=[(66,Z5y),(67,Z51)]
def F38:TFun:=⟨[],[],[.a Vq10],[.c (.p di),.c (.p di)],qc [qn 2,qi,qi,qn 9],[],[],0⟩
noncomputable def Z52:=mkC Ycx prog 38 F38
theorem ok38:Z52.ok prog 38:=mkO ⟨ok66,ok67,trivial⟩ (by kernel_rfl)
noncomputable def Zh0 (a0:Vy8):Option (Int×Int×Unit):=Z52.fn (a0,())
theorem Zrd a0:Eq (Zh0 a0) <| match Zeu a0 with | none=>none | some e0=>bif e0.1 !=0 then match Zeu a0 with | none=>none | some e1=>some (0,e1.1,()) else match Zm4 a0 with | none=>none | some e1=>some e1:=mkE (by kernel_rfl)
end Tg
