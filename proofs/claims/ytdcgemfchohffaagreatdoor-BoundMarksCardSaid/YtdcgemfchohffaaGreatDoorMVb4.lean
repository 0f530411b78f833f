import Derived.Test.YtdcgemfchohffaaGreatDoorMVT
/- Functions of the code, told plainly and checked by the kernel. -/
set_option linter.unusedVariables false
set_option linter.unusedSimpArgs false
set_option maxRecDepth 100000
namespace Tg
noncomputable section
open Go.Abs hiding fuel
open Go.Proofs.Tryz (prog)
open Int (ofNat toNat)
open Go.IntKind (wrap)
def Yj0:Tb:=[]
def F171:TFun:=⟨[],[],[.c (.int .u8)],[.c (.p di)],qc [qn 2,qi,qn 4],[],[],0⟩
def Z5f:=mkC Yj0 prog 171 F171
theorem Yl0:Z5f.ok prog 171:=mkO trivial
def Zka (a0:Int):Option (Int×Unit):=Z5f.fn (a0,())
theorem Zvx a0:Eq (Zka a0) <| bif a0≤4 then some (0,()) else bif a0≤6 then some (1,()) else some (2,()):=mkE
def Yj1:Tb:=[]
def F172:TFun:=⟨[],[],[.a Vq5,.c di,.c di],[.c (.p db)],qc [qn 6,qb,qn 45],[],[],0⟩
def Z5g:=mkC Yj1 prog 172 F172
theorem Yl1:Z5g.ok prog 172:=mkO trivial
def Zkb (a0:Vy2)(a1 a2:Int):Option (Bool×Unit):=Z5g.fn (a0,a1,a2,())
theorem Zvy a0 a1 a2:Eq (Zkb a0 a1 a2) <| bif a0.1≥1 then bif a0.1≤19 then bif a0.2.1≥0 then let k1:=bif a0.2.2.2.2.1≥0 then bif a0.2.2.2.2.1≤400 then bif a0.2.2.1==a1 then some (a0.2.2.2.1==a2,()) else some (false,()) else some (false,()) else some (false,());bif a0.2.1==0 then k1 else bif a0.1==1 then k1 else some (false,()) else some (false,()) else some (false,()) else some (false,()):=mkE
def Zz9:Tb:=[(171,Z5f),(172,Z5g)]
def F142:TFun:=⟨[11,2],[(2,qc [[.c (.p (.sl Vq5))],qn 4,[.c (.rowN 3 1 Vq10)],[.c (.rowN 3 1 Vq10)],qn 95]),(4,qc [[.c (.p (.sl Vq5))],qn 4,[.c (.rowN 3 1 Vq10)],[.c (.rowN 3 1 Vq10)],qi,qn 94]),(11,qc [[.c (.p (.sl Vq5))],qn 4,[.c (.rowN 3 1 Vq10)],[.c (.rowN 3 1 Vq10)],qi,qi,qi,qi,qi,qn 90])],[.c (.sl Vq5)],[.c (.s 3 1 Vq10),.c (.s 3 1 Vq10),.c (.p db)],qc [qn 2,[.c (.rowN 3 1 Vq10)],[.c (.rowN 3 1 Vq10)],qb,qn 97],[],[],0⟩
def Zt2:=mkC Zz9 prog 142 F142
theorem Yl2:Zt2.ok prog 142:=mkO ⟨Yl0,Yl1,trivial⟩
def Z7z:TCon:=⟨Zt2.args,[.c (.p (.sl Vq10)),.c (.p (.sl Vq10)),.c (.p db)],Zt2.fn⟩
theorem Yj2:Z7z.ok prog 142:=TCon.frz (c:=Zt2) Yl2 rfl
def Zf1 (a0:(List Vy2)):Option Vy10:=Zt2.fn (a0,())
def Zkc (n:Nat)(x0:(List Vy2))(x1 x2:Vy8):Option Vy10:=itr Zz9 prog 142 F142 n 2 (x0,x1,x2,())
def Zz (n:Nat)(x0:(List Vy2))(x1 x2:Vy8)(x3:Int):Option Vy10:=itr Zz9 prog 142 F142 n 4 (x0,x1,x2,x3,())
def Qd (n:Nat)(x0:(List Vy2))(x1 x2:Vy8)(x3 x4 x5 x6 x7:Int):Option Vy10:=itr Zz9 prog 142 F142 n 11 (x0,x1,x2,x3,x4,x5,x6,x7,())
theorem Zvz a0:Eq (Zf1 a0) <| Zz fuel a0 ([]) ([]) 0:=mkE
theorem Zt3 n x0 x1 x2:Eq (Zkc (n+1) x0 x1 x2) <| bif ofNat x0.length>0 then bif 0≤wrap .i64 (ofNat x0.length - 1) then bif toNat (wrap .i64 (ofNat x0.length - 1))<x1.length then match x1[toNat (wrap .i64 (ofNat x0.length - 1))]? with | none=>none | some e0=>some (x1,x2,e0.1==ofNat x0.length,()) else none else none else some (x1,x2,false,()):=mkI
theorem Q7 n x0 x1 x2 x3:Eq (Zz (n+1) x0 x1 x2 x3) <| bif x3<ofNat x0.length then bif 0≤x3 then match x0[x3.toNat]? with | none=>none | some e0=>match Zka e0.1 with | none=>none | some e1=>bif e1.1>0 then bif wrap .i64 (x3 - 1)<0 then some ([],[],false,()) else bif 0≤wrap .i64 (x3 - 1) then bif toNat (wrap .i64 (x3 - 1))<x1.length then match x1[toNat (wrap .i64 (x3 - 1))]? with | none=>none | some e2=>bif 0≤wrap .i64 (x3 - 1) then bif toNat (wrap .i64 (x3 - 1))<x1.length then match x1[toNat (wrap .i64 (x3 - 1))]? with | none=>none | some e3=>bif 0≤wrap .i64 (x3 - 1) then bif toNat (wrap .i64 (x3 - 1))<x2.length then match x2[toNat (wrap .i64 (x3 - 1))]? with | none=>none | some e4=>bif e1.1==2 then bif wrap .i64 (wrap .i64 (x3 - 1) - e2.1)<0 then some ([],[],false,()) else bif 0≤wrap .i64 (wrap .i64 (x3 - 1) - e2.1) then bif toNat (wrap .i64 (wrap .i64 (x3 - 1) - e2.1))<x1.length then match x1[toNat (wrap .i64 (wrap .i64 (x3 - 1) - e2.1))]? with | none=>none | some e5=>bif 0≤wrap .i64 (wrap .i64 (x3 - 1) - e2.1) then bif toNat (wrap .i64 (wrap .i64 (x3 - 1) - e2.1))<x2.length then match x2[toNat (wrap .i64 (wrap .i64 (x3 - 1) - e2.1))]? with | none=>none | some e6=>Qd n x0 x1 x2 x3 (wrap .i64 (wrap .i64 (x3 - 1) - e2.1)) (wrap .i64 (x3 - 1)) (wrap .i64 (wrap .i64 (1+e3.1)+e5.1)) (tmm true (wrap .i64 (1+e4.1)) (wrap .i64 (1+e6.1))) else none else none else none else none else Qd n x0 x1 x2 x3 (wrap .i64 (x3 - 1)) 0 (wrap .i64 (1+e3.1)) (wrap .i64 (1+e4.1)) else none else none else none else none else none else none else Qd n x0 x1 x2 x3 0 0 1 1 else none else Zkc n x0 x1 x2:=mkI
theorem Zq1 n x0 x1 x2 x3 x4 x5 x6 x7:Eq (Qd (n+1) x0 x1 x2 x3 x4 x5 x6 x7) <| bif 0≤x3 then match x0[x3.toNat]? with | none=>none | some e0=>match Zkb e0 x4 x5 with | none=>none | some e1=>bif !e1.1 then some ([],[],false,()) else bif Zl (x1.length+List.length [(x6,())]) 8 then bif Zl (x2.length+List.length [(x7,())]) 8 then Zz n x0 (x1++[(x6,())]) (x2++[(x7,())]) (wrap .i64 (x3+1)) else none else none else none:=mkI
def Yj3:Tb:=[(142,Z7z)]
def F109:TFun:=⟨[],[],[.c (.sl Vq5)],[.c (.p di)],qc [qn 2,qi,qn 21],[],[],0⟩
def Z0a:=mkC Yj3 prog 109 F109
theorem Yh8:Z0a.ok prog 109:=mkO ⟨Yj2,trivial⟩
def Xp (a0:(List Vy2)):Option (Int×Unit):=Z0a.fn (a0,())
theorem Zv0 a0:Eq (Xp a0) <| bif ofNat a0.length>60 then some (4,()) else match Zf1 a0 with | none=>none | some e0=>bif !e0.2.2.1 then some (8,()) else bif 0≤wrap .i64 (ofNat a0.length - 1) then match e0.2.1[toNat (wrap .i64 (ofNat a0.length - 1))]? with | none=>none | some e1=>bif e1.1>20 then some (34,()) else some (0,()) else none:=mkE
def Zt4:Tb:=[]
def F110:TFun:=⟨[7],[(7,qc [[.c (.p (.sl Vq10))],qn 59]),(9,qc [[.c (.p (.sl Vq10))],qn 4,qi,qn 54]),(17,qc [[.c (.p (.sl Vq10))],qn 5,qi,qn 53]),(22,qc [[.c (.p (.sl Vq10))],qn 5,qi,qi,qn 52])],[.c (.sl Vq10),.c db],[.c (.p di)],qc [qn 4,qi,qn 55],[],[],0⟩
def Z5h:=mkC Zt4 prog 110 F110
theorem Yl3:Z5h.ok prog 110:=mkO trivial
def Xq (a0:Vy8)(a1:Bool):Option (Int×Unit):=Z5h.fn (a0,a1,())
def Zgy (n:Nat)(x0:Vy8):Option (Int×Unit):=itr Zt4 prog 110 F110 n 7 (x0,())
def Q8 (n:Nat)(x0:Vy8)(x1:Int):Option (Int×Unit):=itr Zt4 prog 110 F110 n 9 (x0,x1,())
def Xb (n:Nat)(x0:Vy8)(x1:Int):Option (Int×Unit):=itr Zt4 prog 110 F110 n 17 (x0,x1,())
def Qk (n:Nat)(x0:Vy8)(x1 x2:Int):Option (Int×Unit):=itr Zt4 prog 110 F110 n 22 (x0,x1,x2,())
theorem Zq2 a0 a1:Eq (Xq a0 a1) <| bif ofNat a0.length>4 then some (4,()) else bif ofNat a0.length==0 then some (8,()) else bif a1 then bif ofNat a0.length !=2 then some (8,()) else Q8 fuel a0 0 else Q8 fuel a0 0:=mkE
theorem Zpm n x0:Eq (Zgy (n+1) x0) <| Xb n x0 0:=mkI
theorem Zgz n x0 x1:Eq (Q8 (n+1) x0 x1) <| bif x1<ofNat x0.length then bif 0≤x1 then match x0[x1.toNat]? with | none=>none | some e0=>bif e0.1<0 then some (8,()) else bif 0≤x1 then match x0[x1.toNat]? with | none=>none | some e1=>bif e1.1>3 then some (8,()) else Q8 n x0 (wrap .i64 (x1+1)) else none else none else Zgy n x0:=mkI
theorem Zf2 n x0 x1:Eq (Xb (n+1) x0 x1) <| bif x1<ofNat x0.length then Qk n x0 x1 0 else some (0,()):=mkI
theorem Zf3 n x0 x1 x2:Eq (Qk (n+1) x0 x1 x2) <| bif x2<x1 then bif 0≤x2 then match x0[x2.toNat]? with | none=>none | some e0=>bif 0≤x1 then match x0[x1.toNat]? with | none=>none | some e1=>bif e0.1==e1.1 then some (43,()) else Qk n x0 x1 (wrap .i64 (x2+1)) else none else none else Xb n x0 (wrap .i64 (x1+1)):=mkI
def Yj4:Tb:=[]
def F111:TFun:=⟨[],[],[.a [.int .u8,.int .i64,.int .i64]],[.c (.p db)],qc [qn 2,qb,qn 42],[],[],0⟩
def Z5i:=mkC Yj4 prog 111 F111
theorem Yl4:Z5i.ok prog 111:=mkO trivial
def Zfi (a0:(Int×Int×Int×Unit)):Option (Bool×Unit):=Z5i.fn (a0,())
theorem Z0b a0:Eq (Zfi a0) <| let k1:=some (false,());bif a0.2.1<1 then k1 else bif a0.2.1>1073741824 then k1 else bif a0.1==2 then bif a0.2.2.1≥1 then bif a0.2.2.1≤a0.2.1 then some ((decide (a0.2.1≤wrap .i64 (16*a0.2.2.1)),())) else k1 else k1 else bif a0.1==1 then some (a0.2.2.1==0,()) else bif a0.1==3 then some (a0.2.2.1==0,()) else k1:=mkE
def Yl5:Tb:=[(109,Z0a),(110,Z5h),(111,Z5i)]
def F65:TFun:=⟨[],[],[.a Vq9],[.c (.p di)],qc [qn 2,qi,qn 77],[],[],0⟩
def Yct:=mkC Yl5 prog 65 F65
theorem ok65:Yct.ok prog 65:=mkO ⟨Yh8,Yl3,Yl4,trivial⟩
def Zf4 (a0:Vy7):Option (Int×Unit):=Yct.fn (a0,())
theorem Zv1 a0:Eq (Zf4 a0) <| bif a0.1<1 then some (8,()) else bif a0.1>4 then some (8,()) else bif a0.2.2.2.2.2.2.2.2.2.1<1 then some (8,()) else bif a0.2.2.2.2.2.2.2.2.2.1>2 then some (8,()) else let k1:Option (Int×Unit):=let k4:Option (Int×Unit):=match Xq a0.2.2.1 a0.2.2.2.1 with | none=>none | some e1=>bif e1.1 !=0 then match Xq a0.2.2.1 a0.2.2.2.1 with | none=>none | some e2=>some (e2.1,()) else match Zfi (a0.2.2.2.2.2.1,a0.2.2.2.2.2.2.1,a0.2.2.2.2.2.2.2.1,()) with | none=>none | some e2=>bif !e2.1 then some (8,()) else bif a0.2.2.2.1 then bif a0.2.2.2.2.2.1 !=1 then some (8,()) else some (0,()) else some (0,());let k5:Option (Int×Unit):=bif a0.2.2.2.1 then bif a0.2.2.2.2.2.1 !=1 then some (8,()) else some (0,()) else some (0,());bif a0.1 !=1 then match Xp a0.2.1 with | none=>none | some e0=>bif e0.1 !=0 then match Xp a0.2.1 with | none=>none | some e1=>some (e1.1,()) else bif ofNat a0.2.2.2.2.1.length>0 then match Xp a0.2.2.2.2.1 with | none=>none | some e1=>bif e1.1 !=0 then match Xp a0.2.2.2.2.1 with | none=>none | some e2=>some (e2.1,()) else match Xq a0.2.2.1 a0.2.2.2.1 with | none=>none | some e2=>bif e2.1 !=0 then match Xq a0.2.2.1 a0.2.2.2.1 with | none=>none | some e3=>some (e3.1,()) else match Zfi (a0.2.2.2.2.2.1,a0.2.2.2.2.2.2.1,a0.2.2.2.2.2.2.2.1,()) with | none=>none | some e3=>bif !e3.1 then some (8,()) else k5 else k4 else bif ofNat a0.2.2.2.2.1.length>0 then match Xp a0.2.2.2.2.1 with | none=>none | some e0=>bif e0.1 !=0 then match Xp a0.2.2.2.2.1 with | none=>none | some e1=>some (e1.1,()) else k4 else match Xq a0.2.2.1 a0.2.2.2.1 with | none=>none | some e0=>bif e0.1 !=0 then match Xq a0.2.2.1 a0.2.2.2.1 with | none=>none | some e1=>some (e1.1,()) else match Zfi (a0.2.2.2.2.2.1,a0.2.2.2.2.2.2.1,a0.2.2.2.2.2.2.2.1,()) with | none=>none | some e1=>bif !e1.1 then some (8,()) else k5;bif a0.1==1 then bif ofNat a0.2.1.length>0 then some (8,()) else k1 else k1:=mkE
def Yj5:Tb:=[]
def F174:TFun:=⟨[],[],[.c (.int .u8)],[.c (.p db)],qc [qn 2,qb,qn 6],[],[],0⟩
def Z0c:=mkC Yj5 prog 174 F174
theorem Yh9:Z0c.ok prog 174:=mkO trivial
def Zd0 (a0:Int):Option (Bool×Unit):=Z0c.fn (a0,())
theorem Zv2 a0:Eq (Zd0 a0) <| bif a0==6 then some (true,()) else some (decide (a0≥12),()):=mkE
def Yj6:Tb:=[(174,Z0c)]
def F203:TFun:=⟨[],[],[.c (.sl Vq5),.c di],[.c (.p db)],qc [qn 4,qb,qn 62],[],[],0⟩
def Z5j:=mkC Yj6 prog 203 F203
theorem Yl6:Z5j.ok prog 203:=mkO ⟨Yh9,trivial⟩
def Zm8 (a0:(List Vy2))(a1:Int):Option (Bool×Unit):=Z5j.fn (a0,a1,())
theorem Z0d a0 a1:Eq (Zm8 a0 a1) <| bif 0≤a1 then match a0[a1.toNat]? with | none=>none | some e0=>bif 0≤e0.2.2.1 then match a0[e0.2.2.1.toNat]? with | none=>none | some e1=>match Zd0 e1.1 with | none=>none | some e2=>bif 0≤e0.2.2.2.1 then match a0[e0.2.2.2.1.toNat]? with | none=>none | some e3=>match Zd0 e3.1 with | none=>none | some e4=>bif e0.1≤4 then some (true,()) else bif e0.1==5 then some (!e2.1,()) else bif e0.1==6 then some (e2.1,()) else bif e0.1==16 then some (e2.1==e4.1,()) else bif e0.1==17 then some (e2.1==e4.1,()) else bif e0.1≥18 then bif e2.1 then some (e4.1,()) else some (false,()) else bif !e2.1 then some (!e4.1,()) else some (false,()) else none else none else none:=mkE
def Ycu:Tb:=[(203,Z5j)]
def F173:TFun:=⟨[],[(3,qc [[.c (.p (.sl Vq5))],qn 2,qi,qn 13])],[.c (.sl Vq5)],[.c (.p di)],qc [qn 2,qi,qn 14],[],[],0⟩
def Z5k:=mkC Ycu prog 173 F173
theorem Yl7:Z5k.ok prog 173:=mkO ⟨Yl6,trivial⟩
def Zkd (a0:(List Vy2)):Option (Int×Unit):=Z5k.fn (a0,())
def Zco (n:Nat)(x0:(List Vy2))(x1:Int):Option (Int×Unit):=itr Ycu prog 173 F173 n 3 (x0,x1,())
theorem Zv3 a0:Eq (Zkd a0) <| Zco fuel a0 0:=mkE
theorem Zke n x0 x1:Eq (Zco (n+1) x0 x1) <| bif x1<ofNat x0.length then match Zm8 x0 x1 with | none=>none | some e0=>bif !e0.1 then some (x1,()) else Zco n x0 (wrap .i64 (x1+1)) else some (ofNat x0.length,()):=mkI
def Yj7:Tb:=[(109,Z0a),(173,Z5k),(174,Z0c)]
def F143:TFun:=⟨[],[],[.c (.sl Vq5)],[.c (.p db),.c (.p di),.c (.p di)],qc [qn 2,qb,qi,qi,qn 24],[],[],0⟩
def Z5l:=mkC Yj7 prog 143 F143
theorem Yl8:Z5l.ok prog 143:=mkO ⟨Yh8,Yl7,Yh9,trivial⟩
def Zt5 (a0:(List Vy2)):Option (Bool×Int×Int×Unit):=Z5l.fn (a0,())
theorem Z5m a0:Eq (Zt5 a0) <| match Xp a0 with | none=>none | some e0=>bif e0.1 !=0 then match Xp a0 with | none=>none | some e1=>some (false,0,e1.1,()) else match Zkd a0 with | none=>none | some e1=>bif e1.1<ofNat a0.length then some (false,e1.1,42,()) else bif 0≤wrap .i64 (ofNat a0.length - 1) then match a0[toNat (wrap .i64 (ofNat a0.length - 1))]? with | none=>none | some e2=>match Zd0 e2.1 with | none=>none | some e3=>some (e3.1,wrap .i64 (ofNat a0.length - 1),0,()) else none:=mkE
def Yj8:Tb:=[(143,Z5l)]
def F112:TFun:=⟨[],[],[.c (.sl Vq5),.c db],[.c (.p di),.c (.p di)],qc [qn 4,qi,qi,qn 19],[],[],0⟩
def Z5n:=mkC Yj8 prog 112 F112
theorem Yl9:Z5n.ok prog 112:=mkO ⟨Yl8,trivial⟩
def Zhs (a0:(List Vy2))(a1:Bool):Option Vy9:=Z5n.fn (a0,a1,())
theorem Z0e a0 a1:Eq (Zhs a0 a1) <| match Zt5 a0 with | none=>none | some e0=>bif e0.2.2.1==0 then bif !e0.1==a1 then some (e0.2.1,42,()) else some e0.2 else some e0.2:=mkE
def Yia:Tb:=[(112,Z5n)]
def F66:TFun:=⟨[1],[(1,qc [qn 1,[.boxN 27 10 [.any,.any,.any,.any,.p (.sl Vq5),.any,.any,.any,.any,.any]],qn 44])],[.a Vq9],[.c (.p di),.c (.p di)],qc [qn 2,qi,qi,qn 42],[],[],0⟩
def Ycv:=mkC Yia prog 66 F66
theorem ok66:Ycv.ok prog 66:=mkO ⟨Yl9,trivial⟩
def Zqo (a0:Vy7):Option Vy9:=Ycv.fn (a0,())
def Za7 (n:Nat)(x0:(List Vy2)):Option Vy9:=itr Yia prog 66 F66 n 1 (x0,())
theorem Zv4 a0:Eq (Zqo a0) <| bif ofNat a0.2.1.length>0 then match Zhs a0.2.1 false with | none=>none | some e0=>bif e0.2.1 !=0 then bif 0≤e0.1 then match a0.2.1[e0.1.toNat]? with | none=>none | some e1=>some (e1.2.2.2.2.1,e0.2.1,()) else none else Za7 fuel a0.2.2.2.2.1 else Za7 fuel a0.2.2.2.2.1:=mkE
theorem Zt6 n x0:Eq (Za7 (n+1) x0) <| bif ofNat x0.length>0 then match Zhs x0 true with | none=>none | some e0=>bif e0.2.1 !=0 then bif 0≤e0.1 then match x0[e0.1.toNat]? with | none=>none | some e1=>some (e1.2.2.2.2.1,e0.2.1,()) else none else some (0,0,()) else some (0,0,()):=mkI
def Yma:Tb:=[(65,Yct),(66,Ycv)]
def F33:TFun:=⟨[],[],[.a Vq9],[.c (.p di),.c (.p di)],qc [qn 2,qi,qi,qn 9],[],[],0⟩
def Ycw:=mkC Yma prog 33 F33
theorem ok33:Ycw.ok prog 33:=mkO ⟨ok65,ok66,trivial⟩
def Zkf (a0:Vy7):Option Vy9:=Ycw.fn (a0,())
theorem Zv5 a0:Eq (Zkf a0) <| match Zf4 a0 with | none=>none | some e0=>bif e0.1 !=0 then match Zf4 a0 with | none=>none | some e1=>some (0,e1.1,()) else match Zqo a0 with | none=>none | some e1=>some e1:=mkE
def Ymb:Tb:=[(33,Ycw)]
def F22:TFun:=⟨[],[],[.a Vq9],[.c (.p db)],qc [qn 2,qb,qn 9],[],[],0⟩
def Ycx:=mkC Ymb prog 22 F22
theorem ok22:Ycx.ok prog 22:=mkO ⟨ok33,trivial⟩
def Zcp (a0:Vy7):Option (Bool×Unit):=Ycx.fn (a0,())
theorem Zpn a0:Eq (Zcp a0) <| match Zkf a0 with | none=>none | some e0=>some (e0.2.1==0,()):=mkE
end
end Tg
