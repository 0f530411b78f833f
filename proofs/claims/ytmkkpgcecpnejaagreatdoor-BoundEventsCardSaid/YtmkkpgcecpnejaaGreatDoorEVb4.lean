import Derived.Test.YtmkkpgcecpnejaaGreatDoorEVT
/- Functions of the code, told plainly and checked by the kernel. -/
set_option linter.unusedVariables false
set_option linter.unusedSimpArgs false
set_option maxRecDepth 100000
namespace Tg
noncomputable section
open Go.Abs hiding fuel
open Go.Proofs.Tryz (prog)
open Int (ofNat toNat)
open Go.IntKind (wrap)
def Yj9:Tb:=[]
def F103:TFun:=⟨[],[],[.c (.int .u8)],[.c (.p di)],qc [qn 2,qi,qn 4],[],[],0⟩
def Z5t:=mkC Yj9 prog 103 F103
theorem Yl8:Z5t.ok prog 103:=mkO trivial
def Zj2 (a0:Int):Option (Int×Unit):=Z5t.fn (a0,())
theorem Zvb a0:Eq (Zj2 a0) <| bif a0<=4 then some (0,()) else bif a0<=6 then some (1,()) else some (2,()):=mkE
def Yka:Tb:=[]
def F104:TFun:=⟨[],[],[.a Vq2,.c di,.c di],[.c (.p db)],qc [qn 6,qb,qn 45],[],[],0⟩
def Z5u:=mkC Yka prog 104 F104
theorem Yl9:Z5u.ok prog 104:=mkO trivial
def Zj3 (a0:Vy2)(a1 a2:Int):Option (Bool×Unit):=Z5u.fn (a0,a1,a2,())
theorem Zvc a0 a1 a2:Eq (Zj3 a0 a1 a2) <| bif a0.1>=1 then bif a0.1<=19 then bif a0.2.1>=0 then let k1:=bif a0.2.2.2.2.1>=0 then bif a0.2.2.2.2.1<=400 then bif a0.2.2.1==a1 then some (a0.2.2.2.1==a2,()) else some (false,()) else some (false,()) else some (false,());bif a0.2.1==0 then k1 else bif a0.1==1 then k1 else some (false,()) else some (false,()) else some (false,()) else some (false,()):=mkE
def Z8c:Tb:=[(103,Z5t),(104,Z5u)]
def F80:TFun:=⟨[11,2],[(2,qc [[.c (.p (.sl Vq2))],qn 4,[.c (.rowN 3 1 Vq9)],[.c (.rowN 3 1 Vq9)],qn 95]),(4,qc [[.c (.p (.sl Vq2))],qn 4,[.c (.rowN 3 1 Vq9)],[.c (.rowN 3 1 Vq9)],qi,qn 94]),(11,qc [[.c (.p (.sl Vq2))],qn 4,[.c (.rowN 3 1 Vq9)],[.c (.rowN 3 1 Vq9)],qi,qi,qi,qi,qi,qn 90])],[.c (.sl Vq2)],[.c (.s 3 1 Vq9),.c (.s 3 1 Vq9),.c (.p db)],qc [qn 2,[.c (.rowN 3 1 Vq9)],[.c (.rowN 3 1 Vq9)],qb,qn 97],[],[],0⟩
def Z2x:=mkC Z8c prog 80 F80
theorem ok80:Z2x.ok prog 80:=mkO ⟨Yl8,Yl9,trivial⟩
def Yc4:TCon:=⟨Z2x.args,[.c (.p (.sl Vq9)),.c (.p (.sl Vq9)),.c (.p db)],Z2x.fn⟩
theorem Yma:Yc4.ok prog 80:=TCon.frz (c:=Z2x) ok80 rfl
def Zf0 (a0:(List Vy2)):Option Vy8:=Z2x.fn (a0,())
def Zj4 (n:Nat)(x0:(List Vy2))(x1 x2:Vy7):Option Vy8:=itr Z8c prog 80 F80 n 2 (x0,x1,x2,())
def Z5 (n:Nat)(x0:(List Vy2))(x1 x2:Vy7)(x3:Int):Option Vy8:=itr Z8c prog 80 F80 n 4 (x0,x1,x2,x3,())
def Qg (n:Nat)(x0:(List Vy2))(x1 x2:Vy7)(x3 x4 x5 x6 x7:Int):Option Vy8:=itr Z8c prog 80 F80 n 11 (x0,x1,x2,x3,x4,x5,x6,x7,())
theorem Zvd a0:Eq (Zf0 a0) <| Z5 fuel a0 ([]) ([]) 0:=mkE
theorem Ztg n x0 x1 x2:Eq (Zj4 (n+1) x0 x1 x2) <| bif ofNat x0.length>0 then bif 0<=wrap .i64 (ofNat x0.length - 1) then bif toNat (wrap .i64 (ofNat x0.length - 1))<x1.length then match x1[toNat (wrap .i64 (ofNat x0.length - 1))]? with | none=>none | some e0=>some (x1,x2,e0.1==ofNat x0.length,()) else none else none else some (x1,x2,false,()):=mkI
theorem Zad n x0 x1 x2 x3:Eq (Z5 (n+1) x0 x1 x2 x3) <| bif x3<ofNat x0.length then bif 0<=x3 then match x0[x3.toNat]? with | none=>none | some e0=>match Zj2 e0.1 with | none=>none | some e1=>bif e1.1>0 then bif wrap .i64 (x3 - 1)<0 then some ([],[],false,()) else bif 0<=wrap .i64 (x3 - 1) then bif toNat (wrap .i64 (x3 - 1))<x1.length then match x1[toNat (wrap .i64 (x3 - 1))]? with | none=>none | some e2=>bif 0<=wrap .i64 (x3 - 1) then bif toNat (wrap .i64 (x3 - 1))<x1.length then match x1[toNat (wrap .i64 (x3 - 1))]? with | none=>none | some e3=>bif 0<=wrap .i64 (x3 - 1) then bif toNat (wrap .i64 (x3 - 1))<x2.length then match x2[toNat (wrap .i64 (x3 - 1))]? with | none=>none | some e4=>bif e1.1==2 then bif wrap .i64 (wrap .i64 (x3 - 1) - e2.1)<0 then some ([],[],false,()) else bif 0<=wrap .i64 (wrap .i64 (x3 - 1) - e2.1) then bif toNat (wrap .i64 (wrap .i64 (x3 - 1) - e2.1))<x1.length then match x1[toNat (wrap .i64 (wrap .i64 (x3 - 1) - e2.1))]? with | none=>none | some e5=>bif 0<=wrap .i64 (wrap .i64 (x3 - 1) - e2.1) then bif toNat (wrap .i64 (wrap .i64 (x3 - 1) - e2.1))<x2.length then match x2[toNat (wrap .i64 (wrap .i64 (x3 - 1) - e2.1))]? with | none=>none | some e6=>Qg n x0 x1 x2 x3 (wrap .i64 (wrap .i64 (x3 - 1) - e2.1)) (wrap .i64 (x3 - 1)) (wrap .i64 (wrap .i64 (1+e3.1)+e5.1)) (tmm true (wrap .i64 (1+e4.1)) (wrap .i64 (1+e6.1))) else none else none else none else none else Qg n x0 x1 x2 x3 (wrap .i64 (x3 - 1)) 0 (wrap .i64 (1+e3.1)) (wrap .i64 (1+e4.1)) else none else none else none else none else none else none else Qg n x0 x1 x2 x3 0 0 1 1 else none else Zj4 n x0 x1 x2:=mkI
theorem Zqn n x0 x1 x2 x3 x4 x5 x6 x7:Eq (Qg (n+1) x0 x1 x2 x3 x4 x5 x6 x7) <| bif 0<=x3 then match x0[x3.toNat]? with | none=>none | some e0=>match Zj3 e0 x4 x5 with | none=>none | some e1=>bif !e1.1 then some ([],[],false,()) else bif Zc (x1.length+List.length [(x6,())]) 8 then bif Zc (x2.length+List.length [(x7,())]) 8 then Z5 n x0 (x1++[(x6,())]) (x2++[(x7,())]) (wrap .i64 (x3+1)) else none else none else none:=mkI
def Ymb:Tb:=[(80,Yc4)]
def F61:TFun:=⟨[],[],[.c (.sl Vq2)],[.c (.p di)],qc [qn 2,qi,qn 21],[],[],0⟩
def Z8d:=mkC Ymb prog 61 F61
theorem ok61:Z8d.ok prog 61:=mkO ⟨Yma,trivial⟩
def Xx (a0:(List Vy2)):Option (Int×Unit):=Z8d.fn (a0,())
theorem Zve a0:Eq (Xx a0) <| bif ofNat a0.length>60 then some (4,()) else match Zf0 a0 with | none=>none | some e0=>bif !e0.2.2.1 then some (8,()) else bif 0<=wrap .i64 (ofNat a0.length - 1) then match e0.2.1[toNat (wrap .i64 (ofNat a0.length - 1))]? with | none=>none | some e1=>bif e1.1>20 then some (34,()) else some (0,()) else none:=mkE
def Z2y:Tb:=[]
def F62:TFun:=⟨[7],[(7,qc [[.c (.p (.sl Vq9))],qn 59]),(9,qc [[.c (.p (.sl Vq9))],qn 4,qi,qn 54]),(17,qc [[.c (.p (.sl Vq9))],qn 5,qi,qn 53]),(22,qc [[.c (.p (.sl Vq9))],qn 5,qi,qi,qn 52])],[.c (.sl Vq9),.c db],[.c (.p di)],qc [qn 4,qi,qn 55],[],[],0⟩
def Yc5:=mkC Z2y prog 62 F62
theorem ok62:Yc5.ok prog 62:=mkO trivial
def Xy (a0:Vy7)(a1:Bool):Option (Int×Unit):=Yc5.fn (a0,a1,())
def Zg0 (n:Nat)(x0:Vy7):Option (Int×Unit):=itr Z2y prog 62 F62 n 7 (x0,())
def Zae (n:Nat)(x0:Vy7)(x1:Int):Option (Int×Unit):=itr Z2y prog 62 F62 n 9 (x0,x1,())
def Xi (n:Nat)(x0:Vy7)(x1:Int):Option (Int×Unit):=itr Z2y prog 62 F62 n 17 (x0,x1,())
def Qn (n:Nat)(x0:Vy7)(x1 x2:Int):Option (Int×Unit):=itr Z2y prog 62 F62 n 22 (x0,x1,x2,())
theorem Zqo a0 a1:Eq (Xy a0 a1) <| bif ofNat a0.length>4 then some (4,()) else bif ofNat a0.length==0 then some (8,()) else bif a1 then bif ofNat a0.length !=2 then some (8,()) else Zae fuel a0 0 else Zae fuel a0 0:=mkE
theorem Zo4 n x0:Eq (Zg0 (n+1) x0) <| Xi n x0 0:=mkI
theorem Zg1 n x0 x1:Eq (Zae (n+1) x0 x1) <| bif x1<ofNat x0.length then bif 0<=x1 then match x0[x1.toNat]? with | none=>none | some e0=>bif e0.1<0 then some (8,()) else bif 0<=x1 then match x0[x1.toNat]? with | none=>none | some e1=>bif e1.1>3 then some (8,()) else Zae n x0 (wrap .i64 (x1+1)) else none else none else Zg0 n x0:=mkI
theorem Zf1 n x0 x1:Eq (Xi (n+1) x0 x1) <| bif x1<ofNat x0.length then Qn n x0 x1 0 else some (0,()):=mkI
theorem Zf2 n x0 x1 x2:Eq (Qn (n+1) x0 x1 x2) <| bif x2<x1 then bif 0<=x2 then match x0[x2.toNat]? with | none=>none | some e0=>bif 0<=x1 then match x0[x1.toNat]? with | none=>none | some e1=>bif e0.1==e1.1 then some (43,()) else Qn n x0 x1 (wrap .i64 (x2+1)) else none else none else Xi n x0 (wrap .i64 (x1+1)):=mkI
def Ymc:Tb:=[]
def F63:TFun:=⟨[],[],[.a [.int .u8,.int .i64,.int .i64]],[.c (.p db)],qc [qn 2,qb,qn 42],[],[],0⟩
def Yc6:=mkC Ymc prog 63 F63
theorem ok63:Yc6.ok prog 63:=mkO trivial
def Zfj (a0:(Int×Int×Int×Unit)):Option (Bool×Unit):=Yc6.fn (a0,())
theorem Zzk a0:Eq (Zfj a0) <| let k1:=some (false,());bif a0.2.1<1 then k1 else bif a0.2.1>1073741824 then k1 else bif a0.1==2 then bif a0.2.2.1>=1 then bif a0.2.2.1<=a0.2.1 then some ((decide (a0.2.1<=wrap .i64 (16*a0.2.2.1)),())) else k1 else k1 else bif a0.1==1 then some (a0.2.2.1==0,()) else bif a0.1==3 then some (a0.2.2.1==0,()) else k1:=mkE
def Ymd:Tb:=[(61,Z8d),(62,Yc5),(63,Yc6)]
def F39:TFun:=⟨[],[],[.a Vq8],[.c (.p di)],qc [qn 2,qi,qn 77],[],[],0⟩
def Yc7:=mkC Ymd prog 39 F39
theorem ok39:Yc7.ok prog 39:=mkO ⟨ok61,ok62,ok63,trivial⟩
def Zf3 (a0:Vy5):Option (Int×Unit):=Yc7.fn (a0,())
theorem Zvf a0:Eq (Zf3 a0) <| bif a0.1<1 then some (8,()) else bif a0.1>4 then some (8,()) else bif a0.2.2.2.2.2.2.2.2.2.1<1 then some (8,()) else bif a0.2.2.2.2.2.2.2.2.2.1>2 then some (8,()) else let k1:Option (Int×Unit):=let k4:Option (Int×Unit):=match Xy a0.2.2.1 a0.2.2.2.1 with | none=>none | some e1=>bif e1.1 !=0 then match Xy a0.2.2.1 a0.2.2.2.1 with | none=>none | some e2=>some (e2.1,()) else match Zfj (a0.2.2.2.2.2.1,a0.2.2.2.2.2.2.1,a0.2.2.2.2.2.2.2.1,()) with | none=>none | some e2=>bif !e2.1 then some (8,()) else bif a0.2.2.2.1 then bif a0.2.2.2.2.2.1 !=1 then some (8,()) else some (0,()) else some (0,());let k5:Option (Int×Unit):=bif a0.2.2.2.1 then bif a0.2.2.2.2.2.1 !=1 then some (8,()) else some (0,()) else some (0,());bif a0.1 !=1 then match Xx a0.2.1 with | none=>none | some e0=>bif e0.1 !=0 then match Xx a0.2.1 with | none=>none | some e1=>some (e1.1,()) else bif ofNat a0.2.2.2.2.1.length>0 then match Xx a0.2.2.2.2.1 with | none=>none | some e1=>bif e1.1 !=0 then match Xx a0.2.2.2.2.1 with | none=>none | some e2=>some (e2.1,()) else match Xy a0.2.2.1 a0.2.2.2.1 with | none=>none | some e2=>bif e2.1 !=0 then match Xy a0.2.2.1 a0.2.2.2.1 with | none=>none | some e3=>some (e3.1,()) else match Zfj (a0.2.2.2.2.2.1,a0.2.2.2.2.2.2.1,a0.2.2.2.2.2.2.2.1,()) with | none=>none | some e3=>bif !e3.1 then some (8,()) else k5 else k4 else bif ofNat a0.2.2.2.2.1.length>0 then match Xx a0.2.2.2.2.1 with | none=>none | some e0=>bif e0.1 !=0 then match Xx a0.2.2.2.2.1 with | none=>none | some e1=>some (e1.1,()) else k4 else match Xy a0.2.2.1 a0.2.2.2.1 with | none=>none | some e0=>bif e0.1 !=0 then match Xy a0.2.2.1 a0.2.2.2.1 with | none=>none | some e1=>some (e1.1,()) else match Zfj (a0.2.2.2.2.2.1,a0.2.2.2.2.2.2.1,a0.2.2.2.2.2.2.2.1,()) with | none=>none | some e1=>bif !e1.1 then some (8,()) else k5;bif a0.1==1 then bif ofNat a0.2.1.length>0 then some (8,()) else k1 else k1:=mkE
def Ykb:Tb:=[]
def F106:TFun:=⟨[],[],[.c (.int .u8)],[.c (.p db)],qc [qn 2,qb,qn 6],[],[],0⟩
def Zzl:=mkC Ykb prog 106 F106
theorem Yim:Zzl.ok prog 106:=mkO trivial
def Zd2 (a0:Int):Option (Bool×Unit):=Zzl.fn (a0,())
theorem Zvg a0:Eq (Zd2 a0) <| bif a0==6 then some (true,()) else some (decide (a0>=12),()):=mkE
def Ykc:Tb:=[(106,Zzl)]
def F127:TFun:=⟨[],[],[.c (.sl Vq2),.c di],[.c (.p db)],qc [qn 4,qb,qn 62],[],[],0⟩
def Z5v:=mkC Ykc prog 127 F127
theorem Yme:Z5v.ok prog 127:=mkO ⟨Yim,trivial⟩
def Zml (a0:(List Vy2))(a1:Int):Option (Bool×Unit):=Z5v.fn (a0,a1,())
theorem Zzm a0 a1:Eq (Zml a0 a1) <| bif 0<=a1 then match a0[a1.toNat]? with | none=>none | some e0=>bif 0<=e0.2.2.1 then match a0[e0.2.2.1.toNat]? with | none=>none | some e1=>match Zd2 e1.1 with | none=>none | some e2=>bif 0<=e0.2.2.2.1 then match a0[e0.2.2.2.1.toNat]? with | none=>none | some e3=>match Zd2 e3.1 with | none=>none | some e4=>bif e0.1<=4 then some (true,()) else bif e0.1==5 then some (!e2.1,()) else bif e0.1==6 then some (e2.1,()) else bif e0.1==16 then some (e2.1==e4.1,()) else bif e0.1==17 then some (e2.1==e4.1,()) else bif e0.1>=18 then bif e2.1 then some (e4.1,()) else some (false,()) else bif !e2.1 then some (!e4.1,()) else some (false,()) else none else none else none:=mkE
def Yc8:Tb:=[(127,Z5v)]
def F105:TFun:=⟨[],[(3,qc [[.c (.p (.sl Vq2))],qn 2,qi,qn 13])],[.c (.sl Vq2)],[.c (.p di)],qc [qn 2,qi,qn 14],[],[],0⟩
def Z5w:=mkC Yc8 prog 105 F105
theorem Ymf:Z5w.ok prog 105:=mkO ⟨Yme,trivial⟩
def Zj5 (a0:(List Vy2)):Option (Int×Unit):=Z5w.fn (a0,())
def Zcg (n:Nat)(x0:(List Vy2))(x1:Int):Option (Int×Unit):=itr Yc8 prog 105 F105 n 3 (x0,x1,())
theorem Zvh a0:Eq (Zj5 a0) <| Zcg fuel a0 0:=mkE
theorem Zj6 n x0 x1:Eq (Zcg (n+1) x0 x1) <| bif x1<ofNat x0.length then match Zml x0 x1 with | none=>none | some e0=>bif !e0.1 then some (x1,()) else Zcg n x0 (wrap .i64 (x1+1)) else some (ofNat x0.length,()):=mkI
def Ymg:Tb:=[(61,Z8d),(105,Z5w),(106,Zzl)]
def F81:TFun:=⟨[],[],[.c (.sl Vq2)],[.c (.p db),.c (.p di),.c (.p di)],qc [qn 2,qb,qi,qi,qn 24],[],[],0⟩
def Yc9:=mkC Ymg prog 81 F81
theorem ok81:Yc9.ok prog 81:=mkO ⟨ok61,Ymf,Yim,trivial⟩
def Zth (a0:(List Vy2)):Option (Bool×Int×Int×Unit):=Yc9.fn (a0,())
theorem Z5x a0:Eq (Zth a0) <| match Xx a0 with | none=>none | some e0=>bif e0.1 !=0 then match Xx a0 with | none=>none | some e1=>some (false,0,e1.1,()) else match Zj5 a0 with | none=>none | some e1=>bif e1.1<ofNat a0.length then some (false,e1.1,42,()) else bif 0<=wrap .i64 (ofNat a0.length - 1) then match a0[toNat (wrap .i64 (ofNat a0.length - 1))]? with | none=>none | some e2=>match Zd2 e2.1 with | none=>none | some e3=>some (e3.1,wrap .i64 (ofNat a0.length - 1),0,()) else none:=mkE
def Ymh:Tb:=[(81,Yc9)]
def F64:TFun:=⟨[],[],[.c (.sl Vq2),.c db],[.c (.p di),.c (.p di)],qc [qn 4,qi,qi,qn 19],[],[],0⟩
def Yda:=mkC Ymh prog 64 F64
theorem ok64:Yda.ok prog 64:=mkO ⟨ok81,trivial⟩
def Zhn (a0:(List Vy2))(a1:Bool):Option (Int×Int×Unit):=Yda.fn (a0,a1,())
theorem Zzn a0 a1:Eq (Zhn a0 a1) <| match Zth a0 with | none=>none | some e0=>bif e0.2.2.1==0 then bif !e0.1==a1 then some (e0.2.1,42,()) else some e0.2 else some e0.2:=mkE
def Yin:Tb:=[(64,Yda)]
def F40:TFun:=⟨[1],[(1,qc [qn 1,[.boxN 27 10 [.any,.any,.any,.any,.p (.sl Vq2),.any,.any,.any,.any,.any]],qn 44])],[.a Vq8],[.c (.p di),.c (.p di)],qc [qn 2,qi,qi,qn 42],[],[],0⟩
def Ydb:=mkC Yin prog 40 F40
theorem ok40:Ydb.ok prog 40:=mkO ⟨ok64,trivial⟩
def Zp7 (a0:Vy5):Option (Int×Int×Unit):=Ydb.fn (a0,())
def Za3 (n:Nat)(x0:(List Vy2)):Option (Int×Int×Unit):=itr Yin prog 40 F40 n 1 (x0,())
theorem Zvi a0:Eq (Zp7 a0) <| bif ofNat a0.2.1.length>0 then match Zhn a0.2.1 false with | none=>none | some e0=>bif e0.2.1 !=0 then bif 0<=e0.1 then match a0.2.1[e0.1.toNat]? with | none=>none | some e1=>some (e1.2.2.2.2.1,e0.2.1,()) else none else Za3 fuel a0.2.2.2.2.1 else Za3 fuel a0.2.2.2.2.1:=mkE
theorem Zti n x0:Eq (Za3 (n+1) x0) <| bif ofNat x0.length>0 then match Zhn x0 true with | none=>none | some e0=>bif e0.2.1 !=0 then bif 0<=e0.1 then match x0[e0.1.toNat]? with | none=>none | some e1=>some (e1.2.2.2.2.1,e0.2.1,()) else none else some (0,0,()) else some (0,0,()):=mkI
def Ymi:Tb:=[(39,Yc7),(40,Ydb)]
def F13:TFun:=⟨[],[],[.a Vq8],[.c (.p di),.c (.p di)],qc [qn 2,qi,qi,qn 9],[],[],0⟩
def Ydc:=mkC Ymi prog 13 F13
theorem ok13:Ydc.ok prog 13:=mkO ⟨ok39,ok40,trivial⟩
def Zj7 (a0:Vy5):Option (Int×Int×Unit):=Ydc.fn (a0,())
theorem Zvj a0:Eq (Zj7 a0) <| match Zf3 a0 with | none=>none | some e0=>bif e0.1 !=0 then match Zf3 a0 with | none=>none | some e1=>some (0,e1.1,()) else match Zp7 a0 with | none=>none | some e1=>some e1:=mkE
end
end Tg
