import Derived.Test.YtijadjbnapojfaaGreatDoorAVT
/- Functions of the code, told plainly and checked by the kernel. -/
set_option linter.unusedVariables false
set_option linter.unusedSimpArgs false
set_option maxRecDepth 100000
namespace Tg
noncomputable section
open Go.Abs hiding fuel
open Go.Proofs.Tryz (prog)
open Int (ofNat toNat)
open Go.IntKind (wrap)
def Yka:Tb:=[]
def F245:TFun:=⟨[],[],[.c (.int .u8)],[.c (.p di)],qc [qn 2,qi,qn 4],[],[],0⟩
def Z5j:=mkC Yka prog 245 F245
theorem Ymg:Z5j.ok prog 245:=mkO trivial
def Zju (a0:Int):Option (Int×Unit):=Z5j.fn (a0,())
theorem Zvg a0:Eq (Zju a0) <| bif a0≤4 then some (0,()) else bif a0≤6 then some (1,()) else some (2,()):=mkE
def Ykb:Tb:=[]
def F246:TFun:=⟨[],[],[.a Vq5,.c di,.c di],[.c (.p db)],qc [qn 6,qb,qn 45],[],[],0⟩
def Z5k:=mkC Ykb prog 246 F246
theorem Ymh:Z5k.ok prog 246:=mkO trivial
def Zjv (a0:Vy2)(a1 a2:Int):Option (Bool×Unit):=Z5k.fn (a0,a1,a2,())
theorem Zvh a0 a1 a2:Eq (Zjv a0 a1 a2) <| bif a0.1≥1 then bif a0.1≤19 then bif a0.2.1≥0 then let k1:=bif a0.2.2.2.2.1≥0 then bif a0.2.2.2.2.1≤400 then bif a0.2.2.1==a1 then some (a0.2.2.2.1==a2,()) else some (false,()) else some (false,()) else some (false,());bif a0.2.1==0 then k1 else bif a0.1==1 then k1 else some (false,()) else some (false,()) else some (false,()) else some (false,()):=mkE
def Zzu:Tb:=[(245,Z5j),(246,Z5k)]
def F214:TFun:=⟨[11,2],[(2,qc [[.c (.p (.sl Vq5))],qn 4,[.c (.rowN 3 1 Vq10)],[.c (.rowN 3 1 Vq10)],qn 95]),(4,qc [[.c (.p (.sl Vq5))],qn 4,[.c (.rowN 3 1 Vq10)],[.c (.rowN 3 1 Vq10)],qi,qn 94]),(11,qc [[.c (.p (.sl Vq5))],qn 4,[.c (.rowN 3 1 Vq10)],[.c (.rowN 3 1 Vq10)],qi,qi,qi,qi,qi,qn 90])],[.c (.sl Vq5)],[.c (.s 3 1 Vq10),.c (.s 3 1 Vq10),.c (.p db)],qc [qn 2,[.c (.rowN 3 1 Vq10)],[.c (.rowN 3 1 Vq10)],qb,qn 97],[],[],0⟩
def Zth:=mkC Zzu prog 214 F214
theorem Ymi:Zth.ok prog 214:=mkO ⟨Ymg,Ymh,trivial⟩
def Z8i:TCon:=⟨Zth.args,[.c (.p (.sl Vq10)),.c (.p (.sl Vq10)),.c (.p db)],Zth.fn⟩
theorem Ykc:Z8i.ok prog 214:=TCon.frz (c:=Zth) Ymi rfl
def Zft (a0:(List Vy2)):Option Vy10:=Zth.fn (a0,())
def Zjw (n:Nat)(x0:(List Vy2))(x1 x2:Vy7):Option Vy10:=itr Zzu prog 214 F214 n 2 (x0,x1,x2,())
def Zx (n:Nat)(x0:(List Vy2))(x1 x2:Vy7)(x3:Int):Option Vy10:=itr Zzu prog 214 F214 n 4 (x0,x1,x2,x3,())
def X6 (n:Nat)(x0:(List Vy2))(x1 x2:Vy7)(x3 x4 x5 x6 x7:Int):Option Vy10:=itr Zzu prog 214 F214 n 11 (x0,x1,x2,x3,x4,x5,x6,x7,())
theorem Zvi a0:Eq (Zft a0) <| Zx fuel a0 ([]) ([]) 0:=mkE
theorem Zti n x0 x1 x2:Eq (Zjw (n+1) x0 x1 x2) <| bif ofNat x0.length>0 then bif 0≤wrap .i64 (ofNat x0.length - 1) then bif toNat (wrap .i64 (ofNat x0.length - 1))<x1.length then match x1[toNat (wrap .i64 (ofNat x0.length - 1))]? with | none=>none | some e0=>some (x1,x2,e0.1==ofNat x0.length,()) else none else none else some (x1,x2,false,()):=mkI
theorem Qw n x0 x1 x2 x3:Eq (Zx (n+1) x0 x1 x2 x3) <| bif x3<ofNat x0.length then bif 0≤x3 then match x0[x3.toNat]? with | none=>none | some e0=>match Zju e0.1 with | none=>none | some e1=>bif e1.1>0 then bif wrap .i64 (x3 - 1)<0 then some ([],[],false,()) else bif 0≤wrap .i64 (x3 - 1) then bif toNat (wrap .i64 (x3 - 1))<x1.length then match x1[toNat (wrap .i64 (x3 - 1))]? with | none=>none | some e2=>bif 0≤wrap .i64 (x3 - 1) then bif toNat (wrap .i64 (x3 - 1))<x1.length then match x1[toNat (wrap .i64 (x3 - 1))]? with | none=>none | some e3=>bif 0≤wrap .i64 (x3 - 1) then bif toNat (wrap .i64 (x3 - 1))<x2.length then match x2[toNat (wrap .i64 (x3 - 1))]? with | none=>none | some e4=>bif e1.1==2 then bif wrap .i64 (wrap .i64 (x3 - 1) - e2.1)<0 then some ([],[],false,()) else bif 0≤wrap .i64 (wrap .i64 (x3 - 1) - e2.1) then bif toNat (wrap .i64 (wrap .i64 (x3 - 1) - e2.1))<x1.length then match x1[toNat (wrap .i64 (wrap .i64 (x3 - 1) - e2.1))]? with | none=>none | some e5=>bif 0≤wrap .i64 (wrap .i64 (x3 - 1) - e2.1) then bif toNat (wrap .i64 (wrap .i64 (x3 - 1) - e2.1))<x2.length then match x2[toNat (wrap .i64 (wrap .i64 (x3 - 1) - e2.1))]? with | none=>none | some e6=>X6 n x0 x1 x2 x3 (wrap .i64 (wrap .i64 (x3 - 1) - e2.1)) (wrap .i64 (x3 - 1)) (wrap .i64 (wrap .i64 (1+e3.1)+e5.1)) (tmm true (wrap .i64 (1+e4.1)) (wrap .i64 (1+e6.1))) else none else none else none else none else X6 n x0 x1 x2 x3 (wrap .i64 (x3 - 1)) 0 (wrap .i64 (1+e3.1)) (wrap .i64 (1+e4.1)) else none else none else none else none else none else none else X6 n x0 x1 x2 x3 0 0 1 1 else none else Zjw n x0 x1 x2:=mkI
theorem Zqh n x0 x1 x2 x3 x4 x5 x6 x7:Eq (X6 (n+1) x0 x1 x2 x3 x4 x5 x6 x7) <| bif 0≤x3 then match x0[x3.toNat]? with | none=>none | some e0=>match Zjv e0 x4 x5 with | none=>none | some e1=>bif !e1.1 then some ([],[],false,()) else bif Zl (x1.length+List.length [(x6,())]) 8 then bif Zl (x2.length+List.length [(x7,())]) 8 then Zx n x0 (x1++[(x6,())]) (x2++[(x7,())]) (wrap .i64 (x3+1)) else none else none else none:=mkI
def Ykd:Tb:=[(214,Z8i)]
def F169:TFun:=⟨[],[],[.c (.sl Vq5)],[.c (.p di)],qc [qn 2,qi,qn 21],[],[],0⟩
def Zzv:=mkC Ykd prog 169 F169
theorem Yig:Zzv.ok prog 169:=mkO ⟨Ykc,trivial⟩
def Xi (a0:(List Vy2)):Option (Int×Unit):=Zzv.fn (a0,())
theorem Zvj a0:Eq (Xi a0) <| bif ofNat a0.length>60 then some (4,()) else match Zft a0 with | none=>none | some e0=>bif !e0.2.2.1 then some (8,()) else bif 0≤wrap .i64 (ofNat a0.length - 1) then match e0.2.1[toNat (wrap .i64 (ofNat a0.length - 1))]? with | none=>none | some e1=>bif e1.1>20 then some (34,()) else some (0,()) else none:=mkE
def Ztj:Tb:=[]
def F170:TFun:=⟨[7],[(7,qc [[.c (.p (.sl Vq10))],qn 59]),(9,qc [[.c (.p (.sl Vq10))],qn 4,qi,qn 54]),(17,qc [[.c (.p (.sl Vq10))],qn 5,qi,qn 53]),(22,qc [[.c (.p (.sl Vq10))],qn 5,qi,qi,qn 52])],[.c (.sl Vq10),.c db],[.c (.p di)],qc [qn 4,qi,qn 55],[],[],0⟩
def Z5l:=mkC Ztj prog 170 F170
theorem Ymj:Z5l.ok prog 170:=mkO trivial
def Xj (a0:Vy7)(a1:Bool):Option (Int×Unit):=Z5l.fn (a0,a1,())
def Zgp (n:Nat)(x0:Vy7):Option (Int×Unit):=itr Ztj prog 170 F170 n 7 (x0,())
def Qx (n:Nat)(x0:Vy7)(x1:Int):Option (Int×Unit):=itr Ztj prog 170 F170 n 9 (x0,x1,())
def Y8 (n:Nat)(x0:Vy7)(x1:Int):Option (Int×Unit):=itr Ztj prog 170 F170 n 17 (x0,x1,())
def Qc (n:Nat)(x0:Vy7)(x1 x2:Int):Option (Int×Unit):=itr Ztj prog 170 F170 n 22 (x0,x1,x2,())
theorem Zqi a0 a1:Eq (Xj a0 a1) <| bif ofNat a0.length>4 then some (4,()) else bif ofNat a0.length==0 then some (8,()) else bif a1 then bif ofNat a0.length !=2 then some (8,()) else Qx fuel a0 0 else Qx fuel a0 0:=mkE
theorem Zo4 n x0:Eq (Zgp (n+1) x0) <| Y8 n x0 0:=mkI
theorem Zgq n x0 x1:Eq (Qx (n+1) x0 x1) <| bif x1<ofNat x0.length then bif 0≤x1 then match x0[x1.toNat]? with | none=>none | some e0=>bif e0.1<0 then some (8,()) else bif 0≤x1 then match x0[x1.toNat]? with | none=>none | some e1=>bif e1.1>3 then some (8,()) else Qx n x0 (wrap .i64 (x1+1)) else none else none else Zgp n x0:=mkI
theorem Zfu n x0 x1:Eq (Y8 (n+1) x0 x1) <| bif x1<ofNat x0.length then Qc n x0 x1 0 else some (0,()):=mkI
theorem Zfv n x0 x1 x2:Eq (Qc (n+1) x0 x1 x2) <| bif x2<x1 then bif 0≤x2 then match x0[x2.toNat]? with | none=>none | some e0=>bif 0≤x1 then match x0[x1.toNat]? with | none=>none | some e1=>bif e0.1==e1.1 then some (43,()) else Qc n x0 x1 (wrap .i64 (x2+1)) else none else none else Y8 n x0 (wrap .i64 (x1+1)):=mkI
def Yke:Tb:=[]
def F171:TFun:=⟨[],[],[.a [.int .u8,.int .i64,.int .i64]],[.c (.p db)],qc [qn 2,qb,qn 42],[],[],0⟩
def Z5m:=mkC Yke prog 171 F171
theorem Ymk:Z5m.ok prog 171:=mkO trivial
def Ze9 (a0:(Int×Int×Int×Unit)):Option (Bool×Unit):=Z5m.fn (a0,())
theorem Zzw a0:Eq (Ze9 a0) <| let k1:=some (false,());bif a0.2.1<1 then k1 else bif a0.2.1>1073741824 then k1 else bif a0.1==2 then bif a0.2.2.1≥1 then bif a0.2.2.1≤a0.2.1 then some ((decide (a0.2.1≤wrap .i64 (16*a0.2.2.1)),())) else k1 else k1 else bif a0.1==1 then some (a0.2.2.1==0,()) else bif a0.1==3 then some (a0.2.2.1==0,()) else k1:=mkE
def Ykf:Tb:=[(169,Zzv),(170,Z5l),(171,Z5m)]
def F106:TFun:=⟨[],[],[.a Vq9],[.c (.p di)],qc [qn 2,qi,qn 77],[],[],0⟩
def Z5n:=mkC Ykf prog 106 F106
theorem Yml:Z5n.ok prog 106:=mkO ⟨Yig,Ymj,Ymk,trivial⟩
def Zfw (a0:Vy8):Option (Int×Unit):=Z5n.fn (a0,())
theorem Zvk a0:Eq (Zfw a0) <| bif a0.1<1 then some (8,()) else bif a0.1>4 then some (8,()) else bif a0.2.2.2.2.2.2.2.2.2.1<1 then some (8,()) else bif a0.2.2.2.2.2.2.2.2.2.1>2 then some (8,()) else let k1:Option (Int×Unit):=let k4:Option (Int×Unit):=match Xj a0.2.2.1 a0.2.2.2.1 with | none=>none | some e1=>bif e1.1 !=0 then match Xj a0.2.2.1 a0.2.2.2.1 with | none=>none | some e2=>some (e2.1,()) else match Ze9 (a0.2.2.2.2.2.1,a0.2.2.2.2.2.2.1,a0.2.2.2.2.2.2.2.1,()) with | none=>none | some e2=>bif !e2.1 then some (8,()) else bif a0.2.2.2.1 then bif a0.2.2.2.2.2.1 !=1 then some (8,()) else some (0,()) else some (0,());let k5:Option (Int×Unit):=bif a0.2.2.2.1 then bif a0.2.2.2.2.2.1 !=1 then some (8,()) else some (0,()) else some (0,());bif a0.1 !=1 then match Xi a0.2.1 with | none=>none | some e0=>bif e0.1 !=0 then match Xi a0.2.1 with | none=>none | some e1=>some (e1.1,()) else bif ofNat a0.2.2.2.2.1.length>0 then match Xi a0.2.2.2.2.1 with | none=>none | some e1=>bif e1.1 !=0 then match Xi a0.2.2.2.2.1 with | none=>none | some e2=>some (e2.1,()) else match Xj a0.2.2.1 a0.2.2.2.1 with | none=>none | some e2=>bif e2.1 !=0 then match Xj a0.2.2.1 a0.2.2.2.1 with | none=>none | some e3=>some (e3.1,()) else match Ze9 (a0.2.2.2.2.2.1,a0.2.2.2.2.2.2.1,a0.2.2.2.2.2.2.2.1,()) with | none=>none | some e3=>bif !e3.1 then some (8,()) else k5 else k4 else bif ofNat a0.2.2.2.2.1.length>0 then match Xi a0.2.2.2.2.1 with | none=>none | some e0=>bif e0.1 !=0 then match Xi a0.2.2.2.2.1 with | none=>none | some e1=>some (e1.1,()) else k4 else match Xj a0.2.2.1 a0.2.2.2.1 with | none=>none | some e0=>bif e0.1 !=0 then match Xj a0.2.2.1 a0.2.2.2.1 with | none=>none | some e1=>some (e1.1,()) else match Ze9 (a0.2.2.2.2.2.1,a0.2.2.2.2.2.2.1,a0.2.2.2.2.2.2.2.1,()) with | none=>none | some e1=>bif !e1.1 then some (8,()) else k5;bif a0.1==1 then bif ofNat a0.2.1.length>0 then some (8,()) else k1 else k1:=mkE
def Ykg:Tb:=[]
def F248:TFun:=⟨[],[],[.c (.int .u8)],[.c (.p db)],qc [qn 2,qb,qn 6],[],[],0⟩
def Zzx:=mkC Ykg prog 248 F248
theorem Yih:Zzx.ok prog 248:=mkO trivial
def Zdv (a0:Int):Option (Bool×Unit):=Zzx.fn (a0,())
theorem Zvl a0:Eq (Zdv a0) <| bif a0==6 then some (true,()) else some (decide (a0≥12),()):=mkE
def Ykh:Tb:=[(248,Zzx)]
def F282:TFun:=⟨[],[],[.c (.sl Vq5),.c di],[.c (.p db)],qc [qn 4,qb,qn 62],[],[],0⟩
def Z5o:=mkC Ykh prog 282 F282
theorem Ymm:Z5o.ok prog 282:=mkO ⟨Yih,trivial⟩
def Zmr (a0:(List Vy2))(a1:Int):Option (Bool×Unit):=Z5o.fn (a0,a1,())
theorem Zzy a0 a1:Eq (Zmr a0 a1) <| bif 0≤a1 then match a0[a1.toNat]? with | none=>none | some e0=>bif 0≤e0.2.2.1 then match a0[e0.2.2.1.toNat]? with | none=>none | some e1=>match Zdv e1.1 with | none=>none | some e2=>bif 0≤e0.2.2.2.1 then match a0[e0.2.2.2.1.toNat]? with | none=>none | some e3=>match Zdv e3.1 with | none=>none | some e4=>bif e0.1≤4 then some (true,()) else bif e0.1==5 then some (!e2.1,()) else bif e0.1==6 then some (e2.1,()) else bif e0.1==16 then some (e2.1==e4.1,()) else bif e0.1==17 then some (e2.1==e4.1,()) else bif e0.1≥18 then bif e2.1 then some (e4.1,()) else some (false,()) else bif !e2.1 then some (!e4.1,()) else some (false,()) else none else none else none:=mkE
def Yc9:Tb:=[(282,Z5o)]
def F247:TFun:=⟨[],[(3,qc [[.c (.p (.sl Vq5))],qn 2,qi,qn 13])],[.c (.sl Vq5)],[.c (.p di)],qc [qn 2,qi,qn 14],[],[],0⟩
def Z5p:=mkC Yc9 prog 247 F247
theorem Ymn:Z5p.ok prog 247:=mkO ⟨Ymm,trivial⟩
def Zjx (a0:(List Vy2)):Option (Int×Unit):=Z5p.fn (a0,())
def Zci (n:Nat)(x0:(List Vy2))(x1:Int):Option (Int×Unit):=itr Yc9 prog 247 F247 n 3 (x0,x1,())
theorem Zvm a0:Eq (Zjx a0) <| Zci fuel a0 0:=mkE
theorem Zjy n x0 x1:Eq (Zci (n+1) x0 x1) <| bif x1<ofNat x0.length then match Zmr x0 x1 with | none=>none | some e0=>bif !e0.1 then some (x1,()) else Zci n x0 (wrap .i64 (x1+1)) else some (ofNat x0.length,()):=mkI
def Yki:Tb:=[(169,Zzv),(247,Z5p),(248,Zzx)]
def F215:TFun:=⟨[],[],[.c (.sl Vq5)],[.c (.p db),.c (.p di),.c (.p di)],qc [qn 2,qb,qi,qi,qn 24],[],[],0⟩
def Z5q:=mkC Yki prog 215 F215
theorem Ymo:Z5q.ok prog 215:=mkO ⟨Yig,Ymn,Yih,trivial⟩
def Ztk (a0:(List Vy2)):Option (Bool×Int×Int×Unit):=Z5q.fn (a0,())
theorem Z5r a0:Eq (Ztk a0) <| match Xi a0 with | none=>none | some e0=>bif e0.1 !=0 then match Xi a0 with | none=>none | some e1=>some (false,0,e1.1,()) else match Zjx a0 with | none=>none | some e1=>bif e1.1<ofNat a0.length then some (false,e1.1,42,()) else bif 0≤wrap .i64 (ofNat a0.length - 1) then match a0[toNat (wrap .i64 (ofNat a0.length - 1))]? with | none=>none | some e2=>match Zdv e2.1 with | none=>none | some e3=>some (e3.1,wrap .i64 (ofNat a0.length - 1),0,()) else none:=mkE
def Ykj:Tb:=[(215,Z5q)]
def F172:TFun:=⟨[],[],[.c (.sl Vq5),.c db],[.c (.p di),.c (.p di)],qc [qn 4,qi,qi,qn 19],[],[],0⟩
def Z5s:=mkC Ykj prog 172 F172
theorem Ymp:Z5s.ok prog 172:=mkO ⟨Ymo,trivial⟩
def Zhh (a0:(List Vy2))(a1:Bool):Option Vy9:=Z5s.fn (a0,a1,())
theorem Zzz a0 a1:Eq (Zhh a0 a1) <| match Ztk a0 with | none=>none | some e0=>bif e0.2.2.1==0 then bif !e0.1==a1 then some (e0.2.1,42,()) else some e0.2 else some e0.2:=mkE
def Yda:Tb:=[(172,Z5s)]
def F107:TFun:=⟨[1],[(1,qc [qn 1,[.boxN 27 10 [.any,.any,.any,.any,.p (.sl Vq5),.any,.any,.any,.any,.any]],qn 44])],[.a Vq9],[.c (.p di),.c (.p di)],qc [qn 2,qi,qi,qn 42],[],[],0⟩
def Z5t:=mkC Yda prog 107 F107
theorem Ymq:Z5t.ok prog 107:=mkO ⟨Ymp,trivial⟩
def Zp7 (a0:Vy8):Option Vy9:=Z5t.fn (a0,())
def Zat (n:Nat)(x0:(List Vy2)):Option Vy9:=itr Yda prog 107 F107 n 1 (x0,())
theorem Zvn a0:Eq (Zp7 a0) <| bif ofNat a0.2.1.length>0 then match Zhh a0.2.1 false with | none=>none | some e0=>bif e0.2.1 !=0 then bif 0≤e0.1 then match a0.2.1[e0.1.toNat]? with | none=>none | some e1=>some (e1.2.2.2.2.1,e0.2.1,()) else none else Zat fuel a0.2.2.2.2.1 else Zat fuel a0.2.2.2.2.1:=mkE
theorem Ztl n x0:Eq (Zat (n+1) x0) <| bif ofNat x0.length>0 then match Zhh x0 true with | none=>none | some e0=>bif e0.2.1 !=0 then bif 0≤e0.1 then match x0[e0.1.toNat]? with | none=>none | some e1=>some (e1.2.2.2.2.1,e0.2.1,()) else none else some (0,0,()) else some (0,0,()):=mkI
def Ymr:Tb:=[(106,Z5n),(107,Z5t)]
def F51:TFun:=⟨[],[],[.a Vq9],[.c (.p di),.c (.p di)],qc [qn 2,qi,qi,qn 9],[],[],0⟩
def Ydb:=mkC Ymr prog 51 F51
theorem ok51:Ydb.ok prog 51:=mkO ⟨Yml,Ymq,trivial⟩
def Zjz (a0:Vy8):Option Vy9:=Ydb.fn (a0,())
theorem Zvo a0:Eq (Zjz a0) <| match Zfw a0 with | none=>none | some e0=>bif e0.1 !=0 then match Zfw a0 with | none=>none | some e1=>some (0,e1.1,()) else match Zp7 a0 with | none=>none | some e1=>some e1:=mkE
def Yms:Tb:=[(51,Ydb)]
def F28:TFun:=⟨[],[],[.a Vq9],[.c (.p db)],qc [qn 2,qb,qn 9],[],[],0⟩
def Ydc:=mkC Yms prog 28 F28
theorem ok28:Ydc.ok prog 28:=mkO ⟨ok51,trivial⟩
def Zcj (a0:Vy8):Option (Bool×Unit):=Ydc.fn (a0,())
theorem Zo5 a0:Eq (Zcj a0) <| match Zjz a0 with | none=>none | some e0=>some (e0.2.1==0,()):=mkE
end
end Tg
