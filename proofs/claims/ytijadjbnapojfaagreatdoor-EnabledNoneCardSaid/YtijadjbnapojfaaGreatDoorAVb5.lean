import Derived.Test.YtijadjbnapojfaaGreatDoorAVT
/- Functions of the code, told plainly and checked by the kernel. -/
set_option linter.unusedVariables false
set_option linter.unusedSimpArgs false
set_option maxRecDepth 100000
namespace Tg
noncomputable section
open Go.Abs hiding fuel
open Go.Proofs.Tryz (prog)
open Int (ofNat toNat)
open Go.IntKind (wrap)
def Ykk:Tb:=[]
def F173:TFun:=⟨[],[],[.c di,.c di,.c di],[.c (.p db)],qc [qn 6,qb,qn 8],[],[],0⟩
def Z5u:=mkC Ykk prog 173 F173
theorem Ymt:Z5u.ok prog 173:=mkO trivial
def Qg (a0 a1 a2:Int):Option (Bool×Unit):=Z5u.fn (a0,a1,a2,())
theorem Zqj a0 a1 a2:Eq (Qg a0 a1 a2) <| bif a0≥a1 then some (decide (a0≤a2),()) else some (false,()):=mkE
def Ykl:Tb:=[(173,Z5u)]
def F111:TFun:=⟨[],[],[.c (.int .u8),.c di,.c di],[.c (.p db)],qc [qn 6,qb,qn 59],[],[],0⟩
def Z5v:=mkC Ykl prog 111 F111
theorem Ymu:Z5v.ok prog 111:=mkO ⟨Ymt,trivial⟩
def Zms (a0 a1 a2:Int):Option (Bool×Unit):=Z5v.fn (a0,a1,a2,())
theorem Zz0 a0 a1 a2:Eq (Zms a0 a1 a2) <| let k1:=some (false,());bif a0==1 then bif a1==0 then some (a2==1,()) else k1 else bif a0==2 then bif a1==1 then match Qg a2 1 2 with | none=>none | some e0=>some (e0.1,()) else k1 else bif a0==3 then bif a1==1 then match Qg a2 1 3 with | none=>none | some e0=>some (e0.1,()) else k1 else bif a0==4 then match Qg a1 1 4 with | none=>none | some e0=>bif e0.1 then some (a2==1,()) else k1 else bif a0==5 then bif a1==2 then some (a2==1,()) else k1 else bif a0==6 then match Qg a1 1 3 with | none=>none | some e0=>bif e0.1 then some (a2==0,()) else k1 else bif a0==7 then match Qg a1 1 4 with | none=>none | some e0=>bif e0.1 then some (a2==0,()) else k1 else k1:=mkE
def Ydd:Tb:=[]
def F108:TFun:=⟨[],[(4,qc [qn 1,qi,[.boxN 31 2 [.any,.p (.sl Vq3)]],qn 2,[.boxN 90 5 [.p di,.p di,.p di,.p di,.any]],qi,qn 49])],[.a [.sl Vq11,.sl Vq3],.c di],[.c (.p db)],qc [qn 4,qb,qn 51],[],[],0⟩
def Z5w:=mkC Ydd prog 108 F108
theorem Ymv:Z5w.ok prog 108:=mkO trivial
def Zj0 (a0:(List Vy9×List Vy2×Unit))(a1:Int):Option (Bool×Unit):=Z5w.fn (a0,a1,())
def Zck (n:Nat)(x0:Int)(x1:(List Vy2))(x2 x3 x4 x5 x6:Int):Option (Bool×Unit):=itr Ydd prog 108 F108 n 4 (x0,x1,x2,x3,x4,x5,x6,())
theorem Zvp a0 a1:Eq (Zj0 a0 a1) <| bif 0≤a1 then match a0.2.1[a1.toNat]? with | none=>none | some e0=>Zck fuel a1 a0.2.1 e0.1 e0.2.1 e0.2.2.1 e0.2.2.2.1 0 else none:=mkE
theorem Zj1 n x0 x1 x2 x3 x4 x5 x6:Eq (Zck (n+1) x0 x1 x2 x3 x4 x5 x6) <| bif x6<x0 then bif 0≤x6 then match x1[x6.toNat]? with | none=>none | some e0=>bif e0.1>x2 then some (false,()) else let k1:=let k3:=Zck n x0 x1 x2 x3 x4 x5 (wrap .i64 (x6+1));bif e0.2.2.1==x4 then bif e0.2.2.2.1==x5 then some (false,()) else k3 else k3;bif e0.1==x2 then bif e0.2.1≥x3 then some (false,()) else k1 else k1 else none else some (true,()):=mkI
def Yde:Tb:=[]
def F109:TFun:=⟨[],[(4,qc [qn 1,qi,[.boxN 31 2 [.any,.p (.sl Vq3)]],qn 2,qi,qi,qn 18])],[.a [.sl Vq11,.sl Vq3],.c di],[.c (.p di)],qc [qn 4,qi,qn 20],[],[],0⟩
def Z5x:=mkC Yde prog 109 F109
theorem Ymw:Z5x.ok prog 109:=mkO trivial
def Zdk (a0:(List Vy9×List Vy2×Unit))(a1:Int):Option (Int×Unit):=Z5x.fn (a0,a1,())
def Qy (n:Nat)(x0:Int)(x1:(List Vy2))(x2 x3:Int):Option (Int×Unit):=itr Yde prog 109 F109 n 4 (x0,x1,x2,x3,())
theorem Zqk a0 a1:Eq (Zdk a0 a1) <| Qy fuel a1 a0.2.1 0 0:=mkE
theorem Zgr n x0 x1 x2 x3:Eq (Qy (n+1) x0 x1 x2 x3) <| bif x3<ofNat x1.length then bif 0≤x3 then match x1[x3.toNat]? with | none=>none | some e0=>bif e0.1==x0 then Qy n x0 x1 (wrap .i64 (x2+1)) (wrap .i64 (x3+1)) else Qy n x0 x1 x2 (wrap .i64 (x3+1)) else none else some (x2,()):=mkI
def Ydf:Tb:=[]
def F110:TFun:=⟨[],[(4,qc [qn 1,qi,[.boxN 31 2 [.any,.p (.sl Vq3)]],qn 2,qi,qi,qn 18])],[.a [.sl Vq11,.sl Vq3],.c di],[.c (.p di)],qc [qn 4,qi,qn 20],[],[],0⟩
def Z5y:=mkC Ydf prog 110 F110
theorem Ymx:Z5y.ok prog 110:=mkO trivial
def Zee (a0:(List Vy9×List Vy2×Unit))(a1:Int):Option (Int×Unit):=Z5y.fn (a0,a1,())
def Q7 (n:Nat)(x0:Int)(x1:(List Vy2))(x2 x3:Int):Option (Int×Unit):=itr Ydf prog 110 F110 n 4 (x0,x1,x2,x3,())
theorem Ztm a0 a1:Eq (Zee a0 a1) <| Q7 fuel a1 a0.2.1 0 0:=mkE
theorem Zhy n x0 x1 x2 x3:Eq (Q7 (n+1) x0 x1 x2 x3) <| bif x3<ofNat x1.length then bif 0≤x3 then match x1[x3.toNat]? with | none=>none | some e0=>bif e0.2.2.1==x0 then Q7 n x0 x1 (wrap .i64 (x2+1)) (wrap .i64 (x3+1)) else Q7 n x0 x1 x2 (wrap .i64 (x3+1)) else none else some (x2,()):=mkI
def Z5z:Tb:=[]
def F112:TFun:=⟨[],[(4,qc [qn 1,qi,[.boxN 31 2 [.p (.sl Vq11),.p (.sl Vq3)]],qn 2,[.c (.rowN 4 1 [.bool])],qi,qn 41]),(9,qc [qn 1,qi,[.boxN 31 2 [.p (.sl Vq11),.p (.sl Vq3)]],qn 2,[.c (.rowN 4 1 [.bool])],qi,qi,qn 40])],[.a [.sl Vq11,.sl Vq3],.c di],[.c (.s 4 1 [.bool])],qc [qn 4,[.c (.rowN 4 1 [.bool])],qn 43],[],[],0⟩
def Ztn:=mkC Z5z prog 112 F112
theorem Ymy:Ztn.ok prog 112:=mkO trivial
def Z8j:TCon:=⟨Ztn.args,[.c (.p (.sl [.bool]))],Ztn.fn⟩
theorem Ykm:Z8j.ok prog 112:=TCon.frz (c:=Ztn) Ymy rfl
def Zge (a0:(List Vy9×List Vy2×Unit))(a1:Int):Option (List (Bool×Unit)×Unit):=Ztn.fn (a0,a1,())
def Qz (n:Nat)(x0:Int)(x1:(List Vy9))(x2:(List Vy2))(x3:(List (Bool×Unit)))(x4:Int):Option (List (Bool×Unit)×Unit):=itr Z5z prog 112 F112 n 4 (x0,x1,x2,x3,x4,())
def Xp (n:Nat)(x0:Int)(x1:(List Vy9))(x2:(List Vy2))(x3:(List (Bool×Unit)))(x4 x5:Int):Option (List (Bool×Unit)×Unit):=itr Z5z prog 112 F112 n 9 (x0,x1,x2,x3,x4,x5,())
theorem Zql a0 a1:Eq (Zge a0 a1) <| bif decide (toNat (ofNat a0.1.length)≤toNat (ofNat a0.1.length))&&(decide (1*toNat (ofNat a0.1.length)≤281474976710656)&&decide (toNat (ofNat a0.1.length)≤9223372036854775807)) then Qz fuel a1 a0.1 a0.2.1 (List.replicate (toNat (ofNat a0.1.length)) (false,())) 0 else none:=mkE
theorem Zgs n x0 x1 x2 x3 x4:Eq (Qz (n+1) x0 x1 x2 x3 x4) <| bif x4≤ofNat x1.length then Xp n x0 x1 x2 x3 x4 0 else some (x3,()):=mkI
theorem Zgt n x0 x1 x2 x3 x4 x5:Eq (Xp (n+1) x0 x1 x2 x3 x4 x5) <| bif x5<ofNat x2.length then bif 0≤x5 then match x2[x5.toNat]? with | none=>none | some e0=>bif e0.1==x0 then bif 0≤e0.2.2.1 then bif e0.2.2.1.toNat<x3.length then match x3[e0.2.2.1.toNat]? with | none=>none | some e1=>Xp n x0 x1 x2 (List.set x3 e0.2.2.1.toNat (true,e1.2)) x4 (wrap .i64 (x5+1)) else none else none else bif 0≤e0.1 then bif e0.1.toNat<x3.length then match x3[e0.1.toNat]? with | none=>none | some e1=>bif e1.1 then bif 0≤e0.2.2.1 then bif e0.2.2.1.toNat<x3.length then match x3[e0.2.2.1.toNat]? with | none=>none | some e2=>Xp n x0 x1 x2 (List.set x3 e0.2.2.1.toNat (true,e2.2)) x4 (wrap .i64 (x5+1)) else none else none else Xp n x0 x1 x2 x3 x4 (wrap .i64 (x5+1)) else none else none else none else Qz n x0 x1 x2 x3 (wrap .i64 (x4+1)):=mkI
def Zxy:Tb:=[(108,Z5w),(109,Z5x),(110,Z5y),(111,Z5v),(112,Z8j)]
def F52:TFun:=⟨[1,10],[(1,qc [qn 1,[.boxN 31 2 [.p (.sl Vq11),.p (.sl Vq3)]],qn 137]),(3,qc [qn 1,[.boxN 31 2 [.p (.sl Vq11),.p (.sl Vq3)]],qn 1,qi,qn 135]),(10,qc [qn 1,[.boxN 31 2 [.p (.sl Vq11),.p (.sl Vq3)]],qn 137]),(12,qc [qn 1,[.boxN 31 2 [.p (.sl Vq11),.p (.sl Vq3)]],qn 3,qi,qn 133]),(21,qc [qn 1,[.boxN 31 2 [.p (.sl Vq11),.p (.sl Vq3)]],qn 5,qi,qn 131])],[.a [.sl Vq11,.sl Vq3]],[.c (.p db)],qc [qn 2,qb,qn 136],[],[],0⟩
def Ydg:=mkC Zxy prog 52 F52
theorem ok52:Ydg.ok prog 52:=mkO ⟨Ymv,Ymw,Ymx,Ymu,Ykm,trivial⟩
def Zj2 (a0:(List Vy9×List Vy2×Unit)):Option (Bool×Unit):=Ydg.fn (a0,())
def Zj3 (n:Nat)(x0:(List Vy9))(x1:(List Vy2)):Option (Bool×Unit):=itr Zxy prog 52 F52 n 1 (x0,x1,())
def Zcl (n:Nat)(x0:(List Vy9))(x1:(List Vy2))(x2:Int):Option (Bool×Unit):=itr Zxy prog 52 F52 n 3 (x0,x1,x2,())
def Zhz (n:Nat)(x0:(List Vy9))(x1:(List Vy2)):Option (Bool×Unit):=itr Zxy prog 52 F52 n 10 (x0,x1,())
def Zbh (n:Nat)(x0:(List Vy9))(x1:(List Vy2))(x2:Int):Option (Bool×Unit):=itr Zxy prog 52 F52 n 12 (x0,x1,x2,())
def Zbi (n:Nat)(x0:(List Vy9))(x1:(List Vy2))(x2:Int):Option (Bool×Unit):=itr Zxy prog 52 F52 n 21 (x0,x1,x2,())
theorem Zvq a0:Eq (Zj2 a0) <| Zcl fuel a0.1 a0.2.1 0:=mkE
theorem Zto n x0 x1:Eq (Zj3 (n+1) x0 x1) <| Zbh n x0 x1 0:=mkI
theorem Zj4 n x0 x1 x2:Eq (Zcl (n+1) x0 x1 x2) <| bif x2<ofNat x1.length then bif 0≤x2 then match x1[x2.toNat]? with | none=>none | some e0=>let k1:=some (false,());bif e0.1<0 then k1 else bif e0.2.2.1<0 then k1 else bif e0.1≥ofNat x0.length then k1 else bif e0.2.2.1≥ofNat x0.length then k1 else bif e0.2.2.2.2.1<1 then k1 else bif e0.2.2.2.2.1>8 then k1 else Zcl n x0 x1 (wrap .i64 (x2+1)) else none else Zj3 n x0 x1:=mkI
theorem Zqm n x0 x1:Eq (Zhz (n+1) x0 x1) <| Zbi n x0 x1 0:=mkI
theorem Zh0 n x0 x1 x2:Eq (Zbh (n+1) x0 x1 x2) <| bif x2<ofNat x1.length then bif 0≤x2 then match x1[x2.toNat]? with | none=>none | some e0=>match Zj0 (x0,x1,()) x2 with | none=>none | some e1=>let k1:=some (false,());bif !e1.1 then k1 else bif e0.2.1<0 then k1 else match Zdk (x0,x1,()) e0.1 with | none=>none | some e2=>bif e0.2.1≥e2.1 then k1 else bif e0.2.2.2.1<0 then k1 else match Zee (x0,x1,()) e0.2.2.1 with | none=>none | some e3=>bif e0.2.2.2.1≥e3.1 then k1 else Zbh n x0 x1 (wrap .i64 (x2+1)) else none else Zhz n x0 x1:=mkI
theorem Zh1 n x0 x1 x2:Eq (Zbi (n+1) x0 x1 x2) <| bif x2<ofNat x0.length then bif 0≤x2 then match x0[x2.toNat]? with | none=>none | some e0=>let k1:=some (false,());bif e0.2.1<0 then k1 else bif e0.2.1>3 then k1 else match Zee (x0,x1,()) x2 with | none=>none | some e1=>match Zdk (x0,x1,()) x2 with | none=>none | some e2=>match Zms e0.1 e1.1 e2.1 with | none=>none | some e3=>bif !e3.1 then k1 else match Zge (x0,x1,()) x2 with | none=>none | some e4=>bif 0≤x2 then match e4.1[x2.toNat]? with | none=>none | some e5=>bif e5.1 then k1 else Zbi n x0 x1 (wrap .i64 (x2+1)) else none else none else some (true,()):=mkI
def Ymz:Tb:=[(52,Ydg)]
def F29:TFun:=⟨[],[],[.a [.sl Vq11,.sl Vq3]],[.c (.p di)],qc [qn 2,qi,qn 13],[],[],0⟩
def Ydh:=mkC Ymz prog 29 F29
theorem ok29:Ydh.ok prog 29:=mkO ⟨ok52,trivial⟩
def Zfx (a0:(List Vy9×List Vy2×Unit)):Option (Int×Unit):=Ydh.fn (a0,())
theorem Zvr a0:Eq (Zfx a0) <| bif ofNat a0.1.length>20 then some (4,()) else bif ofNat a0.2.1.length>100 then some (4,()) else match Zj2 a0 with | none=>none | some e0=>bif !e0.1 then some (8,()) else some (0,()):=mkE
def Ykn:Tb:=[]
def F113:TFun:=⟨[],[],[.a Vq8],[.c (.p db)],qc [qn 2,qb,qn 8],[],[],0⟩
def Ztp:=mkC Ykn prog 113 F113
theorem Ydi:Ztp.ok prog 113:=mkO trivial
def Zbx (a0:(Int×Int×Int×Unit)):Option (Bool×Unit):=Ztp.fn (a0,())
theorem Zvs a0:Eq (Zbx a0) <| bif a0.2.1≥(-1099511627776) then some (decide (a0.2.1≤1099511627776),()) else some (false,()):=mkE
def Yko:Tb:=[]
def F114:TFun:=⟨[],[],[.c di],[.c (.p db)],qc [qn 2,qb,qn 10],[],[],0⟩
def Ztq:=mkC Yko prog 114 F114
theorem Ydj:Ztq.ok prog 114:=mkO trivial
def Zfa (a0:Int):Option (Bool×Unit):=Ztq.fn (a0,())
theorem Zz1 a0:Eq (Zfa a0) <| let k1:=some (a0==9223372036854775807,());bif a0≥(-1099511627776) then bif a0≤1099511627776 then some (true,()) else k1 else k1:=mkE
def Ykp:Tb:=[]
def F115:TFun:=⟨[],[],[.a Vq3],[.c (.p db)],qc [qn 2,qb,qn 19],[],[],0⟩
def Zz2:=mkC Ykp prog 115 F115
theorem Yii:Zz2.ok prog 115:=mkO trivial
def Zlg (a0:Vy2):Option (Bool×Unit):=Zz2.fn (a0,())
theorem Z2t a0:Eq (Zlg a0) <| bif a0.2.1<a0.2.2.1 then bif a0.2.1≥(-2199023255552) then some (decide (a0.2.2.1≤2199023255552),()) else some (false,()) else some (false,()):=mkE
def Yij:Tb:=[(113,Ztp),(114,Ztq),(115,Zz2)]
def F53:TFun:=⟨[3],[(3,qc [qn 1,[.boxN 115 10 [.p (.int .u8),.p di,.p di,.p di,.p di,.p di,.p di,.p di,.p di,.p di]],qn 2,[.c (.p (.int .u8))],qb,qn 42])],[.a Vq4],[.c (.p db)],qc [qn 2,qb,qn 45],[],[],0⟩
def Z8k:=mkC Yij prog 53 F53
theorem ok53:Z8k.ok prog 53:=mkO ⟨Ydi,Ydj,Yii,trivial⟩
def Zfy (a0:Vy4):Option (Bool×Unit):=Z8k.fn (a0,())
def Zfb (n:Nat)(x0 x1 x2 x3 x4 x5 x6 x7 x8 x9 x10:Int)(x11:Bool):Option (Bool×Unit):=itr Yij prog 53 F53 n 3 (x0,x1,x2,x3,x4,x5,x6,x7,x8,x9,x10,x11,())
theorem Zvt a0:Eq (Zfy a0) <| bif a0.1==1 then Zfb fuel a0.1 a0.2.1 a0.2.2.1 a0.2.2.2.1 a0.2.2.2.2.1 a0.2.2.2.2.2.1 a0.2.2.2.2.2.2.1 a0.2.2.2.2.2.2.2.1 a0.2.2.2.2.2.2.2.2.1 a0.2.2.2.2.2.2.2.2.2.1 a0.1 true else Zfb fuel a0.1 a0.2.1 a0.2.2.1 a0.2.2.2.1 a0.2.2.2.2.1 a0.2.2.2.2.2.1 a0.2.2.2.2.2.2.1 a0.2.2.2.2.2.2.2.1 a0.2.2.2.2.2.2.2.2.1 a0.2.2.2.2.2.2.2.2.2.1 a0.1 (a0.1==4):=mkE
theorem Ztr n x0 x1 x2 x3 x4 x5 x6 x7 x8 x9 x10 x11:Eq (Zfb (n+1) x0 x1 x2 x3 x4 x5 x6 x7 x8 x9 x10 x11) <| let k1:=some (false,());bif x11 then (Zbx (x1,x2,x3,())).bind fun e0=>bif e0.1 then some ((x0==x0&&(x1==x1&&(x2==x2&&(x3==x3&&(x4==0&&(x5==0&&(x6==0&&(x7==0&&(x8==0&&(x9==0&&true))))))))),())) else k1 else bif x10==2 then (Zfa x4).bind fun e0=>bif e0.1 then some ((x0==x0&&(x1==0&&(x2==0&&(x3==0&&(x4==x4&&(x5==0&&(x6==0&&(x7==0&&(x8==0&&(x9==0&&true))))))))),())) else k1 else bif x10==3 then (Zlg (x5,x6,x7,x8,x9,())).bind fun e0=>bif e0.1 then some ((x0==x0&&(x1==0&&(x2==0&&(x3==0&&(x4==0&&(x5==x5&&(x6==x6&&(x7==x7&&(x8==x8&&(x9==x9&&true))))))))),())) else k1 else k1:=mkI
def Yik:Tb:=[(53,Z8k)]
def F30:TFun:=⟨[],[(6,qc [qn 1,[.boxN 69 2 [.any,.p (.sl Vq4)]],qn 1,qi,qn 30])],[.a [.int .i64,.sl Vq4]],[.c (.p di)],qc [qn 2,qi,qn 31],[],[],0⟩
def Ydk:=mkC Yik prog 30 F30
theorem ok30:Ydk.ok prog 30:=mkO ⟨ok53,trivial⟩
def Zj5 (a0:(Int×List Vy4×Unit)):Option (Int×Unit):=Ydk.fn (a0,())
def Zcm (n:Nat)(x0:(List Vy4))(x1:Int):Option (Int×Unit):=itr Yik prog 30 F30 n 6 (x0,x1,())
theorem Zvu a0:Eq (Zj5 a0) <| bif a0.1<1 then some (8,()) else bif a0.1>8 then some (8,()) else bif ofNat a0.2.1.length>a0.1 then some (8,()) else Zcm fuel a0.2.1 0:=mkE
theorem Zj6 n x0 x1:Eq (Zcm (n+1) x0 x1) <| bif x1<ofNat x0.length then ix x0 x1 fun e0=>(Zfy e0).bind fun e1=>bif !e1.1 then some (8,()) else Zcm n x0 (wrap .i64 (x1+1)) else some (0,()):=mkI
def Ydl:Tb:=[]
def F176:TFun:=⟨[2],[(2,qc [qn 1,[.boxN 168 4 [.p di,.p di,.p di,.p di]],qn 1,qb,qn 49])],[.a [.int .i64,.int .i64,.int .i64,.int .i64]],[.c (.p di)],qc [qn 2,qi,qn 50],[],[],0⟩
def Z50:=mkC Ydl prog 176 F176
theorem Ym0:Z50.ok prog 176:=mkO trivial
def Xk (a0:(Int×Int×Int×Int×Unit)):Option (Int×Unit):=Z50.fn (a0,())
def Zfc (n:Nat)(x0 x1 x2 x3:Int)(x4:Bool):Option (Int×Unit):=itr Ydl prog 176 F176 n 2 (x0,x1,x2,x3,x4,())
theorem Zvv a0:Eq (Xk a0) <| bif a0.1<0 then Zfc fuel a0.1 a0.2.1 a0.2.2.1 a0.2.2.2.1 true else Zfc fuel a0.1 a0.2.1 a0.2.2.1 a0.2.2.2.1 (decide (a0.1>1073741824)):=mkE
theorem Zts n x0 x1 x2 x3 x4:Eq (Zfc (n+1) x0 x1 x2 x3 x4) <| bif x4 then some (8,()) else let k1:Option (Int×Unit):=let k3:Option (Int×Unit):=bif x2>x3 then some (8,()) else some (0,());bif x0==1 then bif x1 !=x2 then some (8,()) else bif x2 !=x3 then some (8,()) else k3 else k3;bif x0==0 then bif x1 !=0 then some (8,()) else bif x2 !=0 then some (8,()) else bif x3 !=0 then some (8,()) else k1 else k1:=mkI
def Ykq:Tb:=[]
def F177:TFun:=⟨[],[],[.a Vq1,.a Vq1],[.c (.p db)],qc [qn 4,qb,qn 33],[],[],0⟩
def Z51:=mkC Ykq prog 177 F177
theorem Ym1:Z51.ok prog 177:=mkO trivial
def Zfd (a0 a1:Vy1):Option (Bool×Unit):=Z51.fn (a0,a1,())
theorem Zz3 a0 a1:Eq (Zfd a0 a1) <| bif a0.2.2.1 !=a1.2.2.1 then some (decide (a0.2.2.1<a1.2.2.1),()) else bif a0.2.1 !=a1.2.1 then some (decide (a0.2.1<a1.2.1),()) else some (decide (a0.1<a1.1),()):=mkE
def Ydm:Tb:=[(176,Z50),(177,Z51)]
def F119:TFun:=⟨[],[(6,qc [[.c (.p (.sl Vq1))],qn 2,qi,qn 81])],[.c (.sl Vq1)],[.c (.p di)],qc [qn 2,qi,qn 82],[],[],0⟩
def Z52:=mkC Ydm prog 119 F119
theorem Ym2:Z52.ok prog 119:=mkO ⟨Ym0,Ym1,trivial⟩
def Zj7 (a0:(List Vy1)):Option (Int×Unit):=Z52.fn (a0,())
def Yk (n:Nat)(x0:(List Vy1))(x1:Int):Option (Int×Unit):=itr Ydm prog 119 F119 n 6 (x0,x1,())
theorem Zvw a0:Eq (Zj7 a0) <| bif ofNat a0.length>4000 then some (4,()) else Yk fuel a0 0:=mkE
theorem Zj8 n x0 x1:Eq (Yk (n+1) x0 x1) <| bif x1<ofNat x0.length then ix x0 x1 fun e0=>bif e0.2.1≥(-1100585369600) then bif e0.2.1<e0.2.2.1 then (Xk (e0.2.2.2.1,e0.2.2.2.2.1,e0.2.2.2.2.2.1,e0.2.2.2.2.2.2.1,())).bind fun e1=>bif e1.1==0 then (Xk e0.2.2.2.2.2.2.2).bind fun e2=>bif !decide (e0.2.2.1≤1100585369600) then some (8,()) else bif !e2.1==0 then some (8,()) else let k1:Option (Int×Unit):=let k3:=Yk n x0 (wrap .i64 (x1+1));bif x1>0 then ix x0 (wrap .i64 (x1 - 1)) fun e3=>(Zfd e3 e0).bind fun e4=>bif !e4.1 then some (8,()) else k3 else k3;bif e0.2.2.2.1==0 then bif e0.2.2.2.2.2.2.2.1==0 then some (8,()) else k1 else k1 else bif !decide (e0.2.2.1≤1100585369600) then some (8,()) else some (8,()) else (Xk (e0.2.2.2.1,e0.2.2.2.2.1,e0.2.2.2.2.2.1,e0.2.2.2.2.2.2.1,())).bind fun e1=>bif e1.1==0 then (Xk e0.2.2.2.2.2.2.2).bind fun e2=>some (8,()) else some (8,()) else (Xk (e0.2.2.2.1,e0.2.2.2.2.1,e0.2.2.2.2.2.1,e0.2.2.2.2.2.2.1,())).bind fun e1=>bif e1.1==0 then (Xk e0.2.2.2.2.2.2.2).bind fun e2=>some (8,()) else some (8,()) else some (0,()):=mkI
def Ykr:Tb:=[(114,Ztq)]
def F174:TFun:=⟨[],[],[.c di],[.c (.p db)],qc [qn 2,qb,qn 6],[],[],0⟩
def Z53:=mkC Ykr prog 174 F174
theorem Ym3:Z53.ok prog 174:=mkO ⟨Ydj,trivial⟩
def Zj9 (a0:Int):Option (Bool×Unit):=Z53.fn (a0,())
theorem Zvx a0:Eq (Zj9 a0) <| bif a0==(-9223372036854775808) then some (true,()) else (Zfa a0).bind fun e0=>some (e0.1,()):=mkE
def Yks:Tb:=[(114,Ztq),(113,Ztp)]
def F175:TFun:=⟨[],[],[.a Vq7],[.c (.p di)],qc [qn 2,qi,qn 28],[],[],0⟩
def Z54:=mkC Yks prog 175 F175
theorem Ym4:Z54.ok prog 175:=mkO ⟨Ydj,Ydi,trivial⟩
def Zka (a0:Vy5):Option (Int×Unit):=Z54.fn (a0,())
theorem Zvy a0:Eq (Zka a0) <| bif a0.1 then (Zfa a0.2.1).bind fun e0=>let k1:Option (Int×Unit):=bif !a0.1 then bif a0.2.1==0 then (Zbx a0.2.2).bind fun e1=>bif e1.1 then some (0,()) else some (8,()) else some (8,()) else some (8,());bif e0.1 then bif a0.2.2.1==0&&(a0.2.2.2.1==0&&(a0.2.2.2.2.1==0&&true)) then some (0,()) else k1 else k1 else bif !a0.1 then bif a0.2.1==0 then (Zbx a0.2.2).bind fun e0=>bif e0.1 then some (0,()) else some (8,()) else some (8,()) else some (8,()):=mkE
def Zkb:Tb:=[(174,Z53),(175,Z54),(115,Zz2),(113,Ztp)]
def F118:TFun:=⟨[1,10,19],[(1,qc [qn 1,[.boxN 66 9 [.any,.any,.any,.any,.any,.any,.p (.sl Vq7),.p (.sl Vq3),.p (.sl Vq8)]],qn 61]),(3,qc [qn 1,[.boxN 66 9 [.any,.any,.any,.any,.p (.sl Vq10),.any,.p (.sl Vq7),.p (.sl Vq3),.p (.sl Vq8)]],qn 1,qi,qn 59]),(10,qc [qn 1,[.boxN 66 9 [.any,.any,.any,.any,.any,.any,.any,.p (.sl Vq3),.p (.sl Vq8)]],qn 61]),(12,qc [qn 1,[.boxN 66 9 [.any,.any,.any,.any,.any,.any,.p (.sl Vq7),.p (.sl Vq3),.p (.sl Vq8)]],qn 2,qi,qn 58]),(19,qc [qn 1,[.boxN 66 9 [.any,.any,.any,.any,.any,.any,.any,.any,.p (.sl Vq8)]],qn 61]),(21,qc [qn 1,[.boxN 66 9 [.any,.any,.any,.any,.any,.any,.any,.p (.sl Vq3),.p (.sl Vq8)]],qn 3,qi,qn 57]),(30,qc [qn 1,[.boxN 66 9 [.any,.any,.any,.any,.any,.any,.any,.any,.p (.sl Vq8)]],qn 4,qi,qn 56])],[.a Vq2],[.c (.p db)],qc [qn 2,qb,qn 60],[],[],0⟩
def Z55:=mkC Zkb prog 118 F118
theorem Ym5:Z55.ok prog 118:=mkO ⟨Ym3,Ym4,Yii,Ydi,trivial⟩
def Zkc (a0:Vy3):Option (Bool×Unit):=Z55.fn (a0,())
def Zkd (n:Nat)(x0:(List Vy5))(x1:(List Vy2))(x2:Vy6):Option (Bool×Unit):=itr Zkb prog 118 F118 n 1 (x0,x1,x2,())
def Zau (n:Nat)(x0:Vy7)(x1:(List Vy5))(x2:(List Vy2))(x3:Vy6)(x4:Int):Option (Bool×Unit):=itr Zkb prog 118 F118 n 3 (x0,x1,x2,x3,x4,())
def Zh2 (n:Nat)(x0:(List Vy2))(x1:Vy6):Option (Bool×Unit):=itr Zkb prog 118 F118 n 10 (x0,x1,())
def Q8 (n:Nat)(x0:(List Vy5))(x1:(List Vy2))(x2:Vy6)(x3:Int):Option (Bool×Unit):=itr Zkb prog 118 F118 n 12 (x0,x1,x2,x3,())
def Zh3 (n:Nat)(x0:Vy6):Option (Bool×Unit):=itr Zkb prog 118 F118 n 19 (x0,())
def Q9 (n:Nat)(x0:(List Vy2))(x1:Vy6)(x2:Int):Option (Bool×Unit):=itr Zkb prog 118 F118 n 21 (x0,x1,x2,())
def Zaa (n:Nat)(x0:Vy6)(x1:Int):Option (Bool×Unit):=itr Zkb prog 118 F118 n 30 (x0,x1,())
theorem Zvz a0:Eq (Zkc a0) <| Zau fuel a0.2.2.2.2.1 a0.2.2.2.2.2.2.1 a0.2.2.2.2.2.2.2.1 a0.2.2.2.2.2.2.2.2.1 0:=mkE
theorem Ztt n x0 x1 x2:Eq (Zkd (n+1) x0 x1 x2) <| Q8 n x0 x1 x2 0:=mkI
theorem Zke n x0 x1 x2 x3 x4:Eq (Zau (n+1) x0 x1 x2 x3 x4) <| bif x4<ofNat x0.length then ix x0 x4 fun e0=>(Zj9 e0.1).bind fun e1=>bif !e1.1 then some (false,()) else Zau n x0 x1 x2 x3 (wrap .i64 (x4+1)) else Zkd n x1 x2 x3:=mkI
theorem Zqn n x0 x1:Eq (Zh2 (n+1) x0 x1) <| Q9 n x0 x1 0:=mkI
theorem Zh4 n x0 x1 x2 x3:Eq (Q8 (n+1) x0 x1 x2 x3) <| bif x3<ofNat x0.length then ix x0 x3 fun e0=>(Zka e0).bind fun e1=>bif e1.1 !=0 then some (false,()) else Q8 n x0 x1 x2 (wrap .i64 (x3+1)) else Zh2 n x1 x2:=mkI
theorem Zqo n x0:Eq (Zh3 (n+1) x0) <| Zaa n x0 0:=mkI
theorem Zh5 n x0 x1 x2:Eq (Q9 (n+1) x0 x1 x2) <| bif x2<ofNat x0.length then ix x0 x2 fun e0=>(Zlg e0).bind fun e1=>bif !e1.1 then some (false,()) else Q9 n x0 x1 (wrap .i64 (x2+1)) else Zh3 n x1:=mkI
theorem Zh6 n x0 x1:Eq (Zaa (n+1) x0 x1) <| bif x1<ofNat x0.length then ix x0 x1 fun e0=>(Zbx e0).bind fun e1=>bif !e1.1 then some (false,()) else Zaa n x0 (wrap .i64 (x1+1)) else some (true,()):=mkI
def Ydn:Tb:=[(53,Z8k)]
def F117:TFun:=⟨[],[(3,qc [[.c (.p (.sl Vq6))],qn 2,qi,qn 29])],[.c (.sl Vq6)],[.c (.p db)],qc [qn 2,qb,qn 30],[],[],0⟩
def Z56:=mkC Ydn prog 117 F117
theorem Ym6:Z56.ok prog 117:=mkO ⟨ok53,trivial⟩
def Zkf (a0:(List Vy1)):Option (Bool×Unit):=Z56.fn (a0,())
def Zcn (n:Nat)(x0:(List Vy1))(x1:Int):Option (Bool×Unit):=itr Ydn prog 117 F117 n 3 (x0,x1,())
theorem Zv0 a0:Eq (Zkf a0) <| Zcn fuel a0 0:=mkE
theorem Zkg n x0 x1:Eq (Zcn (n+1) x0 x1) <| bif x1<ofNat x0.length then ix x0 x1 fun e0=>bif e0.1<0 then some (false,()) else ix x0 x1 fun e1=>bif e1.1≥3 then some (false,()) else ix x0 x1 fun e2=>(Zfy e2.2).bind fun e3=>bif !e3.1 then some (false,()) else Zcn n x0 (wrap .i64 (x1+1)) else some (true,()):=mkI
def Ydo:Tb:=[]
def F116:TFun:=⟨[2],[(2,qc [qn 1,[.boxN 66 9 [.any,.any,.any,.any,.p (.sl Vq10),.p (.sl Vq1),.p (.sl Vq7),.p (.sl Vq3),.p (.sl Vq8)]],qn 1,qi,qi,qi,qi,qi,qn 61])],[.a Vq2],[.c (.p db)],qc [qn 2,qb,qn 66],[],[],0⟩
def Z57:=mkC Ydo prog 116 F116
theorem Ym7:Z57.ok prog 116:=mkO trivial
def Zmt (a0:Vy3):Option (Bool×Unit):=Z57.fn (a0,())
def Xl (n:Nat)(x0:Vy7)(x1:(List Vy1))(x2:(List Vy5))(x3:(List Vy2))(x4:Vy6)(x5 x6 x7 x8 x9:Int):Option (Bool×Unit):=itr Ydo prog 116 F116 n 2 (x0,x1,x2,x3,x4,x5,x6,x7,x8,x9,())
theorem Zz4 a0:Eq (Zmt a0) <| bif a0.1==1 then Xl fuel a0.2.2.2.2.1 a0.2.2.2.2.2.1 a0.2.2.2.2.2.2.1 a0.2.2.2.2.2.2.2.1 a0.2.2.2.2.2.2.2.2.1 0 0 60 0 0 else bif a0.1==2 then Xl fuel a0.2.2.2.2.1 a0.2.2.2.2.2.1 a0.2.2.2.2.2.2.1 a0.2.2.2.2.2.2.2.1 a0.2.2.2.2.2.2.2.2.1 1 0 0 0 0 else bif a0.1==3 then Xl fuel a0.2.2.2.2.1 a0.2.2.2.2.2.1 a0.2.2.2.2.2.2.1 a0.2.2.2.2.2.2.2.1 a0.2.2.2.2.2.2.2.2.1 0 0 0 0 0 else bif a0.1==4 then Xl fuel a0.2.2.2.2.1 a0.2.2.2.2.2.1 a0.2.2.2.2.2.2.1 a0.2.2.2.2.2.2.2.1 a0.2.2.2.2.2.2.2.2.1 (tmm false 4 (tmm true 1 (ofNat a0.2.2.2.2.1.length))) (ofNat a0.2.2.2.2.2.1.length) 0 0 0 else bif a0.1==5 then Xl fuel a0.2.2.2.2.1 a0.2.2.2.2.2.1 a0.2.2.2.2.2.2.1 a0.2.2.2.2.2.2.2.1 a0.2.2.2.2.2.2.2.2.1 2 (ofNat a0.2.2.2.2.2.1.length) 0 0 0 else bif a0.1==6 then Xl fuel a0.2.2.2.2.1 a0.2.2.2.2.2.1 a0.2.2.2.2.2.2.1 a0.2.2.2.2.2.2.2.1 a0.2.2.2.2.2.2.2.2.1 0 0 0 4000 0 else bif a0.1==7 then Xl fuel a0.2.2.2.2.1 a0.2.2.2.2.2.1 a0.2.2.2.2.2.2.1 a0.2.2.2.2.2.2.2.1 a0.2.2.2.2.2.2.2.2.1 0 0 0 0 4000 else some (false,()):=mkE
theorem Zv1 n x0 x1 x2 x3 x4 x5 x6 x7 x8 x9:Eq (Xl (n+1) x0 x1 x2 x3 x4 x5 x6 x7 x8 x9) <| let k1:=some (false,());bif ofNat x0.length==x5 then bif ofNat x1.length≤x6 then bif ofNat x2.length≤x7 then bif ofNat x3.length≤x8 then some (decide (ofNat x4.length≤x9),()) else k1 else k1 else k1 else k1:=mkI
def Yil:Tb:=[(116,Z57),(117,Z56),(118,Z55),(119,Z52)]
def F54:TFun:=⟨[],[(13,qc [qn 1,[.boxN 66 9 [.p (.int .u8),.any,.any,.any,.any,.p (.sl Vq1),.any,.any,.any]],qn 1,qi,qn 68])],[.a Vq2],[.c (.p di)],qc [qn 2,qi,qn 69],[],[],0⟩
def Ydp:=mkC Yil prog 54 F54
theorem ok54:Ydp.ok prog 54:=mkO ⟨Ym7,Ym6,Ym5,Ym2,trivial⟩
def Zfz (a0:Vy3):Option (Int×Unit):=Ydp.fn (a0,())
def Zbj (n:Nat)(x0:Int)(x1:(List Vy1))(x2:Int):Option (Int×Unit):=itr Yil prog 54 F54 n 13 (x0,x1,x2,())
theorem Zv2 a0:Eq (Zfz a0) <| let k1:Option (Int×Unit):=some (8,());bif a0.2.2.1<0 then k1 else bif a0.2.2.1≥20 then k1 else bif ofNat a0.2.2.2.1.length>4000 then k1 else bif a0.2.1<0 then k1 else bif a0.2.1≥4 then k1 else (Zmt a0).bind fun e0=>bif !e0.1 then k1 else (Zkf a0.2.2.2.1).bind fun e1=>bif !e1.1 then k1 else (Zkc a0).bind fun e2=>bif !e2.1 then k1 else (Zj7 a0.2.2.2.2.2.1).bind fun e3=>bif e3.1 !=0 then k1 else Zbj fuel a0.1 a0.2.2.2.2.2.1 0:=mkE
theorem Zh7 n x0 x1 x2:Eq (Zbj (n+1) x0 x1 x2) <| bif x2<ofNat x1.length then let k1:=Zbj n x0 x1 (wrap .i64 (x2+1));bif x0==4 then ix x1 x2 fun e0=>bif e0.2.2.2.2.2.2.2.1 !=0 then some (8,()) else k1 else k1 else some (0,()):=mkI
end
end Tg
