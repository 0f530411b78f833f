import Derived.Test.YtfnhchmemplhaaaGreatProg
import Derived.Test.YtfnhchmemplhaaaGreatVT
/- Functions of the code, told plainly and checked by the kernel. -/
set_option linter.unusedVariables false
set_option linter.unusedSimpArgs false
set_option maxRecDepth 100000
namespace Tg
open Go.Abs hiding fuel
open Go.Proofs.Tryz (prog)
open Int (ofNat toNat)
open Go.IntKind (wrap)
noncomputable def tab172:Tb:=[]
def F172:TFun:=⟨[],[],[.c (.int .u8)],[.c (.p di)],qc [qn 2,qi,qn 4],[],[],0⟩
noncomputable def con172:=mkC tab172 prog 172 F172
theorem ok172:con172.ok prog 172:=mkO trivial (by kernel_rfl)
noncomputable def ref04_Count (a0:Int):Option (Int×Unit):=con172.fn (a0,())
theorem ref04_Count_c a0:Eq (ref04_Count a0) <| bif a0≤4 then some (0,()) else bif a0≤6 then some (1,()) else some (2,()):=mkE (by kernel_rfl)
noncomputable def tab173:Tb:=[]
def F173:TFun:=⟨[],[],[.a Vq5,.c di,.c di],[.c (.p db)],qc [qn 6,qb,qn 45],[],[],0⟩
noncomputable def con173:=mkC tab173 prog 173 F173
theorem ok173:con173.ok prog 173:=mkO trivial (by kernel_rfl)
noncomputable def ref04_right (a0:Vy2)(a1 a2:Int):Option (Bool×Unit):=con173.fn (a0,a1,a2,())
theorem ref04_right_c a0 a1 a2:Eq (ref04_right a0 a1 a2) <| bif a0.1≥1 then bif a0.1≤19 then bif a0.2.1≥0 then let k1:=bif a0.2.2.2.2.1≥0 then bif a0.2.2.2.2.1≤400 then bif a0.2.2.1==a1 then some (a0.2.2.2.1==a2,()) else some (false,()) else some (false,()) else some (false,());bif a0.2.1==0 then k1 else bif a0.1==1 then k1 else some (false,()) else some (false,()) else some (false,()) else some (false,()):=mkE (by kernel_rfl)
noncomputable def tab151:Tb:=[(172,con172),(173,con173)]
def F151:TFun:=⟨[11,2],[(2,qc [[.c (.p (.sl Vq5))],qn 4,[.c (.rowN 3 1 Vq12)],[.c (.rowN 3 1 Vq12)],qn 95]),(4,qc [[.c (.p (.sl Vq5))],qn 4,[.c (.rowN 3 1 Vq12)],[.c (.rowN 3 1 Vq12)],qi,qn 94]),(11,qc [[.c (.p (.sl Vq5))],qn 4,[.c (.rowN 3 1 Vq12)],[.c (.rowN 3 1 Vq12)],qi,qi,qi,qi,qi,qn 90])],[.c (.sl Vq5)],[.c (.s 3 1 Vq12),.c (.s 3 1 Vq12),.c (.p db)],qc [qn 2,[.c (.rowN 3 1 Vq12)],[.c (.rowN 3 1 Vq12)],qb,qn 97],[],[],0⟩
noncomputable def con151:=mkC tab151 prog 151 F151
theorem ok151:con151.ok prog 151:=mkO ⟨ok172,ok173,trivial⟩ (by kernel_rfl)
noncomputable def con151p:TCon:=⟨con151.args,[.c (.p (.sl Vq12)),.c (.p (.sl Vq12)),.c (.p db)],con151.fn⟩
theorem ok151p:con151p.ok prog 151:=TCon.frz (c:=con151) ok151 rfl
noncomputable def ref04_Sizes (a0:(List Vy2)):Option Vy13:=con151.fn (a0,())
noncomputable def ref04_Sizes_i2 (n:Nat)(x0:(List Vy2))(x1 x2:Vy9):Option Vy13:=itr tab151 prog 151 F151 n 2 (x0,x1,x2,())
noncomputable def ref04_Sizes_i4 (n:Nat)(x0:(List Vy2))(x1 x2:Vy9)(x3:Int):Option Vy13:=itr tab151 prog 151 F151 n 4 (x0,x1,x2,x3,())
noncomputable def ref04_Sizes_i11 (n:Nat)(x0:(List Vy2))(x1 x2:Vy9)(x3 x4 x5 x6 x7:Int):Option Vy13:=itr tab151 prog 151 F151 n 11 (x0,x1,x2,x3,x4,x5,x6,x7,())
theorem ref04_Sizes_c a0:Eq (ref04_Sizes a0) <| ref04_Sizes_i4 fuel a0 ([]) ([]) 0:=mkE (by kernel_rfl)
theorem ref04_Sizes_c2 n x0 x1 x2:Eq (ref04_Sizes_i2 (n+1) x0 x1 x2) <| bif ofNat x0.length>0 then bif 0≤wrap .i64 (ofNat x0.length - 1) then bif toNat (wrap .i64 (ofNat x0.length - 1))<x1.length then match x1[toNat (wrap .i64 (ofNat x0.length - 1))]? with | none=>none | some e0=>some (x1,x2,e0.1==ofNat x0.length,()) else none else none else some (x1,x2,false,()):=mkI (by kernel_rfl)
theorem ref04_Sizes_c4 n x0 x1 x2 x3:Eq (ref04_Sizes_i4 (n+1) x0 x1 x2 x3) <| bif x3<ofNat x0.length then bif 0≤x3 then match x0[x3.toNat]? with | none=>none | some e0=>match ref04_Count e0.1 with | none=>none | some e1=>bif e1.1>0 then bif wrap .i64 (x3 - 1)<0 then some ([],[],false,()) else bif 0≤wrap .i64 (x3 - 1) then bif toNat (wrap .i64 (x3 - 1))<x1.length then match x1[toNat (wrap .i64 (x3 - 1))]? with | none=>none | some e2=>bif 0≤wrap .i64 (x3 - 1) then bif toNat (wrap .i64 (x3 - 1))<x1.length then match x1[toNat (wrap .i64 (x3 - 1))]? with | none=>none | some e3=>bif 0≤wrap .i64 (x3 - 1) then bif toNat (wrap .i64 (x3 - 1))<x2.length then match x2[toNat (wrap .i64 (x3 - 1))]? with | none=>none | some e4=>bif e1.1==2 then bif wrap .i64 (wrap .i64 (x3 - 1) - e2.1)<0 then some ([],[],false,()) else bif 0≤wrap .i64 (wrap .i64 (x3 - 1) - e2.1) then bif toNat (wrap .i64 (wrap .i64 (x3 - 1) - e2.1))<x1.length then match x1[toNat (wrap .i64 (wrap .i64 (x3 - 1) - e2.1))]? with | none=>none | some e5=>bif 0≤wrap .i64 (wrap .i64 (x3 - 1) - e2.1) then bif toNat (wrap .i64 (wrap .i64 (x3 - 1) - e2.1))<x2.length then match x2[toNat (wrap .i64 (wrap .i64 (x3 - 1) - e2.1))]? with | none=>none | some e6=>ref04_Sizes_i11 n x0 x1 x2 x3 (wrap .i64 (wrap .i64 (x3 - 1) - e2.1)) (wrap .i64 (x3 - 1)) (wrap .i64 (wrap .i64 (1+e3.1)+e5.1)) (tmm true (wrap .i64 (1+e4.1)) (wrap .i64 (1+e6.1))) else none else none else none else none else ref04_Sizes_i11 n x0 x1 x2 x3 (wrap .i64 (x3 - 1)) 0 (wrap .i64 (1+e3.1)) (wrap .i64 (1+e4.1)) else none else none else none else none else none else none else ref04_Sizes_i11 n x0 x1 x2 x3 0 0 1 1 else none else ref04_Sizes_i2 n x0 x1 x2:=mkI (by kernel_rfl)
theorem ref04_Sizes_c11 n x0 x1 x2 x3 x4 x5 x6 x7:Eq (ref04_Sizes_i11 (n+1) x0 x1 x2 x3 x4 x5 x6 x7) <| bif 0≤x3 then match x0[x3.toNat]? with | none=>none | some e0=>match ref04_right e0 x4 x5 with | none=>none | some e1=>bif !e1.1 then some ([],[],false,()) else bif bigOk (x1.length+List.length [(x6,())]) 8 then bif bigOk (x2.length+List.length [(x7,())]) 8 then ref04_Sizes_i4 n x0 (x1++[(x6,())]) (x2++[(x7,())]) (wrap .i64 (x3+1)) else none else none else none:=mkI (by kernel_rfl)
noncomputable def tab124:Tb:=[(151,con151p)]
def F124:TFun:=⟨[],[],[.c (.sl Vq5)],[.c (.p di)],qc [qn 2,qi,qn 21],[],[],0⟩
noncomputable def con124:=mkC tab124 prog 124 F124
theorem ok124:con124.ok prog 124:=mkO ⟨ok151p,trivial⟩ (by kernel_rfl)
noncomputable def ref04_Check (a0:(List Vy2)):Option (Int×Unit):=con124.fn (a0,())
theorem ref04_Check_c a0:Eq (ref04_Check a0) <| bif ofNat a0.length>60 then some (4,()) else match ref04_Sizes a0 with | none=>none | some e0=>bif !e0.2.2.1 then some (8,()) else bif 0≤wrap .i64 (ofNat a0.length - 1) then match e0.2.1[toNat (wrap .i64 (ofNat a0.length - 1))]? with | none=>none | some e1=>bif e1.1>20 then some (34,()) else some (0,()) else none:=mkE (by kernel_rfl)
noncomputable def tab125:Tb:=[]
def F125:TFun:=⟨[7],[(7,qc [[.c (.p (.sl Vq12))],qn 59]),(9,qc [[.c (.p (.sl Vq12))],qn 4,qi,qn 54]),(17,qc [[.c (.p (.sl Vq12))],qn 5,qi,qn 53]),(22,qc [[.c (.p (.sl Vq12))],qn 5,qi,qi,qn 52])],[.c (.sl Vq12),.c db],[.c (.p di)],qc [qn 4,qi,qn 55],[],[],0⟩
noncomputable def con125:=mkC tab125 prog 125 F125
theorem ok125:con125.ok prog 125:=mkO trivial (by kernel_rfl)
noncomputable def ref08_Sources (a0:Vy9)(a1:Bool):Option (Int×Unit):=con125.fn (a0,a1,())
noncomputable def ref08_Sources_i7 (n:Nat)(x0:Vy9):Option (Int×Unit):=itr tab125 prog 125 F125 n 7 (x0,())
noncomputable def ref08_Sources_i9 (n:Nat)(x0:Vy9)(x1:Int):Option (Int×Unit):=itr tab125 prog 125 F125 n 9 (x0,x1,())
noncomputable def ref08_Sources_i17 (n:Nat)(x0:Vy9)(x1:Int):Option (Int×Unit):=itr tab125 prog 125 F125 n 17 (x0,x1,())
noncomputable def ref08_Sources_i22 (n:Nat)(x0:Vy9)(x1 x2:Int):Option (Int×Unit):=itr tab125 prog 125 F125 n 22 (x0,x1,x2,())
theorem ref08_Sources_c a0 a1:Eq (ref08_Sources a0 a1) <| bif ofNat a0.length>4 then some (4,()) else bif ofNat a0.length==0 then some (8,()) else bif a1 then bif ofNat a0.length !=2 then some (8,()) else ref08_Sources_i9 fuel a0 0 else ref08_Sources_i9 fuel a0 0:=mkE (by kernel_rfl)
theorem ref08_Sources_c7 n x0:Eq (ref08_Sources_i7 (n+1) x0) <| ref08_Sources_i17 n x0 0:=mkI (by kernel_rfl)
theorem ref08_Sources_c9 n x0 x1:Eq (ref08_Sources_i9 (n+1) x0 x1) <| bif x1<ofNat x0.length then bif 0≤x1 then match x0[x1.toNat]? with | none=>none | some e0=>bif e0.1<0 then some (8,()) else bif 0≤x1 then match x0[x1.toNat]? with | none=>none | some e1=>bif e1.1>3 then some (8,()) else ref08_Sources_i9 n x0 (wrap .i64 (x1+1)) else none else none else ref08_Sources_i7 n x0:=mkI (by kernel_rfl)
theorem ref08_Sources_c17 n x0 x1:Eq (ref08_Sources_i17 (n+1) x0 x1) <| bif x1<ofNat x0.length then ref08_Sources_i22 n x0 x1 0 else some (0,()):=mkI (by kernel_rfl)
theorem ref08_Sources_c22 n x0 x1 x2:Eq (ref08_Sources_i22 (n+1) x0 x1 x2) <| bif x2<x1 then bif 0≤x2 then match x0[x2.toNat]? with | none=>none | some e0=>bif 0≤x1 then match x0[x1.toNat]? with | none=>none | some e1=>bif e0.1==e1.1 then some (43,()) else ref08_Sources_i22 n x0 x1 (wrap .i64 (x2+1)) else none else none else ref08_Sources_i17 n x0 (wrap .i64 (x1+1)):=mkI (by kernel_rfl)
noncomputable def tab126:Tb:=[]
def F126:TFun:=⟨[],[],[.a [.int .u8,.int .i64,.int .i64]],[.c (.p db)],qc [qn 2,qb,qn 42],[],[],0⟩
noncomputable def con126:=mkC tab126 prog 126 F126
theorem ok126:con126.ok prog 126:=mkO trivial (by kernel_rfl)
noncomputable def ref08_Fits (a0:(Int×Int×Int×Unit)):Option (Bool×Unit):=con126.fn (a0,())
theorem ref08_Fits_c a0:Eq (ref08_Fits a0) <| let k1:=some (false,());bif a0.2.1<1 then k1 else bif a0.2.1>1073741824 then k1 else bif a0.1==2 then bif a0.2.2.1≥1 then bif a0.2.2.1≤a0.2.1 then some ((decide (a0.2.1≤wrap .i64 (16*a0.2.2.1)),())) else k1 else k1 else bif a0.1==1 then some (a0.2.2.1==0,()) else bif a0.1==3 then some (a0.2.2.1==0,()) else k1:=mkE (by kernel_rfl)
noncomputable def tab94:Tb:=[(124,con124),(125,con125),(126,con126)]
def F94:TFun:=⟨[],[],[.a Vq11],[.c (.p di)],qc [qn 2,qi,qn 77],[],[],0⟩
noncomputable def con94:=mkC tab94 prog 94 F94
theorem ok94:con94.ok prog 94:=mkO ⟨ok124,ok125,ok126,trivial⟩ (by kernel_rfl)
noncomputable def ref08_Check (a0:Vy10):Option (Int×Unit):=con94.fn (a0,())
theorem ref08_Check_c a0:Eq (ref08_Check a0) <| bif a0.1<1 then some (8,()) else bif a0.1>4 then some (8,()) else bif a0.2.2.2.2.2.2.2.2.2.1<1 then some (8,()) else bif a0.2.2.2.2.2.2.2.2.2.1>2 then some (8,()) else let k1:Option (Int×Unit):=let k4:Option (Int×Unit):=match ref08_Sources a0.2.2.1 a0.2.2.2.1 with | none=>none | some e1=>bif e1.1 !=0 then match ref08_Sources a0.2.2.1 a0.2.2.2.1 with | none=>none | some e2=>some (e2.1,()) else match ref08_Fits (a0.2.2.2.2.2.1,a0.2.2.2.2.2.2.1,a0.2.2.2.2.2.2.2.1,()) with | none=>none | some e2=>bif !e2.1 then some (8,()) else bif a0.2.2.2.1 then bif a0.2.2.2.2.2.1 !=1 then some (8,()) else some (0,()) else some (0,());let k5:Option (Int×Unit):=bif a0.2.2.2.1 then bif a0.2.2.2.2.2.1 !=1 then some (8,()) else some (0,()) else some (0,());bif a0.1 !=1 then match ref04_Check a0.2.1 with | none=>none | some e0=>bif e0.1 !=0 then match ref04_Check a0.2.1 with | none=>none | some e1=>some (e1.1,()) else bif ofNat a0.2.2.2.2.1.length>0 then match ref04_Check a0.2.2.2.2.1 with | none=>none | some e1=>bif e1.1 !=0 then match ref04_Check a0.2.2.2.2.1 with | none=>none | some e2=>some (e2.1,()) else match ref08_Sources a0.2.2.1 a0.2.2.2.1 with | none=>none | some e2=>bif e2.1 !=0 then match ref08_Sources a0.2.2.1 a0.2.2.2.1 with | none=>none | some e3=>some (e3.1,()) else match ref08_Fits (a0.2.2.2.2.2.1,a0.2.2.2.2.2.2.1,a0.2.2.2.2.2.2.2.1,()) with | none=>none | some e3=>bif !e3.1 then some (8,()) else k5 else k4 else bif ofNat a0.2.2.2.2.1.length>0 then match ref04_Check a0.2.2.2.2.1 with | none=>none | some e0=>bif e0.1 !=0 then match ref04_Check a0.2.2.2.2.1 with | none=>none | some e1=>some (e1.1,()) else k4 else match ref08_Sources a0.2.2.1 a0.2.2.2.1 with | none=>none | some e0=>bif e0.1 !=0 then match ref08_Sources a0.2.2.1 a0.2.2.2.1 with | none=>none | some e1=>some (e1.1,()) else match ref08_Fits (a0.2.2.2.2.2.1,a0.2.2.2.2.2.2.1,a0.2.2.2.2.2.2.2.1,()) with | none=>none | some e1=>bif !e1.1 then some (8,()) else k5;bif a0.1==1 then bif ofNat a0.2.1.length>0 then some (8,()) else k1 else k1:=mkE (by kernel_rfl)
noncomputable def tab175:Tb:=[]
def F175:TFun:=⟨[],[],[.c (.int .u8)],[.c (.p db)],qc [qn 2,qb,qn 6],[],[],0⟩
noncomputable def con175:=mkC tab175 prog 175 F175
theorem ok175:con175.ok prog 175:=mkO trivial (by kernel_rfl)
noncomputable def ref06_Gives (a0:Int):Option (Bool×Unit):=con175.fn (a0,())
theorem ref06_Gives_c a0:Eq (ref06_Gives a0) <| bif a0==6 then some (true,()) else some (decide (a0≥12),()):=mkE (by kernel_rfl)
noncomputable def tab180:Tb:=[(175,con175)]
def F180:TFun:=⟨[],[],[.c (.sl Vq5),.c di],[.c (.p db)],qc [qn 4,qb,qn 62],[],[],0⟩
noncomputable def con180:=mkC tab180 prog 180 F180
theorem ok180:con180.ok prog 180:=mkO ⟨ok175,trivial⟩ (by kernel_rfl)
noncomputable def ref06_fits (a0:(List Vy2))(a1:Int):Option (Bool×Unit):=con180.fn (a0,a1,())
theorem ref06_fits_c a0 a1:Eq (ref06_fits a0 a1) <| bif 0≤a1 then match a0[a1.toNat]? with | none=>none | some e0=>bif 0≤e0.2.2.1 then match a0[e0.2.2.1.toNat]? with | none=>none | some e1=>match ref06_Gives e1.1 with | none=>none | some e2=>bif 0≤e0.2.2.2.1 then match a0[e0.2.2.2.1.toNat]? with | none=>none | some e3=>match ref06_Gives e3.1 with | none=>none | some e4=>bif e0.1≤4 then some (true,()) else bif e0.1==5 then some (!e2.1,()) else bif e0.1==6 then some (e2.1,()) else bif e0.1==16 then some (e2.1==e4.1,()) else bif e0.1==17 then some (e2.1==e4.1,()) else bif e0.1≥18 then bif e2.1 then some (e4.1,()) else some (false,()) else bif !e2.1 then some (!e4.1,()) else some (false,()) else none else none else none:=mkE (by kernel_rfl)
noncomputable def tab174:Tb:=[(180,con180)]
def F174:TFun:=⟨[],[(3,qc [[.c (.p (.sl Vq5))],qn 2,qi,qn 13])],[.c (.sl Vq5)],[.c (.p di)],qc [qn 2,qi,qn 14],[],[],0⟩
noncomputable def con174:=mkC tab174 prog 174 F174
theorem ok174:con174.ok prog 174:=mkO ⟨ok180,trivial⟩ (by kernel_rfl)
noncomputable def ref06_Wrong (a0:(List Vy2)):Option (Int×Unit):=con174.fn (a0,())
noncomputable def ref06_Wrong_i3 (n:Nat)(x0:(List Vy2))(x1:Int):Option (Int×Unit):=itr tab174 prog 174 F174 n 3 (x0,x1,())
theorem ref06_Wrong_c a0:Eq (ref06_Wrong a0) <| ref06_Wrong_i3 fuel a0 0:=mkE (by kernel_rfl)
theorem ref06_Wrong_c3 n x0 x1:Eq (ref06_Wrong_i3 (n+1) x0 x1) <| bif x1<ofNat x0.length then match ref06_fits x0 x1 with | none=>none | some e0=>bif !e0.1 then some (x1,()) else ref06_Wrong_i3 n x0 (wrap .i64 (x1+1)) else some (ofNat x0.length,()):=mkI (by kernel_rfl)
noncomputable def tab152:Tb:=[(124,con124),(174,con174),(175,con175)]
def F152:TFun:=⟨[],[],[.c (.sl Vq5)],[.c (.p db),.c (.p di),.c (.p di)],qc [qn 2,qb,qi,qi,qn 24],[],[],0⟩
noncomputable def con152:=mkC tab152 prog 152 F152
theorem ok152:con152.ok prog 152:=mkO ⟨ok124,ok174,ok175,trivial⟩ (by kernel_rfl)
noncomputable def ref06_Of (a0:(List Vy2)):Option (Bool×Int×Int×Unit):=con152.fn (a0,())
theorem ref06_Of_c a0:Eq (ref06_Of a0) <| match ref04_Check a0 with | none=>none | some e0=>bif e0.1 !=0 then match ref04_Check a0 with | none=>none | some e1=>some (false,0,e1.1,()) else match ref06_Wrong a0 with | none=>none | some e1=>bif e1.1<ofNat a0.length then some (false,e1.1,42,()) else bif 0≤wrap .i64 (ofNat a0.length - 1) then match a0[toNat (wrap .i64 (ofNat a0.length - 1))]? with | none=>none | some e2=>match ref06_Gives e2.1 with | none=>none | some e3=>some (e3.1,wrap .i64 (ofNat a0.length - 1),0,()) else none:=mkE (by kernel_rfl)
noncomputable def tab127:Tb:=[(152,con152)]
def F127:TFun:=⟨[],[],[.c (.sl Vq5),.c db],[.c (.p di),.c (.p di)],qc [qn 4,qi,qi,qn 19],[],[],0⟩
noncomputable def con127:=mkC tab127 prog 127 F127
theorem ok127:con127.ok prog 127:=mkO ⟨ok152,trivial⟩ (by kernel_rfl)
noncomputable def ref06_Want (a0:(List Vy2))(a1:Bool):Option Vy11:=con127.fn (a0,a1,())
theorem ref06_Want_c a0 a1:Eq (ref06_Want a0 a1) <| match ref06_Of a0 with | none=>none | some e0=>bif e0.2.2.1==0 then bif !e0.1==a1 then some (e0.2.1,42,()) else some e0.2 else some e0.2:=mkE (by kernel_rfl)
noncomputable def tab95:Tb:=[(127,con127)]
def F95:TFun:=⟨[1],[(1,qc [qn 1,[.boxN 27 10 [.any,.any,.any,.any,.p (.sl Vq5),.any,.any,.any,.any,.any]],qn 44])],[.a Vq11],[.c (.p di),.c (.p di)],qc [qn 2,qi,qi,qn 42],[],[],0⟩
noncomputable def con95:=mkC tab95 prog 95 F95
theorem ok95:con95.ok prog 95:=mkO ⟨ok127,trivial⟩ (by kernel_rfl)
noncomputable def ref10_Right (a0:Vy10):Option Vy11:=con95.fn (a0,())
noncomputable def ref10_Right_i1 (n:Nat)(x0:(List Vy2)):Option Vy11:=itr tab95 prog 95 F95 n 1 (x0,())
theorem ref10_Right_c a0:Eq (ref10_Right a0) <| bif ofNat a0.2.1.length>0 then match ref06_Want a0.2.1 false with | none=>none | some e0=>bif e0.2.1 !=0 then bif 0≤e0.1 then match a0.2.1[e0.1.toNat]? with | none=>none | some e1=>some (e1.2.2.2.2.1,e0.2.1,()) else none else ref10_Right_i1 fuel a0.2.2.2.2.1 else ref10_Right_i1 fuel a0.2.2.2.2.1:=mkE (by kernel_rfl)
theorem ref10_Right_c1 n x0:Eq (ref10_Right_i1 (n+1) x0) <| bif ofNat x0.length>0 then match ref06_Want x0 true with | none=>none | some e0=>bif e0.2.1 !=0 then bif 0≤e0.1 then match x0[e0.1.toNat]? with | none=>none | some e1=>some (e1.2.2.2.2.1,e0.2.1,()) else none else some (0,0,()) else some (0,0,()):=mkI (by kernel_rfl)
noncomputable def tab64:Tb:=[(94,con94),(95,con95)]
def F64:TFun:=⟨[],[],[.a Vq11],[.c (.p di),.c (.p di)],qc [qn 2,qi,qi,qn 9],[],[],0⟩
noncomputable def con64:=mkC tab64 prog 64 F64
theorem ok64:con64.ok prog 64:=mkO ⟨ok94,ok95,trivial⟩ (by kernel_rfl)
noncomputable def ref10_Check (a0:Vy10):Option Vy11:=con64.fn (a0,())
theorem ref10_Check_c a0:Eq (ref10_Check a0) <| match ref08_Check a0 with | none=>none | some e0=>bif e0.1 !=0 then match ref08_Check a0 with | none=>none | some e1=>some (0,e1.1,()) else match ref10_Right a0 with | none=>none | some e1=>some e1:=mkE (by kernel_rfl)
noncomputable def tab43:Tb:=[(64,con64)]
def F43:TFun:=⟨[],[],[.a Vq11],[.c (.p db)],qc [qn 2,qb,qn 9],[],[],0⟩
noncomputable def con43:=mkC tab43 prog 43 F43
theorem ok43:con43.ok prog 43:=mkO ⟨ok64,trivial⟩ (by kernel_rfl)
noncomputable def ref29_Accepted (a0:Vy10):Option (Bool×Unit):=con43.fn (a0,())
theorem ref29_Accepted_c a0:Eq (ref29_Accepted a0) <| match ref10_Check a0 with | none=>none | some e0=>some (e0.2.1==0,()):=mkE (by kernel_rfl)
end Tg
