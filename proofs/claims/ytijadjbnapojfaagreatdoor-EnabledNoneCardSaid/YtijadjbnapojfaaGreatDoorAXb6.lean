import Derived.Test.YtijadjbnapojfaaGreatDoorAVT
/- Functions of the code, told plainly and checked by the kernel. -/
set_option linter.unusedVariables false
set_option linter.unusedSimpArgs false
set_option maxRecDepth 100000
namespace Tg
noncomputable section
open Go.Abs hiding fuel
open Go.Proofs.Tryz (prog)
open Int (ofNat toNat)
open Go.IntKind (wrap)
def Ykt:Tb:=[]
def F249:TFun:=⟨[],[],[.c (.int .u8)],[.c (.p di),.c (.p di)],qc [qn 2,qi,qi,qn 21],[],[],0⟩
def Z58:=mkC Ykt prog 249 F249
theorem Yna:Z58.ok prog 249:=mkO trivial
def Zki (a0:Int):Option (Int×Int×Unit):=Z58.fn (a0,())
theorem Zv3 a0:Eq (Zki a0) <| let k1:Option (Int×Int×Unit):=bif a0==5 then some (1,0,()) else bif a0==6 then some (1,0,()) else bif a0≥7 then bif a0≤19 then some (2,0,()) else some (0,2,()) else some (0,2,());bif a0≥1 then bif a0≤4 then some (0,0,()) else k1 else k1:=mkE
def Zo6:Tb:=[(249,Z58)]
def F216:TFun:=⟨[28,21,31],[(4,qc [qn 4,[.c (.rowN 314 3 Xq2)],[.c (.rowN 314 3 Xq2)],qn 9,[.c (.p (.sl Xq1))],qi,qi,qn 87]),(21,qc [qn 4,[.c (.rowN 314 3 Xq2)],[.c (.slN 314 3 Xq2)],qn 1,[.boxN 146 5 [.p (.int .u8),.p di,.p di,.p di,.p di]],qn 3,[.boxN 146 5 [.p (.int .u8),.p di,.p di,.p di,.p di]],[.boxN 314 3 [.p di,.p di,.p di]],qn 2,[.c (.p (.sl Xq1))],qi,qi,qn 87]),(23,qc [qn 4,[.c (.rowN 314 3 Xq2)],[.c (.slN 314 3 Xq2)],qn 1,[.boxN 146 5 [.p (.int .u8),.p di,.p di,.p di,.p di]],qn 3,[.boxN 146 5 [.p (.int .u8),.p di,.p di,.p di,.p di]],[.boxN 314 3 [.p di,.p di,.p di]],qn 2,[.c (.p (.sl Xq1))],qi,qi,qn 34,[.c (.slR 1)],qi,qi,qn 50]),(28,qc [qn 4,[.c (.rowN 314 3 Xq2)],[.c (.slN 314 3 Xq2)],qn 1,[.boxN 146 5 [.p (.int .u8),.p di,.p di,.p di,.p di]],qn 3,[.boxN 146 5 [.p (.int .u8),.p di,.p di,.p di,.p di]],[.boxN 314 3 [.p di,.p di,.p di]],qn 1,[.boxN 314 3 [.any,.p di,.p di]],[.c (.p (.sl Xq1))],qi,qi,qn 34,[.c (.slR 1)],qi,qi,qn 50]),(31,qc [qn 4,[.c (.rowN 314 3 Xq2)],[.c (.slN 314 3 Xq2)],qn 1,[.boxN 146 5 [.p (.int .u8),.p di,.p di,.p di,.p di]],qn 3,[.boxN 146 5 [.p (.int .u8),.p di,.p di,.p di,.p di]],[.boxN 314 3 [.p di,.p di,.p di]],qn 2,[.c (.p (.sl Xq1))],qi,qi,qn 87])],[.c (.sl Xq1)],[.c (.s 314 3 Xq2),.c (.p db)],qc [qn 2,[.c (.rowN 314 3 Xq2)],qb,qn 101],[(16,[250])],[],8⟩
def Ztw:=mkC Zo6 prog 216 F216
theorem Ynb:Ztw.ok prog 216:=mkO ⟨Yna,trivial⟩
def Z8m:TCon:=⟨Ztw.args,[.c (.p (.sl Xq2)),.c (.p db)],Ztw.fn⟩
theorem Yku:Z8m.ok prog 216:=TCon.frz (c:=Ztw) Ynb rfl
def Zhi (a0:Xy1):Option (List Xy3×Bool×Unit):=Ztw.fn (a0,())
def Zt (n:Nat)(x0 x1:(List Xy3))(x2:Xy1)(x3 x4:Int):Option (List Xy3×Bool×Unit):=itr Zo6 prog 216 F216 n 4 (x0,x1,x2,x3,x4,())
def Zav (n:Nat)(x0 x1:(List Xy3))(x2 x3 x4 x5 x6 x7 x8 x9 x10 x11 x12 x13 x14 x15:Int)(x16:Xy1)(x17 x18:Int):Option (List Xy3×Bool×Unit):=itr Zo6 prog 216 F216 n 21 (x0,x1,x2,x3,x4,x5,x6,x7,x8,x9,x10,x11,x12,x13,x14,x15,x16,x17,x18,())
def Yl (n:Nat)(x0 x1:(List Xy3))(x2 x3 x4 x5 x6 x7 x8 x9 x10 x11 x12 x13 x14 x15:Int)(x16:Xy1)(x17 x18 x19 x20 x21 x22:Int):Option (List Xy3×Bool×Unit):=itr Zo6 prog 216 F216 n 23 (x0,x1,x2,x3,x4,x5,x6,x7,x8,x9,x10,x11,x12,x13,x14,x15,x16,x17,x18,x19,x20,x21,x22,())
def Zfe (n:Nat)(x0 x1:(List Xy3))(x2 x3 x4 x5 x6 x7 x8 x9 x10 x11 x12 x13 x14 x15 x16 x17:Int)(x18:Xy1)(x19 x20 x21 x22 x23 x24:Int):Option (List Xy3×Bool×Unit):=itr Zo6 prog 216 F216 n 28 (x0,x1,x2,x3,x4,x5,x6,x7,x8,x9,x10,x11,x12,x13,x14,x15,x16,x17,x18,x19,x20,x21,x22,x23,x24,())
def Zco (n:Nat)(x0 x1:(List Xy3))(x2 x3 x4 x5 x6 x7 x8 x9 x10 x11 x12 x13 x14 x15:Int)(x16:Xy1)(x17 x18:Int):Option (List Xy3×Bool×Unit):=itr Zo6 prog 216 F216 n 31 (x0,x1,x2,x3,x4,x5,x6,x7,x8,x9,x10,x11,x12,x13,x14,x15,x16,x17,x18,())
theorem Znt a0:Eq (Zhi a0) <| Zt fuel ([]) ([]) a0 (ofNat a0.length) 0:=mkE
theorem Zdl n x0 x1 x2 x3 x4:Eq (Zt (n+1) x0 x1 x2 x3 x4) <| bif x4<x3 then bif 0≤x4 then match x2[x4.toNat]? with | none=>none | some e0=>match Zki e0.1 with | none=>none | some e1=>bif e1.2.1 !=0 then some (x0,false,()) else bif e1.1>ofNat x1.length then some (x0,false,()) else bif 0≤wrap .i64 (ofNat x1.length - e1.1) then bif decide (0≤toNat (wrap .i64 (ofNat x1.length - e1.1)))&&decide (toNat (wrap .i64 (ofNat x1.length - e1.1))≤x1.length) then bif 0≤wrap .i64 (ofNat x1.length - e1.1) then bif toNat (wrap .i64 (ofNat x1.length - e1.1))≤x1.length then bif toNat (wrap .i64 (ofNat x1.length - e1.1))=x1.length then Yl n x0 x1 (ofNat (toNat (wrap .i64 (ofNat x1.length - e1.1)))) e0.1 e0.2.1 e0.2.2.1 e0.2.2.2.1 e0.2.2.2.2.1 e0.1 0 0 0 (tmm false (tmm true e0.2.2.2.2.1 0) 400) x4 1 1 x2 x3 x4 1 0 0 0 else Yl n x0 x1 (ofNat (toNat (wrap .i64 (ofNat x1.length - e1.1)))) e0.1 e0.2.1 e0.2.2.1 e0.2.2.2.1 e0.2.2.2.2.1 e0.1 0 0 0 (tmm false (tmm true e0.2.2.2.2.1 0) 400) x4 1 1 x2 x3 x4 (ofNat (toNat (wrap .i64 (ofNat x1.length - e1.1)))) (ofNat (x1.length - toNat (wrap .i64 (ofNat x1.length - e1.1)))) (ofNat (x1.length - toNat (wrap .i64 (ofNat x1.length - e1.1)))) 0 else none else none else none else none else none else some (x0,ofNat x1.length==1,()):=mkI
theorem Ztx n x0 x1 x2 x3 x4 x5 x6 x7 x8 x9 x10 x11 x12 x13 x14 x15 x16 x17 x18:Eq (Zav (n+1) x0 x1 x2 x3 x4 x5 x6 x7 x8 x9 x10 x11 x12 x13 x14 x15 x16 x17 x18) <| bif x3==1 then Zco n x0 x1 (ofNat x2.toNat) x3 x4 x5 x6 x7 x8 (tmm true x4 0) x10 x11 x12 x13 x14 x15 x16 x17 x18 else Zco n x0 x1 (ofNat x2.toNat) x3 x4 x5 x6 x7 x8 x9 x10 x11 x12 x13 x14 x15 x16 x17 x18:=mkI
theorem Zkj n x0 x1 x2 x3 x4 x5 x6 x7 x8 x9 x10 x11 x12 x13 x14 x15 x16 x17 x18 x19 x20 x21 x22:Eq (Yl (n+1) x0 x1 x2 x3 x4 x5 x6 x7 x8 x9 x10 x11 x12 x13 x14 x15 x16 x17 x18 x19 x20 x21 x22) <| bif x22<x21 then bif 0≤x22 then bif x22.toNat<x20.toNat then match x1[x19.toNat+x22.toNat]? with | none=>none | some e0=>bif x22==0 then Zfe n x0 x1 (ofNat x2.toNat) x3 x4 x5 x6 x7 x8 x9 e0.1 x11 x12 x13 x14 x15 e0.2.1 e0.2.2.1 x16 x17 x18 (ofNat x19.toNat) (ofNat x20.toNat) x21 x22 else Zfe n x0 x1 (ofNat x2.toNat) x3 x4 x5 x6 x7 x8 x9 x10 e0.1 x12 x13 x14 x15 e0.2.1 e0.2.2.1 x16 x17 x18 (ofNat x19.toNat) (ofNat x20.toNat) x21 x22 else none else none else Zav n x0 x1 (ofNat x2.toNat) x3 x4 x5 x6 x7 x8 x9 x10 x11 x12 x13 x14 x15 x16 x17 x18:=mkI
theorem Zkk n x0 x1 x2 x3 x4 x5 x6 x7 x8 x9 x10 x11 x12 x13 x14 x15 x16 x17 x18 x19 x20 x21 x22 x23 x24:Eq (Zfe (n+1) x0 x1 x2 x3 x4 x5 x6 x7 x8 x9 x10 x11 x12 x13 x14 x15 x16 x17 x18 x19 x20 x21 x22 x23 x24) <| Yl n x0 x1 (ofNat x2.toNat) x3 x4 x5 x6 x7 x8 x9 x10 x11 x12 x13 (wrap .i64 (x14+x16)) (tmm true x15 (wrap .i64 (x17+1))) x18 x19 x20 (ofNat x21.toNat) (ofNat x22.toNat) x23 (wrap .i64 (x24+1)):=mkI
theorem Zty n x0 x1 x2 x3 x4 x5 x6 x7 x8 x9 x10 x11 x12 x13 x14 x15 x16 x17 x18:Eq (Zco (n+1) x0 x1 x2 x3 x4 x5 x6 x7 x8 x9 x10 x11 x12 x13 x14 x15 x16 x17 x18) <| bif !(x8==x3&&(x9==x4&&(x10==x5&&(x11==x6&&(x12==x7&&true))))) then some (x0,false,()) else bif decide (x2.toNat≤x1.length)&&Zl (x2.toNat+List.length [(x13,x14,x15,())]) 24 then bif Zl (x0.length+List.length [(x13,x14,x15,())]) 24 then Zt n (x0++[(x13,x14,x15,())]) (List.take x2.toNat x1++[(x13,x14,x15,())]) x16 x17 (wrap .i64 (x18+1)) else none else none:=mkI
def Ykv:Tb:=[(216,Z8m)]
def F178:TFun:=⟨[],[],[.c (.sl Xq1)],[.c (.p (.sl Xq2)),.c (.p di)],qc [qn 2,[.c (.p (.sl Xq2))],qi,qn 21],[],[],0⟩
def Z59:=mkC Ykv prog 178 F178
theorem Ync:Z59.ok prog 178:=mkO ⟨Yku,trivial⟩
def Zp8 (a0:Xy1):Option (List Xy3×Int×Unit):=Z59.fn (a0,())
theorem Zv4 a0:Eq (Zp8 a0) <| bif ofNat a0.length>60 then some ([],4,()) else match Zhi a0 with | none=>none | some e0=>bif !e0.2.1 then some ([],8,()) else bif 0≤wrap .i64 (ofNat e0.1.length - 1) then match e0.1[toNat (wrap .i64 (ofNat e0.1.length - 1))]? with | none=>none | some e1=>bif e1.2.2.1>20 then some ([],34,()) else some (e0.1,0,()) else none:=mkE
def Ykw:Tb:=[(178,Z59)]
def F121:TFun:=⟨[],[],[.c (.sl Xq1)],[.c (.p di)],qc [qn 2,qi,qn 8],[],[],0⟩
def Zz6:=mkC Ykw prog 121 F121
theorem Yim:Zz6.ok prog 121:=mkO ⟨Ync,trivial⟩
def Zdw (a0:Xy1):Option (Int×Unit):=Zz6.fn (a0,())
theorem Zv5 a0:Eq (Zdw a0) <| match Zp8 a0 with | none=>none | some e0=>some (e0.2.1,()):=mkE
def Ykx:Tb:=[]
def F123:TFun:=⟨[],[],[.a [.int .u8,.int .i64,.int .i64]],[.c (.p di)],qc [qn 2,qi,qn 37],[],[],0⟩
def Z6a:=mkC Ykx prog 123 F123
theorem Ynd:Z6a.ok prog 123:=mkO trivial
def Zff (a0:Xy3):Option (Int×Unit):=Z6a.fn (a0,())
theorem Zo7 a0:Eq (Zff a0) <| let k1:Option (Int×Unit):=some (8,());bif a0.2.1<1 then k1 else bif a0.2.1>1073741824 then k1 else bif a0.1==2 then bif a0.2.2.1≥1 then bif a0.2.2.1≤a0.2.1 then bif a0.2.1≤wrap .i64 (16*a0.2.2.1) then some (0,()) else k1 else k1 else k1 else let k2:Option (Int×Unit):=bif a0.2.2.1==0 then some (0,()) else k1;bif a0.1==1 then k2 else bif a0.1==3 then k2 else k1:=mkE
def Yd0:Tb:=[(181,Yck)]
def F122:TFun:=⟨[],[(14,qc [[.c (.p (.sl [.int .i64]))],[.c (.fn 179 [])],qn 5,qi,qi,qn 19,[.c (.p (.sl [.int .i64]))],qn 19,qb,qn 9])],[.c (.sl [.int .i64]),.c db],[.c (.p di)],qc [qn 4,qi,qn 25],[(20,[179]),(10,[217]),(7,[180])],[(14,[9,30])],8⟩
def Z6b:=mkC Yd0 prog 122 F122
theorem Yne:Z6b.ok prog 122:=mkO ⟨Yly,trivial⟩
def Zd3 (a0:(List (Int×Unit)))(a1:Bool):Option (Int×Unit):=Z6b.fn (a0,a1,())
def Qn (n:Nat)(x0:(List (Int×Unit)))(x1 x2:Int)(x3:(List (Int×Unit)))(x4:Bool):Option (Int×Unit):=itr Yd0 prog 122 F122 n 14 (x0,x1,x2,x3,x4,())
theorem Znu a0 a1:Eq (Zd3 a0 a1) <| bif ofNat a0.length>4 then some (4,()) else bif ofNat a0.length==0 then some (8,()) else let k1:=Qn fuel a0 (ofNat a0.length) 0 a0 false;bif a1 then bif ofNat a0.length !=2 then some (8,()) else k1 else k1:=mkE
theorem Zd7 n x0 x1 x2 x3 x4:Eq (Qn (n+1) x0 x1 x2 x3 x4) <| bif x2<x1 then bif 0≤x2 then match x0[x2.toNat]? with | none=>none | some e0=>let k1:Option (Int×Unit):=bif x4 then some (8,()) else bif x2≥0 then some (8,()) else match Z6 x3 with | none=>none | some e1=>bif e1.1<ofNat x3.length then some (43,()) else some (0,());bif e0.1<0 then k1 else bif e0.1≥4 then k1 else Qn n x0 x1 (wrap .i64 (x2+1)) x3 x4 else none else bif x4 then some (8,()) else match Z6 x3 with | none=>none | some e0=>bif e0.1<ofNat x3.length then some (43,()) else some (0,()):=mkI
def Yd1:Tb:=[(121,Zz6),(122,Z6b),(123,Z6a)]
def F57:TFun:=⟨[4,12],[(4,qc [qn 1,[.boxN 27 10 [.any,.any,.p (.sl [.int .i64]),.p db,.p (.sl Xq1),.p (.int .u8),.p di,.p di,.any,.any]],qn 64]),(12,qc [qn 1,[.boxN 27 10 [.any,.any,.p (.sl [.int .i64]),.p db,.any,.p (.int .u8),.p di,.p di,.any,.any]],qn 64])],[.a [.int .u8,.sl Xq1,.sl [.int .i64],.bool,.sl Xq1,.int .u8,.int .i64,.int .i64,.bool,.int .u8]],[.c (.p di)],qc [qn 2,qi,qn 63],[],[],0⟩
def Yd2:=mkC Yd1 prog 57 F57
theorem ok57:Yd2.ok prog 57:=mkO ⟨Yim,Yne,Ynd,trivial⟩
def Zgf (a0:Xy2):Option (Int×Unit):=Yd2.fn (a0,())
def Za4 (n:Nat)(x0:(List (Int×Unit)))(x1:Bool)(x2:Xy1)(x3 x4 x5:Int):Option (Int×Unit):=itr Yd1 prog 57 F57 n 4 (x0,x1,x2,x3,x4,x5,())
def Zcp (n:Nat)(x0:(List (Int×Unit)))(x1:Bool)(x2 x3 x4:Int):Option (Int×Unit):=itr Yd1 prog 57 F57 n 12 (x0,x1,x2,x3,x4,())
theorem Zqp a0:Eq (Zgf a0) <| bif a0.1<1 then some (8,()) else bif a0.1>4 then some (8,()) else let k1:Option (Int×Unit):=let k3:=Za4 fuel a0.2.2.1 a0.2.2.2.1 a0.2.2.2.2.1 a0.2.2.2.2.2.1 a0.2.2.2.2.2.2.1 a0.2.2.2.2.2.2.2.1;bif a0.1 !=1 then match Zdw a0.2.1 with | none=>none | some e0=>bif e0.1 !=0 then some (e0.1,()) else k3 else bif ofNat a0.2.1.length>0 then some (8,()) else k3;bif a0.2.2.2.2.2.2.2.2.2.1 !=1 then bif a0.2.2.2.2.2.2.2.2.2.1 !=2 then some (8,()) else k1 else k1:=mkE
theorem Zo8 n x0 x1 x2 x3 x4 x5:Eq (Za4 (n+1) x0 x1 x2 x3 x4 x5) <| let k1:=Zcp n x0 x1 x3 x4 x5;bif ofNat x2.length>0 then match Zdw x2 with | none=>none | some e0=>bif e0.1 !=0 then some (e0.1,()) else k1 else k1:=mkI
theorem Znv n x0 x1 x2 x3 x4:Eq (Zcp (n+1) x0 x1 x2 x3 x4) <| match Zd3 x0 x1 with | none=>none | some e0=>bif e0.1 !=0 then some (e0.1,()) else let k1:=match Zff (x2,x3,x4,()) with | none=>none | some e1=>some (e1.1,());bif x1 then bif x2 !=1 then some (8,()) else k1 else k1:=mkI
def Ztz:Tb:=[]
def F218:TFun:=⟨[14],[(6,qc [[.c (.p (.sl Xq1))],qn 3,[.boxN 186 1 [.rowN 4 1 [.bool]]],[.fnS 251 [.ptr 0 0]],qn 6,[.c (.p (.sl Xq1))],qi,qi,qn 73]),(14,qc [[.c (.p (.sl Xq1))],qn 3,[.boxN 186 1 [.rowN 4 1 [.bool]]],[.fnS 251 [.ptr 0 0]],qi,qn 1,[.boxN 357 2 [.p db,.p db]],qb,[.c (.slN 3 1 [.int .i64])],qn 1,[.c (.p (.sl Xq1))],qi,qi,qn 73]),(28,qc [qb,qn 1,[.boxN 186 1 [.rowN 4 1 [.bool]]],qn 5,[.c (.slN 3 1 [.int .i64])],qi,qi,qn 10,[.c (.p (.sl Xq1))],qn 3,[.c (.ptr 0 0)],[.fnS 251 [.ptr 0 0]],qi,qn 1,[.boxN 357 2 [.any,.p db]],qb,[.c (.slR 2)],qn 1,[.c (.p (.sl Xq1))],qi,qi,qn 48,qb,qn 24]),(40,qc [qb,qn 1,[.boxN 186 1 [.rowN 4 1 [.bool]]],qn 5,[.c (.p (.sl [.int .i64]))],qi,qi,qn 10,[.c (.p (.sl Xq1))],qn 3,[.c (.ptr 0 0)],[.fnS 251 [.ptr 0 0]],qi,qn 2,qb,qn 2,[.c (.p (.sl Xq1))],qi,qi,qn 54,qb,qn 2,qb,qn 15])],[.c (.sl Xq1)],[.c (.s 4 1 [.bool]),.c (.p di)],qc [qn 2,[.c (.rowN 4 1 [.bool])],qi,qn 84],[(36,[251]),(24,[251])],[(28,[88]),(40,[88])],8⟩
def Zt0:=mkC Ztz prog 218 F218
theorem Ynf:Zt0.ok prog 218:=mkO trivial
def Z8n:TCon:=⟨Zt0.args,[.c (.p (.sl [.bool])),.c (.p di)],Zt0.fn⟩
theorem Yky:Z8n.ok prog 218:=TCon.frz (c:=Zt0) Ynf rfl
def Zmu (a0:Xy1):Option (List (Bool×Unit)×Int×Unit):=Zt0.fn (a0,())
def Z7 (n:Nat)(x0:Xy1)(x1:(List (Bool×Unit)))(x2:Xy1)(x3 x4:Int):Option (List (Bool×Unit)×Int×Unit):=itr Ztz prog 218 F218 n 6 (x0,x1,x2,x3,x4,())
def Yc (n:Nat)(x0:Xy1)(x1:(List (Bool×Unit)))(x2:Int)(x3 x4 x5:Bool)(x6:(List (Int×Unit)))(x7:Int)(x8:Xy1)(x9 x10:Int):Option (List (Bool×Unit)×Int×Unit):=itr Ztz prog 218 F218 n 14 (x0,x1,x2,x3,x4,x5,x6,x7,x8,x9,x10,())
def Ym (n:Nat)(x0:Bool)(x1:(List (Bool×Unit)))(x2:(List (Int×Unit)))(x3 x4 x5:Int)(x6:Xy1)(x7:Int)(x8 x9:Bool)(x10 x11:Int)(x12:Xy1)(x13 x14:Int)(x15:Bool):Option (List (Bool×Unit)×Int×Unit):=itr Ztz prog 218 F218 n 28 (x0,x1,x2,x3,x4,x5,x6,x7,x8,x9,x10,x11,x12,x13,x14,x15,())
def Yd (n:Nat)(x0:Bool)(x1:(List (Bool×Unit)))(x2:(List (Int×Unit)))(x3 x4:Int)(x5:Xy1)(x6:Int)(x7:Bool)(x8:Xy1)(x9 x10:Int)(x11 x12:Bool):Option (List (Bool×Unit)×Int×Unit):=itr Ztz prog 218 F218 n 40 (x0,x1,x2,x3,x4,x5,x6,x7,x8,x9,x10,x11,x12,())
theorem Zz7 a0:Eq (Zmu a0) <| Z7 fuel a0 ([]) a0 (ofNat a0.length) 0:=mkE
theorem Zl5 n x0 x1 x2 x3 x4:Eq (Z7 (n+1) x0 x1 x2 x3 x4) <| bif x4<x3 then bif 0≤x4 then match x2[x4.toNat]? with | none=>none | some e0=>bif e0.1≤4 then bif Zl (x1.length+1) 1 then Z7 n x0 (x1++[(false,())]) x2 x3 (wrap .i64 (x4+1)) else none else bif e0.1==5 then Yc n x0 x1 x4 true false false ([(e0.2.2.1,()),(e0.2.2.2.1,())]) 1 x2 x3 x4 else bif e0.1==6 then Yc n x0 x1 x4 false true true ([(e0.2.2.1,()),(e0.2.2.2.1,())]) 1 x2 x3 x4 else bif e0.1≤11 then Yc n x0 x1 x4 true false false ([(e0.2.2.1,()),(e0.2.2.2.1,())]) (ofNat (List.length [(e0.2.2.1,()),(e0.2.2.2.1,())])) x2 x3 x4 else bif e0.1≤15 then Yc n x0 x1 x4 true false true ([(e0.2.2.1,()),(e0.2.2.2.1,())]) (ofNat (List.length [(e0.2.2.1,()),(e0.2.2.2.1,())])) x2 x3 x4 else bif e0.1≤17 then Yc n x0 x1 x4 true true true ([(e0.2.2.1,()),(e0.2.2.2.1,())]) (ofNat (List.length [(e0.2.2.1,()),(e0.2.2.2.1,())])) x2 x3 x4 else Yc n x0 x1 x4 false true true ([(e0.2.2.1,()),(e0.2.2.2.1,())]) (ofNat (List.length [(e0.2.2.1,()),(e0.2.2.2.1,())])) x2 x3 x4 else none else some (x1,ofNat x0.length,()):=mkI
theorem Zt1 n x0 x1 x2 x3 x4 x5 x6 x7 x8 x9 x10:Eq (Yc (n+1) x0 x1 x2 x3 x4 x5 x6 x7 x8 x9 x10) <| bif x3 then Ym n false x1 x6 (ofNat x7.toNat) (ofNat x7.toNat) 0 x0 x2 x4 x5 0 (ofNat x7.toNat) x8 x9 x10 true else bif x4 then Yd n true x1 (List.take x7.toNat (List.drop 0 x6)) (ofNat x7.toNat) 0 x0 x2 x5 x8 x9 x10 true true else some ([],x2,()):=mkI
theorem Zkl n x0 x1 x2 x3 x4 x5 x6 x7 x8 x9 x10 x11 x12 x13 x14 x15:Eq (Ym (n+1) x0 x1 x2 x3 x4 x5 x6 x7 x8 x9 x10 x11 x12 x13 x14 x15) <| let k1:=bif x8 then Yd n true x1 (List.take x11.toNat (List.drop x10.toNat x2)) (ofNat x11.toNat) 0 x6 x7 x9 x12 x13 x14 true true else some ([],x7,());bif x5<x4 then bif 0≤x5 then bif x5.toNat<x3.toNat then match x2[0+x5.toNat]? with | none=>none | some e0=>bif 0≤e0.1 then bif e0.1.toNat<x1.length then match x1[e0.1.toNat]? with | none=>none | some e1=>bif !e1.1==x0 then bif x15 then k1 else k1 else Ym n x0 x1 x2 (ofNat x3.toNat) x4 (wrap .i64 (x5+1)) x6 x7 x8 x9 (ofNat x10.toNat) (ofNat x11.toNat) x12 x13 x14 x15 else none else none else none else none else bif x15 then bif Zl (x1.length+List.length [(x9,())]) 1 then Z7 n x6 (x1++[(x9,())]) x12 x13 (wrap .i64 (x14+1)) else none else k1:=mkI
theorem Zkm n x0 x1 x2 x3 x4 x5 x6 x7 x8 x9 x10 x11 x12:Eq (Yd (n+1) x0 x1 x2 x3 x4 x5 x6 x7 x8 x9 x10 x11 x12) <| let k1:=bif Zl (x1.length+List.length [(x7,())]) 1 then Z7 n x5 (x1++[(x7,())]) x8 x9 (wrap .i64 (x10+1)) else none;bif x4<x3 then bif 0≤x4 then match x2[x4.toNat]? with | none=>none | some e0=>bif 0≤e0.1 then bif e0.1.toNat<x1.length then match x1[e0.1.toNat]? with | none=>none | some e1=>bif !e1.1==x0 then bif x11 then bif x12 then some ([],x6,()) else some ([],x6,()) else k1 else Yd n x0 x1 x2 x3 (wrap .i64 (x4+1)) x5 x6 x7 x8 x9 x10 x11 x12 else none else none else none else bif x11 then bif x12 then k1 else some ([],x6,()) else k1:=mkI
def Ykz:Tb:=[(121,Zz6),(218,Z8n)]
def F182:TFun:=⟨[],[],[.c (.sl Xq1)],[.c (.p db),.c (.p di),.c (.p di)],qc [qn 2,qb,qi,qi,qn 25],[],[],0⟩
def Z6c:=mkC Ykz prog 182 F182
theorem Yng:Z6c.ok prog 182:=mkO ⟨Yim,Yky,trivial⟩
def Zt2 (a0:Xy1):Option (Bool×Int×Int×Unit):=Z6c.fn (a0,())
theorem Z6d a0:Eq (Zt2 a0) <| match Zdw a0 with | none=>none | some e0=>bif e0.1 !=0 then some (false,0,e0.1,()) else match Zmu a0 with | none=>none | some e1=>bif e1.2.1<ofNat a0.length then some (false,e1.2.1,42,()) else bif 0≤wrap .i64 (e1.2.1 - 1) then match e1.1[toNat (wrap .i64 (e1.2.1 - 1))]? with | none=>none | some e2=>some (e2.1,wrap .i64 (e1.2.1 - 1),0,()) else none:=mkE
def Yk0:Tb:=[(182,Z6c)]
def F124:TFun:=⟨[],[],[.c (.sl Xq1),.c db],[.c (.p di),.c (.p di)],qc [qn 4,qi,qi,qn 18],[],[],0⟩
def Zz8:=mkC Yk0 prog 124 F124
theorem Yin:Zz8.ok prog 124:=mkO ⟨Yng,trivial⟩
def Zhj (a0:Xy1)(a1:Bool):Option (Int×Int×Unit):=Zz8.fn (a0,a1,())
theorem Zz9 a0 a1:Eq (Zhj a0 a1) <| match Zt2 a0 with | none=>none | some e0=>bif e0.2.2.1==0 then bif !e0.1==a1 then some (e0.2.1,42,()) else some e0.2 else some e0.2:=mkE
def Ynh:Tb:=[(124,Zz8)]
def F59:TFun:=⟨[],[],[.c (.sl Xq1)],[.c (.p di),.c (.p di)],qc [qn 2,qi,qi,qn 4],[],[],0⟩
def Yd3:=mkC Ynh prog 59 F59
theorem ok59:Yd3.ok prog 59:=mkO ⟨Yin,trivial⟩
def Zhk (a0:Xy1):Option (Int×Int×Unit):=Yd3.fn (a0,())
theorem Zt3 a0:Eq (Zhk a0) <| match Zhj a0 false with | none=>none | some e0=>some e0:=mkE
def Yni:Tb:=[(124,Zz8)]
def F60:TFun:=⟨[],[],[.c (.sl Xq1)],[.c (.p di),.c (.p di)],qc [qn 2,qi,qi,qn 4],[],[],0⟩
def Yd4:=mkC Yni prog 60 F60
theorem ok60:Yd4.ok prog 60:=mkO ⟨Yin,trivial⟩
def Zf0 (a0:Xy1):Option (Int×Int×Unit):=Yd4.fn (a0,())
theorem Zv6 a0:Eq (Zf0 a0) <| match Zhj a0 true with | none=>none | some e0=>some e0:=mkE
def Ynj:Tb:=[(57,Yd2),(59,Yd3),(60,Yd4)]
def F32:TFun:=⟨[],[],[.a [.int .u8,.sl Xq1,.sl [.int .i64],.bool,.sl Xq1,.int .u8,.int .i64,.int .i64,.bool,.int .u8]],[.c (.p di),.c (.p di)],qc [qn 2,qi,qi,qn 16],[(11,[4]),(7,[58])],[],8⟩
def Yd5:=mkC Ynj prog 32 F32
theorem ok32:Yd5.ok prog 32:=mkO ⟨ok57,ok59,ok60,trivial⟩
def Zcq (a0:Xy2):Option (Int×Int×Unit):=Yd5.fn (a0,())
theorem Zt4 a0:Eq (Zcq a0) <| match Zgf a0 with | none=>none | some e0=>bif e0.1 !=0 then some (0,e0.1,()) else let k1:Option (Int×Int×Unit):=some (0,0,());bif ofNat a0.2.1.length==0 then bif ofNat a0.2.2.2.2.1.length==0 then k1 else match Zf0 a0.2.2.2.2.1 with | none=>none | some e1=>bif e1.2.1 !=0 then bif 0≤e1.1 then match a0.2.2.2.2.1[e1.1.toNat]? with | none=>none | some e2=>some (e2.2.2.2.2.1,e1.2.1,()) else none else k1 else match Zhk a0.2.1 with | none=>none | some e1=>bif e1.2.1 !=0 then bif 0≤e1.1 then match a0.2.1[e1.1.toNat]? with | none=>none | some e2=>some (e2.2.2.2.2.1,e1.2.1,()) else none else bif ofNat a0.2.2.2.2.1.length==0 then k1 else match Zf0 a0.2.2.2.2.1 with | none=>none | some e2=>bif e2.2.1 !=0 then bif 0≤e2.1 then match a0.2.2.2.2.1[e2.1.toNat]? with | none=>none | some e3=>some (e3.2.2.2.2.1,e2.2.1,()) else none else k1:=mkE
end
end Tg
