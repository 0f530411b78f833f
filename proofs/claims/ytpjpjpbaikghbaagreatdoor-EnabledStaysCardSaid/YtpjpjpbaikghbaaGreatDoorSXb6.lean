import Derived.Test.YtpjpjpbaikghbaaGreatDoorSVT
set_option linter.all false
/- Functions of the code, told plainly and checked by the kernel. -/
set_option maxRecDepth 100000
namespace Tg
noncomputable section
open Go.Abs hiding fuel
open Go.Proofs.Tryz (prog)
open Int (ofNat toNat)
open Go.IntKind (wrap)
abbrev Zl9:List Go.Abs.SC:=[.p (.int .u8),.p di,.p di,.p di,.p di]
def Yvz:Tb:=[]
def F259:TFun:=⟨[],[],[.c (.int .u8)],[.c (.p di),.c (.p di)],qc [qn 2,qi,qi,qn 21],[],[],0⟩
def Yc2:=mkC Yvz prog 259 F259
theorem Yza:Yc2.ok prog 259:=mkO trivial
def Zma(a0:Int):Option (Int×Int×Unit):=Yc2.fn (a0,())
theorem Z0q a0:Eq (Zma a0)<|let k1:Option (Int×Int×Unit):=bif a0==5 then some (1,0,())else bif a0==6 then some (1,0,())else bif a0>=7 then bif a0<=19 then some (2,0,())else some (0,2,())else some (0,2,());bif a0>=1 then bif a0<=4 then some (0,0,())else k1 else k1:=mkE
def Zr4:Tb:=[(259,Yc2)]
def F230:TFun:=⟨[28,21,31],[(4,qc [qn 4,[.c (.rowN 332 3 Xq2)],[.c (.rowN 332 3 Xq2)],qn 9,[.c (.p (.sl Xq1))],qi,qi,qn 87]),(21,qc [qn 4,[.c (.rowN 332 3 Xq2)],[.c (.slN 332 3 Xq2)],qn 1,[.boxN 174 5 Zl9],qn 3,[.boxN 174 5 Zl9],[.boxN 332 3 [.p di,.p di,.p di]],qn 2,[.c (.p (.sl Xq1))],qi,qi,qn 87]),(23,qc [qn 4,[.c (.rowN 332 3 Xq2)],[.c (.slN 332 3 Xq2)],qn 1,[.boxN 174 5 Zl9],qn 3,[.boxN 174 5 Zl9],[.boxN 332 3 [.p di,.p di,.p di]],qn 2,[.c (.p (.sl Xq1))],qi,qi,qn 34,[.c (.slR 1)],qi,qi,qn 50]),(28,qc [qn 4,[.c (.rowN 332 3 Xq2)],[.c (.slN 332 3 Xq2)],qn 1,[.boxN 174 5 Zl9],qn 3,[.boxN 174 5 Zl9],[.boxN 332 3 [.p di,.p di,.p di]],qn 1,[.boxN 332 3 [.any,.p di,.p di]],[.c (.p (.sl Xq1))],qi,qi,qn 34,[.c (.slR 1)],qi,qi,qn 50]),(31,qc [qn 4,[.c (.rowN 332 3 Xq2)],[.c (.slN 332 3 Xq2)],qn 1,[.boxN 174 5 Zl9],qn 3,[.boxN 174 5 Zl9],[.boxN 332 3 [.p di,.p di,.p di]],qn 2,[.c (.p (.sl Xq1))],qi,qi,qn 87])],[.c (.sl Xq1)],[.c (.s 332 3 Xq2),.c (.p db)],qc [qn 2,[.c (.rowN 332 3 Xq2)],qb,qn 101],[(16,[260])],[],8⟩
def Zxn:=mkC Zr4 prog 230 F230
theorem Yzb:Zxn.ok prog 230:=mkO ⟨Yza,trivial⟩
def Ygl:TCon:=⟨Zxn.args,[.c (.p (.sl Xq2)),.c (.p db)],Zxn.fn⟩
theorem Yv0:Ygl.ok prog 230:=TCon.frz (c:=Zxn) Yzb rfl
def Zi4(a0:Xy1):Option (List Xy3×Bool×Unit):=Zxn.fn (a0,())
def Zt(n:Nat)(x0 x1:(List Xy3))(x2:Xy1)(x3 x4:Int):Option (List Xy3×Bool×Unit):=itr Zr4 prog 230 F230 n 4 (x0,x1,x2,x3,x4,())
def Za8(n:Nat)(x0 x1:(List Xy3))(x2 x3 x4 x5 x6 x7 x8 x9 x10 x11 x12 x13 x14 x15:Int)(x16:Xy1)(x17 x18:Int):Option (List Xy3×Bool×Unit):=itr Zr4 prog 230 F230 n 21 (x0,x1,x2,x3,x4,x5,x6,x7,x8,x9,x10,x11,x12,x13,x14,x15,x16,x17,x18,())
def Yu(n:Nat)(x0 x1:(List Xy3))(x2 x3 x4 x5 x6 x7 x8 x9 x10 x11 x12 x13 x14 x15:Int)(x16:Xy1)(x17 x18 x19 x20 x21 x22:Int):Option (List Xy3×Bool×Unit):=itr Zr4 prog 230 F230 n 23 (x0,x1,x2,x3,x4,x5,x6,x7,x8,x9,x10,x11,x12,x13,x14,x15,x16,x17,x18,x19,x20,x21,x22,())
def Zgg(n:Nat)(x0 x1:(List Xy3))(x2 x3 x4 x5 x6 x7 x8 x9 x10 x11 x12 x13 x14 x15 x16 x17:Int)(x18:Xy1)(x19 x20 x21 x22 x23 x24:Int):Option (List Xy3×Bool×Unit):=itr Zr4 prog 230 F230 n 28 (x0,x1,x2,x3,x4,x5,x6,x7,x8,x9,x10,x11,x12,x13,x14,x15,x16,x17,x18,x19,x20,x21,x22,x23,x24,())
def Zc8(n:Nat)(x0 x1:(List Xy3))(x2 x3 x4 x5 x6 x7 x8 x9 x10 x11 x12 x13 x14 x15:Int)(x16:Xy1)(x17 x18:Int):Option (List Xy3×Bool×Unit):=itr Zr4 prog 230 F230 n 31 (x0,x1,x2,x3,x4,x5,x6,x7,x8,x9,x10,x11,x12,x13,x14,x15,x16,x17,x18,())
theorem Zqm a0:Eq (Zi4 a0)<|Zt fuel ([]) ([]) a0 (ofNat a0.length) 0:=mkE
theorem Zef n x0 x1 x2 x3 x4:Eq (Zt (n+1) x0 x1 x2 x3 x4)<|bif x4<x3 then bif 0<=x4 then match x2[x4.toNat]? with|none=>none|some e0=>match Zma e0.1 with|none=>none|some e1=>bif e1.2.1 !=0 then some (x0,false,())else bif e1.1>ofNat x1.length then some (x0,false,())else bif 0<=wrap .i64 (ofNat x1.length-e1.1)then bif decide (0<=toNat (wrap .i64 (ofNat x1.length-e1.1)))&&decide (toNat (wrap .i64 (ofNat x1.length-e1.1))<=x1.length)then bif 0<=wrap .i64 (ofNat x1.length-e1.1)then bif toNat (wrap .i64 (ofNat x1.length-e1.1))<=x1.length then bif toNat (wrap .i64 (ofNat x1.length-e1.1))=x1.length then Yu n x0 x1 (ofNat (toNat (wrap .i64 (ofNat x1.length-e1.1)))) e0.1 e0.2.1 e0.2.2.1 e0.2.2.2.1 e0.2.2.2.2.1 e0.1 0 0 0 (tmm false (tmm true e0.2.2.2.2.1 0) 400) x4 1 1 x2 x3 x4 1 0 0 0 else Yu n x0 x1 (ofNat (toNat (wrap .i64 (ofNat x1.length-e1.1)))) e0.1 e0.2.1 e0.2.2.1 e0.2.2.2.1 e0.2.2.2.2.1 e0.1 0 0 0 (tmm false (tmm true e0.2.2.2.2.1 0) 400) x4 1 1 x2 x3 x4 (ofNat (toNat (wrap .i64 (ofNat x1.length-e1.1)))) (ofNat (x1.length-toNat (wrap .i64 (ofNat x1.length-e1.1)))) (ofNat (x1.length-toNat (wrap .i64 (ofNat x1.length-e1.1)))) 0 else none else none else none else none else none else some (x0,ofNat x1.length==1,()):=mkI
theorem Zxo n x0 x1 x2 x3 x4 x5 x6 x7 x8 x9 x10 x11 x12 x13 x14 x15 x16 x17 x18:Eq (Za8 (n+1) x0 x1 x2 x3 x4 x5 x6 x7 x8 x9 x10 x11 x12 x13 x14 x15 x16 x17 x18)<|bif x3==1 then Zc8 n x0 x1 (ofNat x2.toNat) x3 x4 x5 x6 x7 x8 (tmm true x4 0) x10 x11 x12 x13 x14 x15 x16 x17 x18 else Zc8 n x0 x1 (ofNat x2.toNat) x3 x4 x5 x6 x7 x8 x9 x10 x11 x12 x13 x14 x15 x16 x17 x18:=mkI
theorem Zmb n x0 x1 x2 x3 x4 x5 x6 x7 x8 x9 x10 x11 x12 x13 x14 x15 x16 x17 x18 x19 x20 x21 x22:Eq (Yu (n+1) x0 x1 x2 x3 x4 x5 x6 x7 x8 x9 x10 x11 x12 x13 x14 x15 x16 x17 x18 x19 x20 x21 x22)<|bif x22<x21 then bif 0<=x22 then bif x22.toNat<x20.toNat then match x1[x19.toNat+x22.toNat]? with|none=>none|some e0=>bif x22==0 then Zgg n x0 x1 (ofNat x2.toNat) x3 x4 x5 x6 x7 x8 x9 e0.1 x11 x12 x13 x14 x15 e0.2.1 e0.2.2.1 x16 x17 x18 (ofNat x19.toNat) (ofNat x20.toNat) x21 x22 else Zgg n x0 x1 (ofNat x2.toNat) x3 x4 x5 x6 x7 x8 x9 x10 e0.1 x12 x13 x14 x15 e0.2.1 e0.2.2.1 x16 x17 x18 (ofNat x19.toNat) (ofNat x20.toNat) x21 x22 else none else none else Za8 n x0 x1 (ofNat x2.toNat) x3 x4 x5 x6 x7 x8 x9 x10 x11 x12 x13 x14 x15 x16 x17 x18:=mkI
theorem Zxp n x0 x1 x2 x3 x4 x5 x6 x7 x8 x9 x10 x11 x12 x13 x14 x15 x16 x17 x18 x19 x20 x21 x22 x23 x24:Eq (Zgg (n+1) x0 x1 x2 x3 x4 x5 x6 x7 x8 x9 x10 x11 x12 x13 x14 x15 x16 x17 x18 x19 x20 x21 x22 x23 x24)<|Yu n x0 x1 (ofNat x2.toNat) x3 x4 x5 x6 x7 x8 x9 x10 x11 x12 x13 (wrap .i64 (x14+x16)) (tmm true x15 (wrap .i64 (x17+1))) x18 x19 x20 (ofNat x21.toNat) (ofNat x22.toNat) x23 (wrap .i64 (x24+1)):=mkI
theorem Zxq n x0 x1 x2 x3 x4 x5 x6 x7 x8 x9 x10 x11 x12 x13 x14 x15 x16 x17 x18:Eq (Zc8 (n+1) x0 x1 x2 x3 x4 x5 x6 x7 x8 x9 x10 x11 x12 x13 x14 x15 x16 x17 x18)<|bif !(x8==x3&&(x9==x4&&(x10==x5&&(x11==x6&&(x12==x7&&true)))))then some (x0,false,())else bif decide (x2.toNat<=x1.length)&&Ze (x2.toNat+List.length [(x13,x14,x15,())]) 24 then bif Ze (x0.length+List.length [(x13,x14,x15,())]) 24 then Zt n (x0++[(x13,x14,x15,())]) (List.take x2.toNat x1++[(x13,x14,x15,())]) x16 x17 (wrap .i64 (x18+1))else none else none:=mkI
def Yv1:Tb:=[(230,Ygl)]
def F195:TFun:=⟨[],[],[.c (.sl Xq1)],[.c (.p (.sl Xq2)),.c (.p di)],qc [qn 2,[.c (.p (.sl Xq2))],qi,qn 21],[],[],0⟩
def Yc3:=mkC Yv1 prog 195 F195
theorem Yzc:Yc3.ok prog 195:=mkO ⟨Yv0,trivial⟩
def Ztk(a0:Xy1):Option (List Xy3×Int×Unit):=Yc3.fn (a0,())
theorem Z0r a0:Eq (Ztk a0)<|bif ofNat a0.length>60 then some ([],4,())else match Zi4 a0 with|none=>none|some e0=>bif !e0.2.1 then some ([],8,())else bif 0<=wrap .i64 (ofNat e0.1.length-1)then match e0.1[toNat (wrap .i64 (ofNat e0.1.length-1))]? with|none=>none|some e1=>bif e1.2.2.1>20 then some ([],34,())else some (e0.1,0,())else none:=mkE
def Yv2:Tb:=[(195,Yc3)]
def F152:TFun:=⟨[],[],[.c (.sl Xq1)],[.c (.p di)],qc [qn 2,qi,qn 8],[],[],0⟩
def Z5f:=mkC Yv2 prog 152 F152
theorem Yte:Z5f.ok prog 152:=mkO ⟨Yzc,trivial⟩
def Zew(a0:Xy1):Option (Int×Unit):=Z5f.fn (a0,())
theorem Z0s a0:Eq (Zew a0)<|match Ztk a0 with|none=>none|some e0=>some (e0.2.1,()):=mkE
def Yv3:Tb:=[]
def F154:TFun:=⟨[],[],[.a [.int .u8,.int .i64,.int .i64]],[.c (.p di)],qc [qn 2,qi,qn 37],[],[],0⟩
def Z5g:=mkC Yv3 prog 154 F154
theorem Ymw:Z5g.ok prog 154:=mkO trivial
def Yg(a0:Xy3):Option (Int×Unit):=Z5g.fn (a0,())
theorem Zdw a0:Eq (Yg a0)<|let k1:Option (Int×Unit):=some (8,());bif a0.2.1<1 then k1 else bif a0.2.1>1073741824 then k1 else bif a0.1==2 then bif a0.2.2.1>=1 then bif a0.2.2.1<=a0.2.1 then bif a0.2.1<=wrap .i64 (16*a0.2.2.1)then some (0,())else k1 else k1 else k1 else let k2:Option (Int×Unit):=bif a0.2.2.1==0 then some (0,())else k1;bif a0.1==1 then k2 else bif a0.1==3 then k2 else k1:=mkE
def Ymx:Tb:=[(198,Yla)]
def F153:TFun:=⟨[],[(14,qc [[.c (.p (.sl [.int .i64]))],[.c (.fn 196 [])],qn 5,qi,qi,qn 19,[.c (.p (.sl [.int .i64]))],qn 19,qb,qn 9])],[.c (.sl [.int .i64]),.c db],[.c (.p di)],qc [qn 4,qi,qn 25],[(20,[196]),(10,[231]),(7,[197])],[(14,[9,30])],8⟩
def Yc4:=mkC Ymx prog 153 F153
theorem Yzd:Yc4.ok prog 153:=mkO ⟨Yxv,trivial⟩
def Ze4(a0:(List (Int×Unit)))(a1:Bool):Option (Int×Unit):=Yc4.fn (a0,a1,())
def Qw(n:Nat)(x0:(List (Int×Unit)))(x1 x2:Int)(x3:(List (Int×Unit)))(x4:Bool):Option (Int×Unit):=itr Ymx prog 153 F153 n 14 (x0,x1,x2,x3,x4,())
theorem Zqn a0 a1:Eq (Ze4 a0 a1)<|bif ofNat a0.length>4 then some (4,())else bif ofNat a0.length==0 then some (8,())else let k1:=Qw fuel a0 (ofNat a0.length) 0 a0 false;bif a1 then bif ofNat a0.length !=2 then some (8,())else k1 else k1:=mkE
theorem Ze9 n x0 x1 x2 x3 x4:Eq (Qw (n+1) x0 x1 x2 x3 x4)<|bif x2<x1 then bif 0<=x2 then match x0[x2.toNat]? with|none=>none|some e0=>let k1:Option (Int×Unit):=bif x4 then some (8,())else bif x2>=0 then some (8,())else match Z8 x3 with|none=>none|some e1=>bif e1.1<ofNat x3.length then some (43,())else some (0,());bif e0.1<0 then k1 else bif e0.1>=4 then k1 else Qw n x0 x1 (wrap .i64 (x2+1)) x3 x4 else none else bif x4 then some (8,())else match Z8 x3 with|none=>none|some e0=>bif e0.1<ofNat x3.length then some (43,())else some (0,()):=mkI
def Ymy:Tb:=[(152,Z5f),(153,Yc4),(154,Z5g)]
def F81:TFun:=⟨[4,12],[(4,qc [qn 1,[.boxN 27 10 [.any,.any,.p (.sl [.int .i64]),.p db,.p (.sl Xq1),.p (.int .u8),.p di,.p di,.any,.any]],qn 64]),(12,qc [qn 1,[.boxN 27 10 [.any,.any,.p (.sl [.int .i64]),.p db,.any,.p (.int .u8),.p di,.p di,.any,.any]],qn 64])],[.a [.int .u8,.sl Xq1,.sl [.int .i64],.bool,.sl Xq1,.int .u8,.int .i64,.int .i64,.bool,.int .u8]],[.c (.p di)],qc [qn 2,qi,qn 63],[],[],0⟩
def Ymz:=mkC Ymy prog 81 F81
theorem ok81:Ymz.ok prog 81:=mkO ⟨Yte,Yzd,Ymw,trivial⟩
def Zhs(a0:Xy2):Option (Int×Unit):=Ymz.fn (a0,())
def Zdx(n:Nat)(x0:(List (Int×Unit)))(x1:Bool)(x2:Xy1)(x3 x4 x5:Int):Option (Int×Unit):=itr Ymy prog 81 F81 n 4 (x0,x1,x2,x3,x4,x5,())
def Zc9(n:Nat)(x0:(List (Int×Unit)))(x1:Bool)(x2 x3 x4:Int):Option (Int×Unit):=itr Ymy prog 81 F81 n 12 (x0,x1,x2,x3,x4,())
theorem Zt5 a0:Eq (Zhs a0)<|bif a0.1<1 then some (8,())else bif a0.1>4 then some (8,())else let k1:Option (Int×Unit):=let k3:=Zdx fuel a0.2.2.1 a0.2.2.2.1 a0.2.2.2.2.1 a0.2.2.2.2.2.1 a0.2.2.2.2.2.2.1 a0.2.2.2.2.2.2.2.1;bif a0.1 !=1 then match Zew a0.2.1 with|none=>none|some e0=>bif e0.1 !=0 then some (e0.1,())else k3 else bif ofNat a0.2.1.length>0 then some (8,())else k3;bif a0.2.2.2.2.2.2.2.2.2.1 !=1 then bif a0.2.2.2.2.2.2.2.2.2.1 !=2 then some (8,())else k1 else k1:=mkE
theorem Zr5 n x0 x1 x2 x3 x4 x5:Eq (Zdx (n+1) x0 x1 x2 x3 x4 x5)<|let k1:=Zc9 n x0 x1 x3 x4 x5;bif ofNat x2.length>0 then match Zew x2 with|none=>none|some e0=>bif e0.1 !=0 then some (e0.1,())else k1 else k1:=mkI
theorem Zqo n x0 x1 x2 x3 x4:Eq (Zc9 (n+1) x0 x1 x2 x3 x4)<|match Ze4 x0 x1 with|none=>none|some e0=>bif e0.1 !=0 then some (e0.1,())else let k1:=match Yg (x2,x3,x4,())with|none=>none|some e1=>some (e1.1,());bif x1 then bif x2 !=1 then some (8,())else k1 else k1:=mkI
def Zxr:Tb:=[]
def F232:TFun:=⟨[14],[(6,qc [[.c (.p (.sl Xq1))],qn 3,[.boxN 186 1 [.rowN 4 1 [.bool]]],[.fnS 261 [.ptr 0 0]],qn 6,[.c (.p (.sl Xq1))],qi,qi,qn 73]),(14,qc [[.c (.p (.sl Xq1))],qn 3,[.boxN 186 1 [.rowN 4 1 [.bool]]],[.fnS 261 [.ptr 0 0]],qi,qn 1,[.boxN 368 2 [.p db,.p db]],qb,[.c (.slN 3 1 [.int .i64])],qn 1,[.c (.p (.sl Xq1))],qi,qi,qn 73]),(28,qc [qb,qn 1,[.boxN 186 1 [.rowN 4 1 [.bool]]],qn 5,[.c (.slN 3 1 [.int .i64])],qi,qi,qn 10,[.c (.p (.sl Xq1))],qn 3,[.c (.ptr 0 0)],[.fnS 261 [.ptr 0 0]],qi,qn 1,[.boxN 368 2 [.any,.p db]],qb,[.c (.slR 2)],qn 1,[.c (.p (.sl Xq1))],qi,qi,qn 48,qb,qn 24]),(40,qc [qb,qn 1,[.boxN 186 1 [.rowN 4 1 [.bool]]],qn 5,[.c (.p (.sl [.int .i64]))],qi,qi,qn 10,[.c (.p (.sl Xq1))],qn 3,[.c (.ptr 0 0)],[.fnS 261 [.ptr 0 0]],qi,qn 2,qb,qn 2,[.c (.p (.sl Xq1))],qi,qi,qn 54,qb,qn 2,qb,qn 15])],[.c (.sl Xq1)],[.c (.s 4 1 [.bool]),.c (.p di)],qc [qn 2,[.c (.rowN 4 1 [.bool])],qi,qn 84],[(36,[261]),(24,[261])],[(28,[88]),(40,[88])],8⟩
def Zxs:=mkC Zxr prog 232 F232
theorem Yze:Zxs.ok prog 232:=mkO trivial
def Ygm:TCon:=⟨Zxs.args,[.c (.p (.sl [.bool])),.c (.p di)],Zxs.fn⟩
theorem Yv4:Ygm.ok prog 232:=TCon.frz (c:=Zxs) Yze rfl
def Zpd(a0:Xy1):Option (List (Bool×Unit)×Int×Unit):=Zxs.fn (a0,())
def Z9(n:Nat)(x0:Xy1)(x1:(List (Bool×Unit)))(x2:Xy1)(x3 x4:Int):Option (List (Bool×Unit)×Int×Unit):=itr Zxr prog 232 F232 n 6 (x0,x1,x2,x3,x4,())
def Yh(n:Nat)(x0:Xy1)(x1:(List (Bool×Unit)))(x2:Int)(x3 x4 x5:Bool)(x6:(List (Int×Unit)))(x7:Int)(x8:Xy1)(x9 x10:Int):Option (List (Bool×Unit)×Int×Unit):=itr Zxr prog 232 F232 n 14 (x0,x1,x2,x3,x4,x5,x6,x7,x8,x9,x10,())
def Yv(n:Nat)(x0:Bool)(x1:(List (Bool×Unit)))(x2:(List (Int×Unit)))(x3 x4 x5:Int)(x6:Xy1)(x7:Int)(x8 x9:Bool)(x10 x11:Int)(x12:Xy1)(x13 x14:Int)(x15:Bool):Option (List (Bool×Unit)×Int×Unit):=itr Zxr prog 232 F232 n 28 (x0,x1,x2,x3,x4,x5,x6,x7,x8,x9,x10,x11,x12,x13,x14,x15,())
def Yi(n:Nat)(x0:Bool)(x1:(List (Bool×Unit)))(x2:(List (Int×Unit)))(x3 x4:Int)(x5:Xy1)(x6:Int)(x7:Bool)(x8:Xy1)(x9 x10:Int)(x11 x12:Bool):Option (List (Bool×Unit)×Int×Unit):=itr Zxr prog 232 F232 n 40 (x0,x1,x2,x3,x4,x5,x6,x7,x8,x9,x10,x11,x12,())
theorem Z5h a0:Eq (Zpd a0)<|Z9 fuel a0 ([]) a0 (ofNat a0.length) 0:=mkE
theorem Zod n x0 x1 x2 x3 x4:Eq (Z9 (n+1) x0 x1 x2 x3 x4)<|bif x4<x3 then bif 0<=x4 then match x2[x4.toNat]? with|none=>none|some e0=>bif e0.1<=4 then bif Ze (x1.length+1) 1 then Z9 n x0 (x1++[(false,())]) x2 x3 (wrap .i64 (x4+1))else none else bif e0.1==5 then Yh n x0 x1 x4 true false false ([(e0.2.2.1,()),(e0.2.2.2.1,())]) 1 x2 x3 x4 else bif e0.1==6 then Yh n x0 x1 x4 false true true ([(e0.2.2.1,()),(e0.2.2.2.1,())]) 1 x2 x3 x4 else bif e0.1<=11 then Yh n x0 x1 x4 true false false ([(e0.2.2.1,()),(e0.2.2.2.1,())]) (ofNat (List.length [(e0.2.2.1,()),(e0.2.2.2.1,())])) x2 x3 x4 else bif e0.1<=15 then Yh n x0 x1 x4 true false true ([(e0.2.2.1,()),(e0.2.2.2.1,())]) (ofNat (List.length [(e0.2.2.1,()),(e0.2.2.2.1,())])) x2 x3 x4 else bif e0.1<=17 then Yh n x0 x1 x4 true true true ([(e0.2.2.1,()),(e0.2.2.2.1,())]) (ofNat (List.length [(e0.2.2.1,()),(e0.2.2.2.1,())])) x2 x3 x4 else Yh n x0 x1 x4 false true true ([(e0.2.2.1,()),(e0.2.2.2.1,())]) (ofNat (List.length [(e0.2.2.1,()),(e0.2.2.2.1,())])) x2 x3 x4 else none else some (x1,ofNat x0.length,()):=mkI
theorem Zxt n x0 x1 x2 x3 x4 x5 x6 x7 x8 x9 x10:Eq (Yh (n+1) x0 x1 x2 x3 x4 x5 x6 x7 x8 x9 x10)<|bif x3 then Yv n false x1 x6 (ofNat x7.toNat) (ofNat x7.toNat) 0 x0 x2 x4 x5 0 (ofNat x7.toNat) x8 x9 x10 true else bif x4 then Yi n true x1 (List.take x7.toNat (List.drop 0 x6)) (ofNat x7.toNat) 0 x0 x2 x5 x8 x9 x10 true true else some ([],x2,()):=mkI
theorem Zmc n x0 x1 x2 x3 x4 x5 x6 x7 x8 x9 x10 x11 x12 x13 x14 x15:Eq (Yv (n+1) x0 x1 x2 x3 x4 x5 x6 x7 x8 x9 x10 x11 x12 x13 x14 x15)<|let k1:=bif x8 then Yi n true x1 (List.take x11.toNat (List.drop x10.toNat x2)) (ofNat x11.toNat) 0 x6 x7 x9 x12 x13 x14 true true else some ([],x7,());bif x5<x4 then bif 0<=x5 then bif x5.toNat<x3.toNat then match x2[0+x5.toNat]? with|none=>none|some e0=>bif 0<=e0.1 then bif e0.1.toNat<x1.length then match x1[e0.1.toNat]? with|none=>none|some e1=>bif !e1.1==x0 then bif x15 then k1 else k1 else Yv n x0 x1 x2 (ofNat x3.toNat) x4 (wrap .i64 (x5+1)) x6 x7 x8 x9 (ofNat x10.toNat) (ofNat x11.toNat) x12 x13 x14 x15 else none else none else none else none else bif x15 then bif Ze (x1.length+List.length [(x9,())]) 1 then Z9 n x6 (x1++[(x9,())]) x12 x13 (wrap .i64 (x14+1))else none else k1:=mkI
theorem Zmd n x0 x1 x2 x3 x4 x5 x6 x7 x8 x9 x10 x11 x12:Eq (Yi (n+1) x0 x1 x2 x3 x4 x5 x6 x7 x8 x9 x10 x11 x12)<|let k1:=bif Ze (x1.length+List.length [(x7,())]) 1 then Z9 n x5 (x1++[(x7,())]) x8 x9 (wrap .i64 (x10+1))else none;bif x4<x3 then bif 0<=x4 then match x2[x4.toNat]? with|none=>none|some e0=>bif 0<=e0.1 then bif e0.1.toNat<x1.length then match x1[e0.1.toNat]? with|none=>none|some e1=>bif !e1.1==x0 then bif x11 then bif x12 then some ([],x6,())else some ([],x6,())else k1 else Yi n x0 x1 x2 x3 (wrap .i64 (x4+1)) x5 x6 x7 x8 x9 x10 x11 x12 else none else none else none else bif x11 then bif x12 then k1 else some ([],x6,())else k1:=mkI
def Yv5:Tb:=[(152,Z5f),(232,Ygm)]
def F199:TFun:=⟨[],[],[.c (.sl Xq1)],[.c (.p db),.c (.p di),.c (.p di)],qc [qn 2,qb,qi,qi,qn 25],[],[],0⟩
def Z5i:=mkC Yv5 prog 199 F199
theorem Ytf:Z5i.ok prog 199:=mkO ⟨Yte,Yv4,trivial⟩
def Zme(a0:Xy1):Option (Bool×Int×Int×Unit):=Z5i.fn (a0,())
theorem Yc5 a0:Eq (Zme a0)<|match Zew a0 with|none=>none|some e0=>bif e0.1 !=0 then some (false,0,e0.1,())else match Zpd a0 with|none=>none|some e1=>bif e1.2.1<ofNat a0.length then some (false,e1.2.1,42,())else bif 0<=wrap .i64 (e1.2.1-1)then match e1.1[toNat (wrap .i64 (e1.2.1-1))]? with|none=>none|some e2=>some (e2.1,wrap .i64 (e1.2.1-1),0,())else none:=mkE
def Yv6:Tb:=[(199,Z5i)]
def F155:TFun:=⟨[],[],[.c (.sl Xq1),.c db],[.c (.p di),.c (.p di)],qc [qn 4,qi,qi,qn 18],[],[],0⟩
def Z5j:=mkC Yv6 prog 155 F155
theorem Ytg:Z5j.ok prog 155:=mkO ⟨Ytf,trivial⟩
def Zi5(a0:Xy1)(a1:Bool):Option (Int×Int×Unit):=Z5j.fn (a0,a1,())
theorem Z5k a0 a1:Eq (Zi5 a0 a1)<|match Zme a0 with|none=>none|some e0=>bif e0.2.2.1==0 then bif !e0.1==a1 then some (e0.2.1,42,())else some e0.2 else some e0.2:=mkE
def Yzf:Tb:=[(155,Z5j)]
def F83:TFun:=⟨[],[],[.c (.sl Xq1)],[.c (.p di),.c (.p di)],qc [qn 2,qi,qi,qn 4],[],[],0⟩
def Ym0:=mkC Yzf prog 83 F83
theorem ok83:Ym0.ok prog 83:=mkO ⟨Ytg,trivial⟩
def Zi6(a0:Xy1):Option (Int×Int×Unit):=Ym0.fn (a0,())
theorem Zxu a0:Eq (Zi6 a0)<|match Zi5 a0 false with|none=>none|some e0=>some e0:=mkE
def Yzg:Tb:=[(155,Z5j)]
def F84:TFun:=⟨[],[],[.c (.sl Xq1)],[.c (.p di),.c (.p di)],qc [qn 2,qi,qi,qn 4],[],[],0⟩
def Ym1:=mkC Yzg prog 84 F84
theorem ok84:Ym1.ok prog 84:=mkO ⟨Ytg,trivial⟩
def Zhb(a0:Xy1):Option (Int×Int×Unit):=Ym1.fn (a0,())
theorem Z0t a0:Eq (Zhb a0)<|match Zi5 a0 true with|none=>none|some e0=>some e0:=mkE
def Yzh:Tb:=[(81,Ymz),(83,Ym0),(84,Ym1)]
def F44:TFun:=⟨[],[],[.a [.int .u8,.sl Xq1,.sl [.int .i64],.bool,.sl Xq1,.int .u8,.int .i64,.int .i64,.bool,.int .u8]],[.c (.p di),.c (.p di)],qc [qn 2,qi,qi,qn 16],[(11,[4]),(7,[82])],[],8⟩
def Z2t:=mkC Yzh prog 44 F44
theorem ok44:Z2t.ok prog 44:=mkO ⟨ok81,ok83,ok84,trivial⟩
def Yk(a0:Xy2):Option (Int×Int×Unit):=Z2t.fn (a0,())
theorem Zxv a0:Eq (Yk a0)<|match Zhs a0 with|none=>none|some e0=>bif e0.1 !=0 then some (0,e0.1,())else let k1:Option (Int×Int×Unit):=some (0,0,());bif ofNat a0.2.1.length==0 then bif ofNat a0.2.2.2.2.1.length==0 then k1 else match Zhb a0.2.2.2.2.1 with|none=>none|some e1=>bif e1.2.1 !=0 then bif 0<=e1.1 then match a0.2.2.2.2.1[e1.1.toNat]? with|none=>none|some e2=>some (e2.2.2.2.2.1,e1.2.1,())else none else k1 else match Zi6 a0.2.1 with|none=>none|some e1=>bif e1.2.1 !=0 then bif 0<=e1.1 then match a0.2.1[e1.1.toNat]? with|none=>none|some e2=>some (e2.2.2.2.2.1,e1.2.1,())else none else bif ofNat a0.2.2.2.2.1.length==0 then k1 else match Zhb a0.2.2.2.2.1 with|none=>none|some e2=>bif e2.2.1 !=0 then bif 0<=e2.1 then match a0.2.2.2.2.1[e2.1.toNat]? with|none=>none|some e3=>some (e3.2.2.2.2.1,e2.2.1,())else none else k1:=mkE
end
end Tg
