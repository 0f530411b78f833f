import Derived.Test.YtpjpjpbaikghbaaGreatDoorSVb4
import Derived.Test.YtpjpjpbaikghbaaGreatDoorSSP
import Derived.Test.YtpjpjpbaikghbaaGreatDoorSVb3
import Derived.Test.YtpjpjpbaikghbaaGreatDoorSXb6
set_option linter.all false
/- Functions of the code, told plainly and checked by the kernel. -/
set_option maxRecDepth 100000
namespace Tg
noncomputable section
open Go.Abs hiding fuel
open Go.Proofs.Tryz (prog)
open Int (ofNat toNat)
open Go.IntKind (wrap)
abbrev Zx5:List Go.Abs.SC:=[.p (.int .u8),.p (.sl Yq4),.p (.sl Yq7),.p db,.p (.sl Yq4),.p (.int .u8),.p di,.p di,.p db,.p (.int .u8),.p (.sl Yq8),.p (.sl Yq5),.p (.sl Yq2),.p (.sl Yq3)]
def Yde:Tb:=[]
def F119:TFun:=⟨[],[(4,qc [qn 1,qi,qb,[.boxN 31 2 [.any,.p (.sl Yq5)]],qn 3,[.c (.rowN 3 1 Yq7)],qi,qn 52]),(9,qc [qn 1,qi,qb,[.boxN 31 2 [.any,.p (.sl Yq5)]],qn 3,[.c (.rowN 3 1 Yq7)],qi,qi,qn 51])],[.a [.sl Yq8,.sl Yq5],.c di,.c db],[.c (.s 3 1 Yq7)],qc [qn 6,[.c (.rowN 3 1 Yq7)],qn 54],[],[],0⟩
def Zx6:=mkC Yde prog 119 F119
theorem Yzm:Zx6.ok prog 119:=mkO trivial
def Z5o:TCon:=⟨Zx6.args,[.c (.p (.sl Yq7))],Zx6.fn⟩
theorem Yno:Z5o.ok prog 119:=TCon.frz (c:=Zx6) Yzm rfl
def Zfh(a0:(List (Int×Int×Unit)×List (Int×Int×Int×Int×Int×Unit)×Unit))(a1:Int)(a2:Bool):Option (List (Int×Unit)×Unit):=Zx6.fn (a0,a1,a2,())
def Zas(n:Nat)(x0:Int)(x1:Bool)(x2:Yy4)(x3:Yy6)(x4:Int):Option (List (Int×Unit)×Unit):=itr Yde prog 119 F119 n 4 (x0,x1,x2,x3,x4,())
def Z4(n:Nat)(x0:Int)(x1:Bool)(x2:Yy4)(x3:Yy6)(x4 x5:Int):Option (List (Int×Unit)×Unit):=itr Yde prog 119 F119 n 9 (x0,x1,x2,x3,x4,x5,())
theorem Zx7 a0 a1 a2:Eq (Zfh a0 a1 a2)<|Zas fuel a1 a2 a0.2.1 ([]) 0:=mkE
theorem Zj2 n x0 x1 x2 x3 x4:Eq (Zas (n+1) x0 x1 x2 x3 x4)<|bif x4<20 then Z4 n x0 x1 x2 x3 x4 0 else some (x3,()):=mkI
theorem Zj3 n x0 x1 x2 x3 x4 x5:Eq (Z4 (n+1) x0 x1 x2 x3 x4 x5)<|bif x5<ofNat x2.length then ix x2 x5 λe0=>let k1:=let k3:=Z4 n x0 x1 x2 x3 x4 (wrap .i64 (x5+1));bif !x1 then bif e0.1==x0 then bif e0.2.1==x4 then bif Ze (x3.length+List.length [(x5,())]) 8 then Z4 n x0 x1 x2 (x3++[(x5,())]) x4 (wrap .i64 (x5+1))else none else k3 else k3 else k3;bif x1 then bif e0.2.2.1==x0 then bif e0.2.2.2.1==x4 then bif Ze (x3.length+List.length [(x5,())]) 8 then Z4 n x0 x1 x2 (x3++[(x5,())]) x4 (wrap .i64 (x5+1))else none else k1 else k1 else k1 else Zas n x0 x1 x2 x3 (wrap .i64 (x4+1)):=mkI
def Yzn:Tb:=[(119,Z5o)]
def F54:TFun:=⟨[],[],[.a Yq1,.c di],[.c (.p (.sl Yq7))],qc [qn 4,[.c (.p (.sl Yq7))],qn 4],[],[],0⟩
def Ynp:=mkC Yzn prog 54 F54
theorem ok54:Ynp.ok prog 54:=mkO ⟨Yno,trivial⟩
def Zpe(a0:Yy1)(a1:Int):Option (List (Int×Unit)×Unit):=Ynp.fn (a0,a1,())
theorem Z5p a0 a1:Eq (Zpe a0 a1)<|(Zfh (a0.2.2.2.2.2.2.2.2.2.2.1,a0.2.2.2.2.2.2.2.2.2.2.2.1,()) a1 false).bind λe0=>some (e0.1,()):=mkE
def Yzo:Tb:=[(119,Z5o)]
def F55:TFun:=⟨[],[],[.a Yq1,.c di],[.c (.p (.sl Yq7))],qc [qn 4,[.c (.p (.sl Yq7))],qn 4],[],[],0⟩
def Ynq:=mkC Yzo prog 55 F55
theorem ok55:Ynq.ok prog 55:=mkO ⟨Yno,trivial⟩
def Zno(a0:Yy1)(a1:Int):Option (List (Int×Unit)×Unit):=Ynq.fn (a0,a1,())
theorem Z86 a0 a1:Eq (Zno a0 a1)<|(Zfh (a0.2.2.2.2.2.2.2.2.2.2.1,a0.2.2.2.2.2.2.2.2.2.2.2.1,()) a1 true).bind λe0=>some (e0.1,()):=mkE
def Ynr:Tb:=[(53,Ymn),(54,Ynp),(55,Ynq)]
def F30:TFun:=⟨[7],[(7,qc [qn 1,qi,[.boxN 35 14 Zx5],qn 2,[.boxN 59 9 [.p (.int .u8),.any,.any,.any,.p (.sl Yq7),.any,.any,.any,.any]],qi,qn 100]),(9,qc [qn 1,qi,[.boxN 35 14 Zx5],qn 2,[.boxN 59 9 [.p (.int .u8),.any,.any,.p (.sl Yq6),.p (.sl Yq7),.any,.any,.any,.any]],qi,qi,qn 99])],[.a Yq1,.c di],[.c (.p db)],qc [qn 4,qb,qn 102],[],[],0⟩
def Yns:=mkC Ynr prog 30 F30
theorem ok30:Yns.ok prog 30:=mkO ⟨ok53,ok54,ok55,trivial⟩
def Zja(a0:Yy1)(a1:Int):Option (Bool×Unit):=Yns.fn (a0,a1,())
def Zj4(n:Nat)(x0 x1:Int)(x2:Yy4)(x3:Yy6)(x4:Bool)(x5:Yy4)(x6 x7 x8:Int)(x9:Bool)(x10:Int)(x11:Yy7)(x12:Yy4)(x13:(List Yy2))(x14:(List Yy3))(x15:Int)(x16:Yy6)(x17:Int):Option (Bool×Unit):=itr Ynr prog 30 F30 n 7 (x0,x1,x2,x3,x4,x5,x6,x7,x8,x9,x10,x11,x12,x13,x14,x15,x16,x17,())
def Zb4(n:Nat)(x0 x1:Int)(x2:Yy4)(x3:Yy6)(x4:Bool)(x5:Yy4)(x6 x7 x8:Int)(x9:Bool)(x10:Int)(x11:Yy7)(x12:Yy4)(x13:(List Yy2))(x14:(List Yy3))(x15:Int)(x16:Yy5)(x17:Yy6)(x18 x19:Int):Option (Bool×Unit):=itr Ynr prog 30 F30 n 9 (x0,x1,x2,x3,x4,x5,x6,x7,x8,x9,x10,x11,x12,x13,x14,x15,x16,x17,x18,x19,())
theorem Zx8 a0 a1:Eq (Zja a0 a1)<|ix a0.2.2.2.2.2.2.2.2.2.2.2.2.1 a1 λe0=>ix a0.2.2.2.2.2.2.2.2.2.2.1 a1 λe1=>bif !(e0.1==e1.1&&(e0.2.1==e1.2.1&&true))then some (false,())else(Zha e0).bind λe2=>bif e2.1 !=0 then some (false,())else(Zpe a0 a1).bind λe3=>Zb4 fuel a1 a0.1 a0.2.1 a0.2.2.1 a0.2.2.2.1 a0.2.2.2.2.1 a0.2.2.2.2.2.1 a0.2.2.2.2.2.2.1 a0.2.2.2.2.2.2.2.1 a0.2.2.2.2.2.2.2.2.1 a0.2.2.2.2.2.2.2.2.2.1 a0.2.2.2.2.2.2.2.2.2.2.1 a0.2.2.2.2.2.2.2.2.2.2.2.1 a0.2.2.2.2.2.2.2.2.2.2.2.2.1 a0.2.2.2.2.2.2.2.2.2.2.2.2.2.1 e0.1 e0.2.2.2.1 e0.2.2.2.2.1 (ofNat e3.1.length) 0:=mkE
theorem Zt6 n x0 x1 x2 x3 x4 x5 x6 x7 x8 x9 x10 x11 x12 x13 x14 x15 x16 x17:Eq (Zj4 (n+1) x0 x1 x2 x3 x4 x5 x6 x7 x8 x9 x10 x11 x12 x13 x14 x15 x16 x17)<|let k1:=(Zno (x1,x2,x3,x4,x5,x6,x7,x8,x9,x10,x11,x12,x13,x14,()) x0).bind λe0=>let k3:=bif x15 !=5 then some (true,())else bif ofNat e0.1.length==2 then some (x4,())else some (false,());bif x15 !=4 then k3 else bif ofNat x16.length==ofNat e0.1.length then bif !x4 then k3 else some (false,())else some (false,());bif x15==2 then let k4:=bif x17 !=2 then some (false,())else bif !x10==2 then some (false,())else k1;bif x17 !=1 then k4 else bif x10==2 then k4 else k1 else k1:=mkI
theorem Zj5 n x0 x1 x2 x3 x4 x5 x6 x7 x8 x9 x10 x11 x12 x13 x14 x15 x16 x17 x18 x19:Eq (Zb4 (n+1) x0 x1 x2 x3 x4 x5 x6 x7 x8 x9 x10 x11 x12 x13 x14 x15 x16 x17 x18 x19)<|bif x19<ofNat x16.length then ix x16 x19 λe0=>bif e0.1>=x18 then some (false,())else Zb4 n x0 x1 x2 x3 x4 x5 x6 x7 x8 x9 x10 x11 x12 x13 x14 x15 x16 x17 x18 (wrap .i64 (x19+1))else Zj4 n x0 x1 x2 x3 x4 x5 x6 x7 x8 x9 x10 x11 x12 x13 x14 x15 x17 x18:=mkI
def Ygz:Tb:=[(27,Yl8),(28,Ymf),(29,Ymi),(30,Yns)]
def F14:TFun:=⟨[6],[(6,qc [qn 1,[.boxN 35 14 Zx5],qn 74]),(8,qc [qn 1,[.boxN 35 14 Zx5],qn 1,qi,qn 72]),(16,qc [qn 1,[.boxN 35 14 Zx5],qn 2,qi,qn 71])],[.a Yq1],[.c (.p di)],qc [qn 2,qi,qn 73],[],[],0⟩
def Ynt:=mkC Ygz prog 14 F14
theorem ok14:Ynt.ok prog 14:=mkO ⟨ok27,ok28,ok29,ok30,trivial⟩
def Zmi(a0:Yy1):Option (Int×Unit):=Ynt.fn (a0,())
def Zmj(n:Nat)(x0:Int)(x1:Yy4)(x2:Yy6)(x3:Bool)(x4:Yy4)(x5 x6 x7:Int)(x8:Bool)(x9:Int)(x10:Yy7)(x11:Yy4)(x12:(List Yy2))(x13:(List Yy3)):Option (Int×Unit):=itr Ygz prog 14 F14 n 6 (x0,x1,x2,x3,x4,x5,x6,x7,x8,x9,x10,x11,x12,x13,())
def Zda(n:Nat)(x0:Int)(x1:Yy4)(x2:Yy6)(x3:Bool)(x4:Yy4)(x5 x6 x7:Int)(x8:Bool)(x9:Int)(x10:Yy7)(x11:Yy4)(x12:(List Yy2))(x13:(List Yy3))(x14:Int):Option (Int×Unit):=itr Ygz prog 14 F14 n 8 (x0,x1,x2,x3,x4,x5,x6,x7,x8,x9,x10,x11,x12,x13,x14,())
def Zb5(n:Nat)(x0:Int)(x1:Yy4)(x2:Yy6)(x3:Bool)(x4:Yy4)(x5 x6 x7:Int)(x8:Bool)(x9:Int)(x10:Yy7)(x11:Yy4)(x12:(List Yy2))(x13:(List Yy3))(x14:Int):Option (Int×Unit):=itr Ygz prog 14 F14 n 16 (x0,x1,x2,x3,x4,x5,x6,x7,x8,x9,x10,x11,x12,x13,x14,())
theorem Z0w a0:Eq (Zmi a0)<|(Zc3 (a0.1,a0.2.1,a0.2.2.1,a0.2.2.2.1,a0.2.2.2.2.1,a0.2.2.2.2.2.1,a0.2.2.2.2.2.2.1,a0.2.2.2.2.2.2.2.1,a0.2.2.2.2.2.2.2.2.1,a0.2.2.2.2.2.2.2.2.2.1,())).bind λe0=>bif !e0.1 then some (8,())else(Zg8 (a0.2.2.2.2.2.2.2.2.2.2.1,a0.2.2.2.2.2.2.2.2.2.2.2.1,())).bind λe1=>bif e1.1 !=0 then some (8,())else bif ofNat a0.2.2.2.2.2.2.2.2.2.2.2.2.1.length !=ofNat a0.2.2.2.2.2.2.2.2.2.2.1.length then some (8,())else bif ofNat a0.2.2.2.2.2.2.2.2.2.2.2.2.2.1.length !=ofNat a0.2.2.2.2.2.2.2.2.2.2.2.1.length then some (8,())else Zda fuel a0.1 a0.2.1 a0.2.2.1 a0.2.2.2.1 a0.2.2.2.2.1 a0.2.2.2.2.2.1 a0.2.2.2.2.2.2.1 a0.2.2.2.2.2.2.2.1 a0.2.2.2.2.2.2.2.2.1 a0.2.2.2.2.2.2.2.2.2.1 a0.2.2.2.2.2.2.2.2.2.2.1 a0.2.2.2.2.2.2.2.2.2.2.2.1 a0.2.2.2.2.2.2.2.2.2.2.2.2.1 a0.2.2.2.2.2.2.2.2.2.2.2.2.2.1 0:=mkE
theorem Zx9 n x0 x1 x2 x3 x4 x5 x6 x7 x8 x9 x10 x11 x12 x13:Eq (Zmj (n+1) x0 x1 x2 x3 x4 x5 x6 x7 x8 x9 x10 x11 x12 x13)<|Zb5 n x0 x1 x2 x3 x4 x5 x6 x7 x8 x9 x10 x11 x12 x13 0:=mkI
theorem Zmk n x0 x1 x2 x3 x4 x5 x6 x7 x8 x9 x10 x11 x12 x13 x14:Eq (Zda (n+1) x0 x1 x2 x3 x4 x5 x6 x7 x8 x9 x10 x11 x12 x13 x14)<|bif x14<ofNat x13.length then ix x13 x14 λe0=>ix x11 x14 λe1=>bif e0.1 !=e1.2.2.2.2.1 then some (8,())else ix x13 x14 λe2=>(Zlx e2).bind λe3=>bif e3.1 !=0 then some (8,())else Zda n x0 x1 x2 x3 x4 x5 x6 x7 x8 x9 x10 x11 x12 x13 (wrap .i64 (x14+1))else Zmj n x0 x1 x2 x3 x4 x5 x6 x7 x8 x9 x10 x11 x12 x13:=mkI
theorem Zj6 n x0 x1 x2 x3 x4 x5 x6 x7 x8 x9 x10 x11 x12 x13 x14:Eq (Zb5 (n+1) x0 x1 x2 x3 x4 x5 x6 x7 x8 x9 x10 x11 x12 x13 x14)<|bif x14<ofNat x12.length then(Zja (x0,x1,x2,x3,x4,x5,x6,x7,x8,x9,x10,x11,x12,x13,()) x14).bind λe0=>bif !e0.1 then some (8,())else Zb5 n x0 x1 x2 x3 x4 x5 x6 x7 x8 x9 x10 x11 x12 x13 (wrap .i64 (x14+1))else some (0,()):=mkI
end
end Tg

/- The reference's list of an operator's channels. -/
namespace Tg
open Go
open Go.Abs (Ze Zj tmm)
def hitP(b:Bool)(op pl:Int)(c:Cn):Bool:=decide (Tj.selF b c=op)&&decide (Tj.keyF b c=pl)
def hits(b:Bool)(op pl:Int):Nat->List Cn->List (Int×Unit)
 | _,[]=>[]
 | i,c::r=>(bif hitP b op pl c then[((i:Int),())]else[])++hits b op pl (i+1) r
theorem Z87(b:Bool)(op pl:Int):∀(r:List Cn) (i:Nat),(hits b op pl i r).length<=r.length
 | [],_=>Nat.le_refl _
 | c::r,i=>by have:=Z87 b op pl r (i+1);rw[hits];grind
theorem Yg0(b:Bool)(op:Int)(pl:Nat)(chs:List Cn):∀(r:List Cn) (k:Nat),chs.drop k=r->hits b op pl k r=(((List.range' k r.length)).filter λi=>(chs[i]?).any λc=>decide (Tj.selF b c=op)&&decide (Tj.keyF b c=(pl:Int))).map λi:Nat=>((i:Int),())
 | [],_,_=>rfl
 | c::r,k,h=>by obtain⟨h1,h2,h3⟩:=Za4 h;rw[hits,Yg0 b op pl chs r (k+1) h3,J0p,List.range'_succ,List.filter_cons,h2];grind[hitP]
theorem Ynu(b:Bool)(x:Gr)(op:Int):joinL b x op=(List.range 20).flatMap λpl:Nat=>hits b op pl 0 x.2.1:=by unfold joinL Tj.Zqq;rw[List.map_flatMap];congr 1;funext pl;rw[Yg0 b op pl x.2.1 x.2.1 0 rfl,List.range_eq_range']
theorem Yg1(b:Bool)(op:Int)(pl:Nat)(chs:List Cn)(hl:chs.length<=1000)(hp:pl<=100):∀(r:List Cn) (i m:Nat) (out:List (Int×Unit)),chs.drop i=r->i<=chs.length->out.length+r.length<=100000 ->
    Z4 (m+r.length+1) op b chs out (pl:Int) (i:Int)=Zas m op b chs (out++hits b op pl i r) ((pl+1:Nat):Int)
  | [],i,m,out,h,hi,ho=>by grind[Zj3,wS,hits]
  | c::r,i,m,out,h,hi,ho=>by
   obtain⟨h1,h2,h3⟩:=Za4 h;simp only[J0p]at ho ⊢;have ih:=λo (ho2:o.length+r.length<=100000)=>Yg1 b op pl chs hl hp r (i+1) m o h3 (by omega) ho2;have hb:Ze (out.length+[((i:Int),())].length) 8=true:=Xd (by grind) (by omega);have e:Z4 (m+(r.length+1)+1) op b chs out (pl:Int) (i:Int)=bif hitP b op pl c then Z4 (m+r.length+1) op b chs (out++[((i:Int),())]) (pl:Int) ((i+1:Nat):Int)else Z4 (m+r.length+1) op b chs out (pl:Int) ((i+1:Nat):Int):=by rw[show m+(r.length+1)+1=(m+r.length+1)+1 by omega];rw[Zj3];simp only[ltL h2,cond_true,ix_s h2,wS (show i<1000000000000 by omega),hb];generalize Z4 (m+r.length+1) op b chs (out++[((i:Int),())]) (pl:Int) ((i+1:Nat):Int)=Z1;generalize Z4 (m+r.length+1) op b chs out (pl:Int) ((i+1:Nat):Int)=Z2;grind[hitP,Tj.selF,Tj.keyF]
   grind[hits]
theorem Yg2(b:Bool)(op:Int)(chs:List Cn)(hl:chs.length<=1000):∀(k pl n:Nat) (out:List (Int×Unit)),pl+k=20->out.length+1000*k<=30000->k*(chs.length+2)+1<=n ->
    Zas n op b chs out (pl:Int)=some (out++(List.range' pl k).flatMap (λq:Nat=>hits b op q 0 chs),())
  | 0,pl,n,out,hp,ho,hn=>by obtain⟨m,rfl⟩:∃m,n=m+1:=⟨n-1,by omega⟩;grind[Zj2]
  | k+1,pl,n,out,hp,ho,hn=>by
   have he:(k+1)*(chs.length+2)=k*(chs.length+2)+(chs.length+2):=by grind
   obtain⟨m,rfl⟩:∃m,n=(m+chs.length+1)+1:=⟨n-chs.length-2,by omega⟩;have hh:=Z87 b op pl chs 0;have hpl:decide ((pl:Int)<20)=true:=decide_eq_true (by omega);have:=Yg1 b op pl chs hl (by omega) chs 0 m out rfl (by omega) (by omega);simp only[Int.natCast_zero]at this;rw[Zj2,hpl,cond_true,this,Yg2 b op chs hl k (pl+1) m _ (by omega) (by grind) (by omega),List.range'_succ,List.flatMap_cons,List.append_assoc]
theorem Z88(x:Gr)(op:Int)(b:Bool)(hl:x.2.1.length<=1000):Zfh x op b=some (joinL b x op,()):=by rw[Zx7,Ynu,List.range_eq_range'];have hf:=Zu;have:=Yg2 b op x.2.1 hl 20 0 fuel [] rfl (by simp) (by omega);grind
end Tg

/- Functions of the code, told plainly and checked by the kernel. -/
namespace Tg
noncomputable section
open Go.Abs hiding fuel
open Go.Proofs.Tryz (prog)
open Int (ofNat toNat)
open Go.IntKind (wrap)
abbrev Ydf:List Go.Abs.SC:=[.p (.int .u8),.p (.sl Yq4),.p (.sl Yq7),.p db,.p (.sl Yq4),.p (.int .u8),.p di,.p di,.p db,.p (.int .u8),.p (.sl Yq8),.p (.sl Yq5),.p (.sl Yq2),.p (.sl Yq3)]
abbrev Ywd:List Go.Abs.SC:=[.any,.any,.any,.any,.any,.any,.any,.any,.any,.any,.any,.any,.any,.p (.sl Yq3)]
abbrev Ynv:List Go.Abs.SC:=[.any,.any,.any,.p db,.any,.any,.any,.any,.any,.p (.int .u8),.any,.any,.any,.any]
abbrev Ynw:List Go.Abs.SC:=[.p (.int .u8),.any,.any,.any,.p (.sl Yq7),.any,.any,.any,.any]
def Ytl:Tb:=[]
def F19:TFun:=⟨[],[(4,qc [qn 2,[.boxN 35 14 Ywd],qn 2,[.c (.rowN 75 2 Yq3)],qn 2,[.c (.p (.sl Yq7))],qi,qi,qn 13])],[.a Yq1,.c (.sl Yq7)],[.c (.s 75 2 Yq3)],qc [qn 4,[.c (.rowN 75 2 Yq3)],qn 19],[],[],0⟩
def Z89:=mkC Ytl prog 19 F19
theorem ok19:Z89.ok prog 19:=mkO trivial
def Z5q:TCon:=⟨Z89.args,[.c (.p (.sl Yq3))],Z89.fn⟩
theorem Ynx:Z5q.ok prog 19:=TCon.frz (c:=Z89) ok19 rfl
def Zck(a0:Yy1)(a1:Yy6):Option (List Yy3×Unit):=Z89.fn (a0,a1,())
def Zdb(n:Nat)(x0 x1:(List Yy3))(x2:Yy6)(x3 x4:Int):Option (List Yy3×Unit):=itr Ytl prog 19 F19 n 4 (x0,x1,x2,x3,x4,())
theorem Z0x a0 a1:Eq (Zck a0 a1)<|Zdb fuel a0.2.2.2.2.2.2.2.2.2.2.2.2.2.1 ([]) a1 (ofNat a1.length) 0:=mkE
theorem Zml n x0 x1 x2 x3 x4:Eq (Zdb (n+1) x0 x1 x2 x3 x4)<|bif x4<x3 then ix x2 x4 λe0=>ix x0 e0.1 λe1=>bif Ze (x1.length+List.length [e1]) 32 then Zdb n x0 (x1++[e1]) x2 x3 (wrap .i64 (x4+1))else none else some (x1,()):=mkI
def Yny:Tb:=[(66,Zoa),(20,Zx0),(32,Zx1)]
def F47:TFun:=⟨[6],[(6,qc [qn 2,[.boxN 35 14 Ynv],qn 2,[.boxN 59 9 Ynw],qi,qi,qn 78]),(8,qc [qn 2,[.boxN 35 14 Ynv],qn 2,[.boxN 59 9 Ynw],qi,qi,qn 33,[.c (.p (.sl Yq6))],qi,qi,qn 42])],[.a Yq1,.c di],[.c (.p db)],qc [qn 4,qb,qn 81],[],[],0⟩
def Ynz:=mkC Yny prog 47 F47
theorem ok47:Ynz.ok prog 47:=mkO ⟨ok66,Ygu,Ygv,trivial⟩
def Zr8(a0:Yy1)(a1:Int):Option (Bool×Unit):=Ynz.fn (a0,a1,())
def Zqs(n:Nat)(x0:Bool)(x1 x2:Int)(x3:Yy6)(x4 x5:Int):Option (Bool×Unit):=itr Yny prog 47 F47 n 6 (x0,x1,x2,x3,x4,x5,())
def Zfi(n:Nat)(x0:Bool)(x1 x2:Int)(x3:Yy6)(x4 x5:Int)(x6:Yy5)(x7 x8:Int):Option (Bool×Unit):=itr Yny prog 47 F47 n 8 (x0,x1,x2,x3,x4,x5,x6,x7,x8,())
theorem Z9a a0 a1:Eq (Zr8 a0 a1)<|ix a0.2.2.2.2.2.2.2.2.2.2.2.2.1 a1 λe0=>ix a0.2.2.2.2.2.2.2.2.2.2.1 a1 λe1=>bif !(e0.1==e1.1&&(e0.2.1==e1.2.1&&true))then some (false,())else(Yt e0).bind λe2=>bif e2.1 !=0 then some (false,())else(Yn (a0.2.2.2.2.2.2.2.2.2.2.1,a0.2.2.2.2.2.2.2.2.2.2.2.1,()) a1).bind λe3=>(Ya (a0.2.2.2.2.2.2.2.2.2.2.1,a0.2.2.2.2.2.2.2.2.2.2.2.1,()) a1).bind λe4=>Zfi fuel a0.2.2.2.1 a0.2.2.2.2.2.2.2.2.2.1 e0.1 e0.2.2.2.2.1 (ofNat e3.1.length) (ofNat e4.1.length) e0.2.2.2.1 (ofNat e0.2.2.2.1.length) 0:=mkE
theorem Z5r n x0 x1 x2 x3 x4 x5:Eq (Zqs (n+1) x0 x1 x2 x3 x4 x5)<|bif x2==2 then bif x1==2 then some (x5==2,())else some (x5==1,())else bif x2==4 then bif ofNat x3.length==x4 then some (!x0,())else some (false,())else bif x2==5 then bif x4==2 then some (x0,())else some (false,())else some (true,()):=mkI
theorem Zqt n x0 x1 x2 x3 x4 x5 x6 x7 x8:Eq (Zfi (n+1) x0 x1 x2 x3 x4 x5 x6 x7 x8)<|bif x8<x7 then ix x6 x8 λe0=>bif e0.1>=x5 then some (false,())else Zfi n x0 x1 x2 x3 x4 x5 x6 x7 (wrap .i64 (x8+1))else Zqs n x0 x1 x2 x3 x4 x5:=mkI
def Yg3:Tb:=[(44,Z2t),(45,Yth),(46,Z2r),(47,Ynz)]
def F22:TFun:=⟨[7],[(7,qc [qn 1,[.boxN 35 14 Ydf],qn 75]),(9,qc [qn 1,[.boxN 35 14 Ydf],qn 41,[.c (.p (.sl Yq3))],qi,qi,qn 31]),(18,qc [qn 1,[.boxN 35 14 Ydf],qn 66,qi,qi,qn 7])],[.a Yq1],[.c (.p di)],qc [qn 2,qi,qn 74],[],[],0⟩
def Yg4:=mkC Yg3 prog 22 F22
theorem ok22:Yg4.ok prog 22:=mkO ⟨ok44,ok45,ok46,ok47,trivial⟩
def Zjb(a0:Yy1):Option (Int×Unit):=Yg4.fn (a0,())
def Zoe(n:Nat)(x0:Int)(x1:Yy4)(x2:Yy6)(x3:Bool)(x4:Yy4)(x5 x6 x7:Int)(x8:Bool)(x9:Int)(x10:Yy7)(x11:Yy4)(x12:(List Yy2))(x13:(List Yy3)):Option (Int×Unit):=itr Yg3 prog 22 F22 n 7 (x0,x1,x2,x3,x4,x5,x6,x7,x8,x9,x10,x11,x12,x13,())
def Zeg(n:Nat)(x0:Int)(x1:Yy4)(x2:Yy6)(x3:Bool)(x4:Yy4)(x5 x6 x7:Int)(x8:Bool)(x9:Int)(x10:Yy7)(x11:Yy4)(x12:(List Yy2))(x13 x14:(List Yy3))(x15 x16:Int):Option (Int×Unit):=itr Yg3 prog 22 F22 n 9 (x0,x1,x2,x3,x4,x5,x6,x7,x8,x9,x10,x11,x12,x13,x14,x15,x16,())
def Zdc(n:Nat)(x0:Int)(x1:Yy4)(x2:Yy6)(x3:Bool)(x4:Yy4)(x5 x6 x7:Int)(x8:Bool)(x9:Int)(x10:Yy7)(x11:Yy4)(x12:(List Yy2))(x13:(List Yy3))(x14 x15:Int):Option (Int×Unit):=itr Yg3 prog 22 F22 n 18 (x0,x1,x2,x3,x4,x5,x6,x7,x8,x9,x10,x11,x12,x13,x14,x15,())
theorem Z5s a0:Eq (Zjb a0)<|(Yk (a0.1,a0.2.1,a0.2.2.1,a0.2.2.2.1,a0.2.2.2.2.1,a0.2.2.2.2.2.1,a0.2.2.2.2.2.2.1,a0.2.2.2.2.2.2.2.1,a0.2.2.2.2.2.2.2.2.1,a0.2.2.2.2.2.2.2.2.2.1,())).bind λe0=>bif e0.2.1 !=0 then some (8,())else(Za9 (a0.2.2.2.2.2.2.2.2.2.2.1,a0.2.2.2.2.2.2.2.2.2.2.2.1,())).bind λe1=>bif e1.1 !=0 then some (8,())else bif ofNat a0.2.2.2.2.2.2.2.2.2.2.2.2.1.length !=ofNat a0.2.2.2.2.2.2.2.2.2.2.1.length then some (8,())else bif ofNat a0.2.2.2.2.2.2.2.2.2.2.2.2.2.1.length !=ofNat a0.2.2.2.2.2.2.2.2.2.2.2.1.length then some (8,())else Zeg fuel a0.1 a0.2.1 a0.2.2.1 a0.2.2.2.1 a0.2.2.2.2.1 a0.2.2.2.2.2.1 a0.2.2.2.2.2.2.1 a0.2.2.2.2.2.2.2.1 a0.2.2.2.2.2.2.2.2.1 a0.2.2.2.2.2.2.2.2.2.1 a0.2.2.2.2.2.2.2.2.2.2.1 a0.2.2.2.2.2.2.2.2.2.2.2.1 a0.2.2.2.2.2.2.2.2.2.2.2.2.1 a0.2.2.2.2.2.2.2.2.2.2.2.2.2.1 a0.2.2.2.2.2.2.2.2.2.2.2.2.2.1 (ofNat a0.2.2.2.2.2.2.2.2.2.2.2.2.2.1.length) 0:=mkE
theorem Z0y n x0 x1 x2 x3 x4 x5 x6 x7 x8 x9 x10 x11 x12 x13:Eq (Zoe (n+1) x0 x1 x2 x3 x4 x5 x6 x7 x8 x9 x10 x11 x12 x13)<|Zdc n x0 x1 x2 x3 x4 x5 x6 x7 x8 x9 x10 x11 x12 x13 (ofNat x12.length) 0:=mkI
theorem Zof n x0 x1 x2 x3 x4 x5 x6 x7 x8 x9 x10 x11 x12 x13 x14 x15 x16:Eq (Zeg (n+1) x0 x1 x2 x3 x4 x5 x6 x7 x8 x9 x10 x11 x12 x13 x14 x15 x16)<|bif x16<x15 then ix x14 x16 λe0=>ix x11 x16 λe1=>bif e0.1 !=e1.2.2.2.2.1 then some (8,())else(Yo e0).bind λe2=>bif e2.1 !=0 then some (8,())else Zeg n x0 x1 x2 x3 x4 x5 x6 x7 x8 x9 x10 x11 x12 x13 x14 x15 (wrap .i64 (x16+1))else Zoe n x0 x1 x2 x3 x4 x5 x6 x7 x8 x9 x10 x11 x12 x13:=mkI
theorem Zmm n x0 x1 x2 x3 x4 x5 x6 x7 x8 x9 x10 x11 x12 x13 x14 x15:Eq (Zdc (n+1) x0 x1 x2 x3 x4 x5 x6 x7 x8 x9 x10 x11 x12 x13 x14 x15)<|bif x15<x14 then(Zr8 (x0,x1,x2,x3,x4,x5,x6,x7,x8,x9,x10,x11,x12,x13,()) x15).bind λe0=>bif !e0.1 then some (8,())else Zdc n x0 x1 x2 x3 x4 x5 x6 x7 x8 x9 x10 x11 x12 x13 x14 (wrap .i64 (x15+1))else some (0,()):=mkI
def Yzp:Tb:=[(22,Yg4)]
def F15:TFun:=⟨[],[],[.a Yq1,.c di],[.c (.p di)],qc [qn 4,qi,qn 15],[],[],0⟩
def Yg5:=mkC Yzp prog 15 F15
theorem ok15:Yg5.ok prog 15:=mkO ⟨ok22,trivial⟩
def Zgi(a0:Yy1)(a1:Int):Option (Int×Unit):=Yg5.fn (a0,a1,())
theorem Zjc a0 a1:Eq (Zgi a0 a1)<|(Zjb a0).bind λe0=>bif e0.1 !=0 then some (e0.1,())else bif a1<0 then some (51,())else bif a1>=ofNat a0.2.2.2.2.2.2.2.2.2.2.2.2.1.length then some (51,())else some (0,()):=mkE
end
end Tg
