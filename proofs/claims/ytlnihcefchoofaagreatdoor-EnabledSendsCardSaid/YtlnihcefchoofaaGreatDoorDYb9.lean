import Derived.Test.YtlnihcefchoofaaGreatDoorDVb4
import Derived.Test.YtlnihcefchoofaaGreatDoorDSP
import Derived.Test.YtlnihcefchoofaaGreatDoorDVb3
import Derived.Test.YtlnihcefchoofaaGreatDoorDXb6
set_option linter.all false
set_option maxRecDepth 100000
namespace Tg
noncomputable section
open Go.Abs hiding fuel
open Go.Proofs.Tryz (prog)
open Int (ofNat toNat)
open Go.IntKind (wrap)
abbrev Zym:List Go.Abs.SC:=[.p (.int .u8),.p (.sl Yq4),.p (.sl Yq7),.p db,.p (.sl Yq4),.p (.int .u8),.p di,.p di,.p db,.p (.int .u8),.p (.sl Yq8),.p (.sl Yq5),.p (.sl Yq2),.p (.sl Yq3)]
def Ydw:Tb:=[]
def F119:TFun:=⟨[],[(4,qc [qn 1,qi,qb,[.boxN 31 2 [.any,.p (.sl Yq5)]],qn 3,[.c (.rowN 3 1 Yq7)],qi,qn 52]),(9,qc [qn 1,qi,qb,[.boxN 31 2 [.any,.p (.sl Yq5)]],qn 3,[.c (.rowN 3 1 Yq7)],qi,qi,qn 51])],[.a [.sl Yq8,.sl Yq5],.c di,.c db],[.c (.s 3 1 Yq7)],qc [qn 6,[.c (.rowN 3 1 Yq7)],qn 54],[],[],0⟩
def Zyn:=mkC Ydw prog 118 F119
theorem Yz9:Zyn.ok prog 118:=mkO trivial
def Z56:TCon:=⟨Zyn.args,[.c (.p (.sl Yq7))],Zyn.fn⟩
theorem Yn6:Z56.ok prog 118:=TCon.frz (c:=Zyn) Yz9 rfl
def Zfq(a0:(List (Int×Int×Unit)×List (Int×Int×Int×Int×Int×Unit)×Unit))(a1:Int)(a2:Bool):Option (List (Int×Unit)×Unit):=Zyn.fn (a0,a1,a2,())
def Zar(n:Nat)(x0:Int)(x1:Bool)(x2:Yy4)(x3:Yy6)(x4:Int):Option (List (Int×Unit)×Unit):=itr Ydw prog 118 F119 n 4 (x0,x1,x2,x3,x4,())
def Z4(n:Nat)(x0:Int)(x1:Bool)(x2:Yy4)(x3:Yy6)(x4 x5:Int):Option (List (Int×Unit)×Unit):=itr Ydw prog 118 F119 n 9 (x0,x1,x2,x3,x4,x5,())
theorem Zyo a0 a1 a2:Eq (Zfq a0 a1 a2)<|Zar fuel a1 a2 a0.2.1 ([]) 0:=mkE
theorem Zke n x0 x1 x2 x3 x4:Eq (Zar (n+1) x0 x1 x2 x3 x4)<|bif x4<20 then Z4 n x0 x1 x2 x3 x4 0 else some (x3,()):=mkI
theorem Zkf n x0 x1 x2 x3 x4 x5:Eq (Z4 (n+1) x0 x1 x2 x3 x4 x5)<|bif x5<ofNat x2.length then ix x2 x5 λe0=>let k1:=let k3:=Z4 n x0 x1 x2 x3 x4 (wrap .i64 (x5+1));bif !x1 then bif e0.1==x0 then bif e0.2.1==x4 then bif Ze (x3.length+List.length [(x5,())]) 8 then Z4 n x0 x1 x2 (x3++[(x5,())]) x4 (wrap .i64 (x5+1))else none else k3 else k3 else k3;bif x1 then bif e0.2.2.1==x0 then bif e0.2.2.2.1==x4 then bif Ze (x3.length+List.length [(x5,())]) 8 then Z4 n x0 x1 x2 (x3++[(x5,())]) x4 (wrap .i64 (x5+1))else none else k1 else k1 else k1 else Zar n x0 x1 x2 x3 (wrap .i64 (x4+1)):=mkI
def Y0a:Tb:=[(118,Z56)]
def F54:TFun:=⟨[],[],[.a Yq1,.c di],[.c (.p (.sl Yq7))],qc [qn 4,[.c (.p (.sl Yq7))],qn 4],[],[],0⟩
def Yn7:=mkC Y0a prog 53 F54
theorem ok54:Yn7.ok prog 53:=mkO ⟨Yn6,trivial⟩
def Zpp(a0:Yy1)(a1:Int):Option (List (Int×Unit)×Unit):=Yn7.fn (a0,a1,())
theorem Z57 a0 a1:Eq (Zpp a0 a1)<|(Zfq (a0.2.2.2.2.2.2.2.2.2.2.1,a0.2.2.2.2.2.2.2.2.2.2.2.1,()) a1 false).bind λe0=>some (e0.1,()):=mkE
def Y0b:Tb:=[(118,Z56)]
def F55:TFun:=⟨[],[],[.a Yq1,.c di],[.c (.p (.sl Yq7))],qc [qn 4,[.c (.p (.sl Yq7))],qn 4],[],[],0⟩
def Yn8:=mkC Y0b prog 54 F55
theorem ok55:Yn8.ok prog 54:=mkO ⟨Yn6,trivial⟩
def Zn0(a0:Yy1)(a1:Int):Option (List (Int×Unit)×Unit):=Yn8.fn (a0,a1,())
theorem Z9n a0 a1:Eq (Zn0 a0 a1)<|(Zfq (a0.2.2.2.2.2.2.2.2.2.2.1,a0.2.2.2.2.2.2.2.2.2.2.2.1,()) a1 true).bind λe0=>some (e0.1,()):=mkE
def Yn9:Tb:=[(52,Ym5),(53,Yn7),(54,Yn8)]
def F30:TFun:=⟨[7],[(7,qc [qn 1,qi,[.boxN 35 14 Zym],qn 2,[.boxN 56 9 [.p (.int .u8),.any,.any,.any,.p (.sl Yq7),.any,.any,.any,.any]],qi,qn 100]),(9,qc [qn 1,qi,[.boxN 35 14 Zym],qn 2,[.boxN 56 9 [.p (.int .u8),.any,.any,.p (.sl Yq6),.p (.sl Yq7),.any,.any,.any,.any]],qi,qi,qn 99])],[.a Yq1,.c di],[.c (.p db)],qc [qn 4,qb,qn 102],[],[],0⟩
def Yoa:=mkC Yn9 prog 29 F30
theorem ok30:Yoa.ok prog 29:=mkO ⟨ok53,ok54,ok55,trivial⟩
def Zjk(a0:Yy1)(a1:Int):Option (Bool×Unit):=Yoa.fn (a0,a1,())
def Zkg(n:Nat)(x0 x1:Int)(x2:Yy4)(x3:Yy6)(x4:Bool)(x5:Yy4)(x6 x7 x8:Int)(x9:Bool)(x10:Int)(x11:Yy7)(x12:Yy4)(x13:(List Yy2))(x14:(List Yy3))(x15:Int)(x16:Yy6)(x17:Int):Option (Bool×Unit):=itr Yn9 prog 29 F30 n 7 (x0,x1,x2,x3,x4,x5,x6,x7,x8,x9,x10,x11,x12,x13,x14,x15,x16,x17,())
def Zb5(n:Nat)(x0 x1:Int)(x2:Yy4)(x3:Yy6)(x4:Bool)(x5:Yy4)(x6 x7 x8:Int)(x9:Bool)(x10:Int)(x11:Yy7)(x12:Yy4)(x13:(List Yy2))(x14:(List Yy3))(x15:Int)(x16:Yy5)(x17:Yy6)(x18 x19:Int):Option (Bool×Unit):=itr Yn9 prog 29 F30 n 9 (x0,x1,x2,x3,x4,x5,x6,x7,x8,x9,x10,x11,x12,x13,x14,x15,x16,x17,x18,x19,())
theorem Zyp a0 a1:Eq (Zjk a0 a1)<|ix a0.2.2.2.2.2.2.2.2.2.2.2.2.1 a1 λe0=>ix a0.2.2.2.2.2.2.2.2.2.2.1 a1 λe1=>bif !(e0.1==e1.1&&(e0.2.1==e1.2.1&&true))then some (false,())else(Zhl e0).bind λe2=>bif e2.1 !=0 then some (false,())else(Zpp a0 a1).bind λe3=>Zb5 fuel a1 a0.1 a0.2.1 a0.2.2.1 a0.2.2.2.1 a0.2.2.2.2.1 a0.2.2.2.2.2.1 a0.2.2.2.2.2.2.1 a0.2.2.2.2.2.2.2.1 a0.2.2.2.2.2.2.2.2.1 a0.2.2.2.2.2.2.2.2.2.1 a0.2.2.2.2.2.2.2.2.2.2.1 a0.2.2.2.2.2.2.2.2.2.2.2.1 a0.2.2.2.2.2.2.2.2.2.2.2.2.1 a0.2.2.2.2.2.2.2.2.2.2.2.2.2.1 e0.1 e0.2.2.2.1 e0.2.2.2.2.1 (ofNat e3.1.length) 0:=mkE
theorem Zuk n x0 x1 x2 x3 x4 x5 x6 x7 x8 x9 x10 x11 x12 x13 x14 x15 x16 x17:Eq (Zkg (n+1) x0 x1 x2 x3 x4 x5 x6 x7 x8 x9 x10 x11 x12 x13 x14 x15 x16 x17)<|let k1:=(Zn0 (x1,x2,x3,x4,x5,x6,x7,x8,x9,x10,x11,x12,x13,x14,()) x0).bind λe0=>let k3:=bif x15 !=5 then some (true,())else bif ofNat e0.1.length==2 then some (x4,())else some (false,());bif x15 !=4 then k3 else bif ofNat x16.length==ofNat e0.1.length then bif !x4 then k3 else some (false,())else some (false,());bif x15==2 then let k4:=bif x17 !=2 then some (false,())else bif !x10==2 then some (false,())else k1;bif x17 !=1 then k4 else bif x10==2 then k4 else k1 else k1:=mkI
theorem Zkh n x0 x1 x2 x3 x4 x5 x6 x7 x8 x9 x10 x11 x12 x13 x14 x15 x16 x17 x18 x19:Eq (Zb5 (n+1) x0 x1 x2 x3 x4 x5 x6 x7 x8 x9 x10 x11 x12 x13 x14 x15 x16 x17 x18 x19)<|bif x19<ofNat x16.length then ix x16 x19 λe0=>bif e0.1>=x18 then some (false,())else Zb5 n x0 x1 x2 x3 x4 x5 x6 x7 x8 x9 x10 x11 x12 x13 x14 x15 x16 x17 x18 (wrap .i64 (x19+1))else Zkg n x0 x1 x2 x3 x4 x5 x6 x7 x8 x9 x10 x11 x12 x13 x14 x15 x17 x18:=mkI
def Yhh:Tb:=[(26,Ymq),(27,Ymx),(28,Ym0),(29,Yoa)]
def F14:TFun:=⟨[6],[(6,qc [qn 1,[.boxN 35 14 Zym],qn 74]),(8,qc [qn 1,[.boxN 35 14 Zym],qn 1,qi,qn 72]),(16,qc [qn 1,[.boxN 35 14 Zym],qn 2,qi,qn 71])],[.a Yq1],[.c (.p di)],qc [qn 2,qi,qn 73],[],[],0⟩
def Yob:=mkC Yhh prog 12 F14
theorem ok14:Yob.ok prog 12:=mkO ⟨ok27,ok28,ok29,ok30,trivial⟩
def Zmv(a0:Yy1):Option (Int×Unit):=Yob.fn (a0,())
def Zmw(n:Nat)(x0:Int)(x1:Yy4)(x2:Yy6)(x3:Bool)(x4:Yy4)(x5 x6 x7:Int)(x8:Bool)(x9:Int)(x10:Yy7)(x11:Yy4)(x12:(List Yy2))(x13:(List Yy3)):Option (Int×Unit):=itr Yhh prog 12 F14 n 6 (x0,x1,x2,x3,x4,x5,x6,x7,x8,x9,x10,x11,x12,x13,())
def Zdd(n:Nat)(x0:Int)(x1:Yy4)(x2:Yy6)(x3:Bool)(x4:Yy4)(x5 x6 x7:Int)(x8:Bool)(x9:Int)(x10:Yy7)(x11:Yy4)(x12:(List Yy2))(x13:(List Yy3))(x14:Int):Option (Int×Unit):=itr Yhh prog 12 F14 n 8 (x0,x1,x2,x3,x4,x5,x6,x7,x8,x9,x10,x11,x12,x13,x14,())
def Zb6(n:Nat)(x0:Int)(x1:Yy4)(x2:Yy6)(x3:Bool)(x4:Yy4)(x5 x6 x7:Int)(x8:Bool)(x9:Int)(x10:Yy7)(x11:Yy4)(x12:(List Yy2))(x13:(List Yy3))(x14:Int):Option (Int×Unit):=itr Yhh prog 12 F14 n 16 (x0,x1,x2,x3,x4,x5,x6,x7,x8,x9,x10,x11,x12,x13,x14,())
theorem Z1f a0:Eq (Zmv a0)<|(Zc6 (a0.1,a0.2.1,a0.2.2.1,a0.2.2.2.1,a0.2.2.2.2.1,a0.2.2.2.2.2.1,a0.2.2.2.2.2.2.1,a0.2.2.2.2.2.2.2.1,a0.2.2.2.2.2.2.2.2.1,a0.2.2.2.2.2.2.2.2.2.1,())).bind λe0=>bif !e0.1 then some (8,())else(Zhj (a0.2.2.2.2.2.2.2.2.2.2.1,a0.2.2.2.2.2.2.2.2.2.2.2.1,())).bind λe1=>bif e1.1 !=0 then some (8,())else bif ofNat a0.2.2.2.2.2.2.2.2.2.2.2.2.1.length !=ofNat a0.2.2.2.2.2.2.2.2.2.2.1.length then some (8,())else bif ofNat a0.2.2.2.2.2.2.2.2.2.2.2.2.2.1.length !=ofNat a0.2.2.2.2.2.2.2.2.2.2.2.1.length then some (8,())else Zdd fuel a0.1 a0.2.1 a0.2.2.1 a0.2.2.2.1 a0.2.2.2.2.1 a0.2.2.2.2.2.1 a0.2.2.2.2.2.2.1 a0.2.2.2.2.2.2.2.1 a0.2.2.2.2.2.2.2.2.1 a0.2.2.2.2.2.2.2.2.2.1 a0.2.2.2.2.2.2.2.2.2.2.1 a0.2.2.2.2.2.2.2.2.2.2.2.1 a0.2.2.2.2.2.2.2.2.2.2.2.2.1 a0.2.2.2.2.2.2.2.2.2.2.2.2.2.1 0:=mkE
theorem Zyq n x0 x1 x2 x3 x4 x5 x6 x7 x8 x9 x10 x11 x12 x13:Eq (Zmw (n+1) x0 x1 x2 x3 x4 x5 x6 x7 x8 x9 x10 x11 x12 x13)<|Zb6 n x0 x1 x2 x3 x4 x5 x6 x7 x8 x9 x10 x11 x12 x13 0:=mkI
theorem Zmx n x0 x1 x2 x3 x4 x5 x6 x7 x8 x9 x10 x11 x12 x13 x14:Eq (Zdd (n+1) x0 x1 x2 x3 x4 x5 x6 x7 x8 x9 x10 x11 x12 x13 x14)<|bif x14<ofNat x13.length then ix x13 x14 λe0=>ix x11 x14 λe1=>bif e0.1 !=e1.2.2.2.2.1 then some (8,())else ix x13 x14 λe2=>(Zma e2).bind λe3=>bif e3.1 !=0 then some (8,())else Zdd n x0 x1 x2 x3 x4 x5 x6 x7 x8 x9 x10 x11 x12 x13 (wrap .i64 (x14+1))else Zmw n x0 x1 x2 x3 x4 x5 x6 x7 x8 x9 x10 x11 x12 x13:=mkI
theorem Zki n x0 x1 x2 x3 x4 x5 x6 x7 x8 x9 x10 x11 x12 x13 x14:Eq (Zb6 (n+1) x0 x1 x2 x3 x4 x5 x6 x7 x8 x9 x10 x11 x12 x13 x14)<|bif x14<ofNat x12.length then(Zjk (x0,x1,x2,x3,x4,x5,x6,x7,x8,x9,x10,x11,x12,x13,()) x14).bind λe0=>bif !e0.1 then some (8,())else Zb6 n x0 x1 x2 x3 x4 x5 x6 x7 x8 x9 x10 x11 x12 x13 (wrap .i64 (x14+1))else some (0,()):=mkI
end
end Tg
namespace Tg
open Go
open Go.Abs (Ze Zj tmm)
def hitP(b:Bool)(op pl:Int)(c:Cn):Bool:=decide (Tj.selF b c=op)&&decide (Tj.keyF b c=pl)
def hits(b:Bool)(op pl:Int):Nat->List Cn->List (Int×Unit)|_,[]=>[]|i,c::r=>(bif hitP b op pl c then[((i:Int),())]else[])++hits b op pl (i+1) r
theorem Z9o(b:Bool)(op pl:Int):∀(r:List Cn) (i:Nat),(hits b op pl i r).length<=r.length|[],_=>Nat.le_refl _|c::r,i=>by have:=Z9o b op pl r (i+1);rw[hits];grind
theorem Yhi(b:Bool)(op:Int)(pl:Nat)(chs:List Cn):∀(r:List Cn) (k:Nat),chs.drop k=r->hits b op pl k r=(((List.range' k r.length)).filter λi=>(chs[i]?).any λc=>decide (Tj.selF b c=op)&&decide (Tj.keyF b c=(pl:Int))).map λi:Nat=>((i:Int),())|[],_,_=>rfl|c::r,k,h=>by obtain⟨h1,h2,h3⟩:=Za3 h;rw[hits,Yhi b op pl chs r (k+1) h3,J0p,List.range'_succ,List.filter_cons,h2];grind[hitP]
theorem Yoc(b:Bool)(x:Gr)(op:Int):joinL b x op=(List.range 20).flatMap λpl:Nat=>hits b op pl 0 x.2.1:=by unfold joinL Tj.Zq1;rw[List.map_flatMap];congr 1;funext pl;rw[Yhi b op pl x.2.1 x.2.1 0 rfl,List.range_eq_range']
theorem Yhj(b:Bool)(op:Int)(pl:Nat)(chs:List Cn)(hl:chs.length<=1000)(hp:pl<=100):∀(r:List Cn) (i m:Nat) (out:List (Int×Unit)),chs.drop i=r->i<=chs.length->out.length+r.length<=100000 ->
    Z4 (m+r.length+1) op b chs out (pl:Int) (i:Int)=Zar m op b chs (out++hits b op pl i r) ((pl+1:Nat):Int)
  |[],i,m,out,h,hi,ho=>by grind[Zkf,wS,hits]|c::r,i,m,out,h,hi,ho=>by
   obtain⟨h1,h2,h3⟩:=Za3 h;simp only[J0p]at ho ⊢;have ih:=λo (ho2:o.length+r.length<=100000)=>Yhj b op pl chs hl hp r (i+1) m o h3 (by omega) ho2;have hb:Ze (out.length+[((i:Int),())].length) 8=true:=Xe (by grind) (by omega);have e:Z4 (m+(r.length+1)+1) op b chs out (pl:Int) (i:Int)=bif hitP b op pl c then Z4 (m+r.length+1) op b chs (out++[((i:Int),())]) (pl:Int) ((i+1:Nat):Int)else Z4 (m+r.length+1) op b chs out (pl:Int) ((i+1:Nat):Int):=by rw[show m+(r.length+1)+1=(m+r.length+1)+1 by omega];rw[Zkf];simp only[ltL h2,cond_true,ix_s h2,wS (show i<1000000000000 by omega),hb];generalize Z4 (m+r.length+1) op b chs (out++[((i:Int),())]) (pl:Int) ((i+1:Nat):Int)=Z1;generalize Z4 (m+r.length+1) op b chs out (pl:Int) ((i+1:Nat):Int)=Z2;grind[hitP,Tj.selF,Tj.keyF]
   grind[hits]
theorem Yhk(b:Bool)(op:Int)(chs:List Cn)(hl:chs.length<=1000):∀(k pl n:Nat) (out:List (Int×Unit)),pl+k=20->out.length+1000*k<=30000->k*(chs.length+2)+1<=n ->
    Zar n op b chs out (pl:Int)=some (out++(List.range' pl k).flatMap (λq:Nat=>hits b op q 0 chs),())
  |0,pl,n,out,hp,ho,hn=>by obtain⟨m,rfl⟩:∃m,n=m+1:=⟨n-1,by omega⟩;grind[Zke]|k+1,pl,n,out,hp,ho,hn=>by
   have he:(k+1)*(chs.length+2)=k*(chs.length+2)+(chs.length+2):=by grind
   obtain⟨m,rfl⟩:∃m,n=(m+chs.length+1)+1:=⟨n-chs.length-2,by omega⟩;have hh:=Z9o b op pl chs 0;have hpl:decide ((pl:Int)<20)=true:=decide_eq_true (by omega);have:=Yhj b op pl chs hl (by omega) chs 0 m out rfl (by omega) (by omega);simp only[Int.natCast_zero]at this;rw[Zke,hpl,cond_true,this,Yhk b op chs hl k (pl+1) m _ (by omega) (by grind) (by omega),List.range'_succ,List.flatMap_cons,List.append_assoc]
theorem Z9p(x:Gr)(op:Int)(b:Bool)(hl:x.2.1.length<=1000):Zfq x op b=some (joinL b x op,()):=by rw[Zyo,Yoc,List.range_eq_range'];have hf:=Zr;have:=Yhk b op x.2.1 hl 20 0 fuel [] rfl (by simp) (by omega);grind
end Tg
namespace Tg
noncomputable section
open Go.Abs hiding fuel
open Go.Proofs.Tryz (prog)
open Int (ofNat toNat)
open Go.IntKind (wrap)
abbrev Ydx:List Go.Abs.SC:=[.p (.int .u8),.p (.sl Yq4),.p (.sl Yq7),.p db,.p (.sl Yq4),.p (.int .u8),.p di,.p di,.p db,.p (.int .u8),.p (.sl Yq8),.p (.sl Yq5),.p (.sl Yq2),.p (.sl Yq3)]
abbrev Ydy:List Go.Abs.SC:=[.any,.any,.any,.any,.any,.any,.any,.any,.any,.any,.any,.any,.any,.p (.sl Yq3)]
abbrev Yod:List Go.Abs.SC:=[.any,.any,.any,.p db,.any,.any,.any,.any,.any,.p (.int .u8),.any,.any,.any,.any]
abbrev Yoe:List Go.Abs.SC:=[.p (.int .u8),.any,.any,.any,.p (.sl Yq7),.any,.any,.any,.any]
def Yt7:Tb:=[]
def F19:TFun:=⟨[],[(4,qc [qn 2,[.boxN 35 14 Ydy],qn 2,[.c (.rowN 64 2 Yq3)],qn 2,[.c (.p (.sl Yq7))],qi,qi,qn 13])],[.a Yq1,.c (.sl Yq7)],[.c (.s 64 2 Yq3)],qc [qn 4,[.c (.rowN 64 2 Yq3)],qn 19],[],[],0⟩
def Z9q:=mkC Yt7 prog 19 F19
theorem ok19:Z9q.ok prog 19:=mkO trivial
def Z58:TCon:=⟨Z9q.args,[.c (.p (.sl Yq3))],Z9q.fn⟩
theorem Yof:Z58.ok prog 19:=TCon.frz (c:=Z9q) ok19 rfl
def Zcm(a0:Yy1)(a1:Yy6):Option (List Yy3×Unit):=Z9q.fn (a0,a1,())
def Zde(n:Nat)(x0 x1:(List Yy3))(x2:Yy6)(x3 x4:Int):Option (List Yy3×Unit):=itr Yt7 prog 19 F19 n 4 (x0,x1,x2,x3,x4,())
theorem Z1g a0 a1:Eq (Zcm a0 a1)<|Zde fuel a0.2.2.2.2.2.2.2.2.2.2.2.2.2.1 ([]) a1 (ofNat a1.length) 0:=mkE
theorem Zmy n x0 x1 x2 x3 x4:Eq (Zde (n+1) x0 x1 x2 x3 x4)<|bif x4<x3 then ix x2 x4 λe0=>ix x0 e0.1 λe1=>bif Ze (x1.length+List.length [e1]) 32 then Zde n x0 (x1++[e1]) x2 x3 (wrap .i64 (x4+1))else none else some (x1,()):=mkI
def Yog:Tb:=[(62,Zol),(20,Zyg),(35,Zyh)]
def F47:TFun:=⟨[6],[(6,qc [qn 2,[.boxN 35 14 Yod],qn 2,[.boxN 56 9 Yoe],qi,qi,qn 78]),(8,qc [qn 2,[.boxN 35 14 Yod],qn 2,[.boxN 56 9 Yoe],qi,qi,qn 33,[.c (.p (.sl Yq6))],qi,qi,qn 42])],[.a Yq1,.c di],[.c (.p db)],qc [qn 4,qb,qn 81],[],[],0⟩
def Yoh:=mkC Yog prog 33 F47
theorem ok47:Yoh.ok prog 33:=mkO ⟨ok66,Yhc,Yhd,trivial⟩
def Zsk(a0:Yy1)(a1:Int):Option (Bool×Unit):=Yoh.fn (a0,a1,())
def Zq3(n:Nat)(x0:Bool)(x1 x2:Int)(x3:Yy6)(x4 x5:Int):Option (Bool×Unit):=itr Yog prog 33 F47 n 6 (x0,x1,x2,x3,x4,x5,())
def Zfr(n:Nat)(x0:Bool)(x1 x2:Int)(x3:Yy6)(x4 x5:Int)(x6:Yy5)(x7 x8:Int):Option (Bool×Unit):=itr Yog prog 33 F47 n 8 (x0,x1,x2,x3,x4,x5,x6,x7,x8,())
theorem Z9r a0 a1:Eq (Zsk a0 a1)<|ix a0.2.2.2.2.2.2.2.2.2.2.2.2.1 a1 λe0=>ix a0.2.2.2.2.2.2.2.2.2.2.1 a1 λe1=>bif !(e0.1==e1.1&&(e0.2.1==e1.2.1&&true))then some (false,())else(Yu e0).bind λe2=>bif e2.1 !=0 then some (false,())else(Yo (a0.2.2.2.2.2.2.2.2.2.2.1,a0.2.2.2.2.2.2.2.2.2.2.2.1,()) a1).bind λe3=>(Ya (a0.2.2.2.2.2.2.2.2.2.2.1,a0.2.2.2.2.2.2.2.2.2.2.2.1,()) a1).bind λe4=>Zfr fuel a0.2.2.2.1 a0.2.2.2.2.2.2.2.2.2.1 e0.1 e0.2.2.2.2.1 (ofNat e3.1.length) (ofNat e4.1.length) e0.2.2.2.1 (ofNat e0.2.2.2.1.length) 0:=mkE
theorem Z59 n x0 x1 x2 x3 x4 x5:Eq (Zq3 (n+1) x0 x1 x2 x3 x4 x5)<|bif x2==2 then bif x1==2 then some (x5==2,())else some (x5==1,())else bif x2==4 then bif ofNat x3.length==x4 then some (!x0,())else some (false,())else bif x2==5 then bif x4==2 then some (x0,())else some (false,())else some (true,()):=mkI
theorem Zq4 n x0 x1 x2 x3 x4 x5 x6 x7 x8:Eq (Zfr (n+1) x0 x1 x2 x3 x4 x5 x6 x7 x8)<|bif x8<x7 then ix x6 x8 λe0=>bif e0.1>=x5 then some (false,())else Zfr n x0 x1 x2 x3 x4 x5 x6 x7 (wrap .i64 (x8+1))else Zq3 n x0 x1 x2 x3 x4 x5:=mkI
def Yhl:Tb:=[(30,Z3c),(31,Yt3),(32,Z3a),(33,Yoh)]
def F22:TFun:=⟨[7],[(7,qc [qn 1,[.boxN 35 14 Ydx],qn 75]),(9,qc [qn 1,[.boxN 35 14 Ydx],qn 41,[.c (.p (.sl Yq3))],qi,qi,qn 31]),(18,qc [qn 1,[.boxN 35 14 Ydx],qn 66,qi,qi,qn 7])],[.a Yq1],[.c (.p di)],qc [qn 2,qi,qn 74],[],[],0⟩
def Z9s:=mkC Yhl prog 13 F22
theorem ok22:Z9s.ok prog 13:=mkO ⟨ok44,ok45,ok46,ok47,trivial⟩
def Zgt(a0:Yy1):Option (Int×Unit):=Z9s.fn (a0,())
def Zop(n:Nat)(x0:Int)(x1:Yy4)(x2:Yy6)(x3:Bool)(x4:Yy4)(x5 x6 x7:Int)(x8:Bool)(x9:Int)(x10:Yy7)(x11:Yy4)(x12:(List Yy2))(x13:(List Yy3)):Option (Int×Unit):=itr Yhl prog 13 F22 n 7 (x0,x1,x2,x3,x4,x5,x6,x7,x8,x9,x10,x11,x12,x13,())
def Zeo(n:Nat)(x0:Int)(x1:Yy4)(x2:Yy6)(x3:Bool)(x4:Yy4)(x5 x6 x7:Int)(x8:Bool)(x9:Int)(x10:Yy7)(x11:Yy4)(x12:(List Yy2))(x13 x14:(List Yy3))(x15 x16:Int):Option (Int×Unit):=itr Yhl prog 13 F22 n 9 (x0,x1,x2,x3,x4,x5,x6,x7,x8,x9,x10,x11,x12,x13,x14,x15,x16,())
def Zdf(n:Nat)(x0:Int)(x1:Yy4)(x2:Yy6)(x3:Bool)(x4:Yy4)(x5 x6 x7:Int)(x8:Bool)(x9:Int)(x10:Yy7)(x11:Yy4)(x12:(List Yy2))(x13:(List Yy3))(x14 x15:Int):Option (Int×Unit):=itr Yhl prog 13 F22 n 18 (x0,x1,x2,x3,x4,x5,x6,x7,x8,x9,x10,x11,x12,x13,x14,x15,())
theorem Z6a a0:Eq (Zgt a0)<|(Yl (a0.1,a0.2.1,a0.2.2.1,a0.2.2.2.1,a0.2.2.2.2.1,a0.2.2.2.2.2.1,a0.2.2.2.2.2.2.1,a0.2.2.2.2.2.2.2.1,a0.2.2.2.2.2.2.2.2.1,a0.2.2.2.2.2.2.2.2.2.1,())).bind λe0=>bif e0.2.1 !=0 then some (8,())else(Za8 (a0.2.2.2.2.2.2.2.2.2.2.1,a0.2.2.2.2.2.2.2.2.2.2.2.1,())).bind λe1=>bif e1.1 !=0 then some (8,())else bif ofNat a0.2.2.2.2.2.2.2.2.2.2.2.2.1.length !=ofNat a0.2.2.2.2.2.2.2.2.2.2.1.length then some (8,())else bif ofNat a0.2.2.2.2.2.2.2.2.2.2.2.2.2.1.length !=ofNat a0.2.2.2.2.2.2.2.2.2.2.2.1.length then some (8,())else Zeo fuel a0.1 a0.2.1 a0.2.2.1 a0.2.2.2.1 a0.2.2.2.2.1 a0.2.2.2.2.2.1 a0.2.2.2.2.2.2.1 a0.2.2.2.2.2.2.2.1 a0.2.2.2.2.2.2.2.2.1 a0.2.2.2.2.2.2.2.2.2.1 a0.2.2.2.2.2.2.2.2.2.2.1 a0.2.2.2.2.2.2.2.2.2.2.2.1 a0.2.2.2.2.2.2.2.2.2.2.2.2.1 a0.2.2.2.2.2.2.2.2.2.2.2.2.2.1 a0.2.2.2.2.2.2.2.2.2.2.2.2.2.1 (ofNat a0.2.2.2.2.2.2.2.2.2.2.2.2.2.1.length) 0:=mkE
theorem Z1h n x0 x1 x2 x3 x4 x5 x6 x7 x8 x9 x10 x11 x12 x13:Eq (Zop (n+1) x0 x1 x2 x3 x4 x5 x6 x7 x8 x9 x10 x11 x12 x13)<|Zdf n x0 x1 x2 x3 x4 x5 x6 x7 x8 x9 x10 x11 x12 x13 (ofNat x12.length) 0:=mkI
theorem Zoq n x0 x1 x2 x3 x4 x5 x6 x7 x8 x9 x10 x11 x12 x13 x14 x15 x16:Eq (Zeo (n+1) x0 x1 x2 x3 x4 x5 x6 x7 x8 x9 x10 x11 x12 x13 x14 x15 x16)<|bif x16<x15 then ix x14 x16 λe0=>ix x11 x16 λe1=>bif e0.1 !=e1.2.2.2.2.1 then some (8,())else(Yp e0).bind λe2=>bif e2.1 !=0 then some (8,())else Zeo n x0 x1 x2 x3 x4 x5 x6 x7 x8 x9 x10 x11 x12 x13 x14 x15 (wrap .i64 (x16+1))else Zop n x0 x1 x2 x3 x4 x5 x6 x7 x8 x9 x10 x11 x12 x13:=mkI
theorem Zmz n x0 x1 x2 x3 x4 x5 x6 x7 x8 x9 x10 x11 x12 x13 x14 x15:Eq (Zdf (n+1) x0 x1 x2 x3 x4 x5 x6 x7 x8 x9 x10 x11 x12 x13 x14 x15)<|bif x15<x14 then(Zsk (x0,x1,x2,x3,x4,x5,x6,x7,x8,x9,x10,x11,x12,x13,()) x15).bind λe0=>bif !e0.1 then some (8,())else Zdf n x0 x1 x2 x3 x4 x5 x6 x7 x8 x9 x10 x11 x12 x13 x14 (wrap .i64 (x15+1))else some (0,()):=mkI
def Y0c:Tb:=[(13,Z9s)]
def F15:TFun:=⟨[],[],[.a Yq1,.c di],[.c (.p di)],qc [qn 4,qi,qn 15],[],[],0⟩
def Yhm:=mkC Y0c prog 15 F15
theorem ok15:Yhm.ok prog 15:=mkO ⟨ok22,trivial⟩
def Zjl(a0:Yy1)(a1:Int):Option (Int×Unit):=Yhm.fn (a0,a1,())
theorem Zq5 a0 a1:Eq (Zjl a0 a1)<|(Zgt a0).bind λe0=>bif e0.1 !=0 then some (e0.1,())else bif a1<0 then some (51,())else bif a1>=ofNat a0.2.2.2.2.2.2.2.2.2.2.2.2.1.length then some (51,())else some (0,()):=mkE
def Yhn:Tb:=[(13,Z9s)]
def F10:TFun:=⟨[7],[(7,qc [qn 1,[.boxN 35 14 Ydy],[.boxN 39 3 [.any,.any,.any]],qn 2,[.boxN 39 3 [.p di,.p di,.p di]],qn 48]),(9,qc [qn 1,[.boxN 35 14 Ydy],[.boxN 39 3 [.any,.any,.any]],qn 2,[.boxN 39 3 [.p di,.p di,.p di]],qn 11,[.c (.p (.sl Yq2))],qi,qi,qn 34]),(17,qc [qn 2,[.boxN 39 3 [.any,.any,.any]],qn 2,[.boxN 39 3 [.p di,.p di,.p di]],qn 33,[.c (.p (.sl Yq3))],qi,qi,qn 12])],[.a Yq1],[.a [.p di,.p di,.p di],.c (.p di)],qc [qn 2,[.boxN 39 3 [.p di,.p di,.p di]],qi,qn 50],[],[],0⟩
def Yoi:=mkC Yhn prog 6 F10
theorem ok10:Yoi.ok prog 6:=mkO ⟨ok22,trivial⟩
def Zbk(a0:Yy1):Option ((Int×Int×Int×Unit)×Int×Unit):=Yoi.fn (a0,())
def Zfe(n:Nat)(x0:(List Yy3))(x1 x2 x3:Int):Option ((Int×Int×Int×Unit)×Int×Unit):=itr Yhn prog 6 F10 n 7 (x0,x1,x2,x3,())
def Zb7(n:Nat)(x0:(List Yy3))(x1 x2 x3:Int)(x4:(List Yy2))(x5 x6:Int):Option ((Int×Int×Int×Unit)×Int×Unit):=itr Yhn prog 6 F10 n 9 (x0,x1,x2,x3,x4,x5,x6,())
def Zbl(n:Nat)(x0 x1 x2:Int)(x3:(List Yy3))(x4 x5:Int):Option ((Int×Int×Int×Unit)×Int×Unit):=itr Yhn prog 6 F10 n 17 (x0,x1,x2,x3,x4,x5,())
theorem Zyr a0:Eq (Zbk a0)<|(Zgt a0).bind λe0=>bif e0.1 !=0 then some (((0,0,0,()),e0.1,()))else Zb7 fuel a0.2.2.2.2.2.2.2.2.2.2.2.2.2.1 0 0 0 a0.2.2.2.2.2.2.2.2.2.2.2.2.1 (ofNat a0.2.2.2.2.2.2.2.2.2.2.2.2.1.length) 0:=mkE
theorem Zul n x0 x1 x2 x3:Eq (Zfe (n+1) x0 x1 x2 x3)<|Zbl n x1 x2 x3 x0 (ofNat x0.length) 0:=mkI
theorem Zkj n x0 x1 x2 x3 x4 x5 x6:Eq (Zb7 (n+1) x0 x1 x2 x3 x4 x5 x6)<|bif x6<x5 then ix x4 x6 λe0=>Zb7 n x0 (wrap .i64 (x1+ofNat e0.2.2.2.2.2.2.1.length)) (wrap .i64 (x2+ofNat e0.2.2.2.1.length)) x3 x4 x5 (wrap .i64 (x6+1))else Zfe n x0 x1 x2 x3:=mkI
theorem Zim n x0 x1 x2 x3 x4 x5:Eq (Zbl (n+1) x0 x1 x2 x3 x4 x5)<|bif x5<x4 then ix x3 x5 λe0=>Zbl n x0 x1 (wrap .i64 (x2+ofNat e0.2.1.length)) x3 x4 (wrap .i64 (x5+1))else some (((x0,x1,x2,()),0,())):=mkI
end
end Tg
