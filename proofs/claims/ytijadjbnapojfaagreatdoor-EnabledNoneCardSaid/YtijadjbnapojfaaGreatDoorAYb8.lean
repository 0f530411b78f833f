import Derived.Test.YtijadjbnapojfaaGreatDoorAVb4
import Derived.Test.YtijadjbnapojfaaGreatDoorASP
/- Functions of the code, told plainly and checked by the kernel. -/
set_option linter.unusedVariables false
set_option linter.unusedSimpArgs false
set_option maxRecDepth 100000
namespace Tg
noncomputable section
open Go.Abs hiding fuel
open Go.Proofs.Tryz (prog)
open Int (ofNat toNat)
open Go.IntKind (wrap)
def Z6o:Tb:=[]
def F120:TFun:=⟨[],[(4,qc [qn 1,qi,qb,[.boxN 31 2 [.any,.p (.sl Yq5)]],qn 3,[.c (.rowN 3 1 Yq7)],qi,qn 52]),(9,qc [qn 1,qi,qb,[.boxN 31 2 [.any,.p (.sl Yq5)]],qn 3,[.c (.rowN 3 1 Yq7)],qi,qi,qn 51])],[.a [.sl Yq8,.sl Yq5],.c di,.c db],[.c (.s 3 1 Yq7)],qc [qn 6,[.c (.rowN 3 1 Yq7)],qn 54],[],[],0⟩
def Zuc:=mkC Z6o prog 120 F120
theorem Ynn:Zuc.ok prog 120:=mkO trivial
def Z0g:TCon:=⟨Zuc.args,[.c (.p (.sl Yq7))],Zuc.fn⟩
theorem Yeu:Z0g.ok prog 120:=TCon.frz (c:=Zuc) Ynn rfl
def Zef (a0:(List (Int×Int×Unit)×List (Int×Int×Int×Int×Int×Unit)×Unit))(a1:Int)(a2:Bool):Option (List (Int×Unit)×Unit):=Zuc.fn (a0,a1,a2,())
def Zab (n:Nat)(x0:Int)(x1:Bool)(x2:Yy4)(x3:Yy6)(x4:Int):Option (List (Int×Unit)×Unit):=itr Z6o prog 120 F120 n 4 (x0,x1,x2,x3,x4,())
def Zz (n:Nat)(x0:Int)(x1:Bool)(x2:Yy4)(x3:Yy6)(x4 x5:Int):Option (List (Int×Unit)×Unit):=itr Z6o prog 120 F120 n 9 (x0,x1,x2,x3,x4,x5,())
theorem Zud a0 a1 a2:Eq (Zef a0 a1 a2) <| Zab fuel a1 a2 a0.2.1 ([]) 0:=mkE
theorem Zh8 n x0 x1 x2 x3 x4:Eq (Zab (n+1) x0 x1 x2 x3 x4) <| bif x4<20 then Zz n x0 x1 x2 x3 x4 0 else some (x3,()):=mkI
theorem Zh9 n x0 x1 x2 x3 x4 x5:Eq (Zz (n+1) x0 x1 x2 x3 x4 x5) <| bif x5<ofNat x2.length then ix x2 x5 fun e0=>let k1:=let k3:=Zz n x0 x1 x2 x3 x4 (wrap .i64 (x5+1));bif !x1 then bif e0.1==x0 then bif e0.2.1==x4 then bif Zl (x3.length+List.length [(x5,())]) 8 then Zz n x0 x1 x2 (x3++[(x5,())]) x4 (wrap .i64 (x5+1)) else none else k3 else k3 else k3;bif x1 then bif e0.2.2.1==x0 then bif e0.2.2.2.1==x4 then bif Zl (x3.length+List.length [(x5,())]) 8 then Zz n x0 x1 x2 (x3++[(x5,())]) x4 (wrap .i64 (x5+1)) else none else k1 else k1 else k1 else Zab n x0 x1 x2 x3 (wrap .i64 (x4+1)):=mkI
def Yno:Tb:=[(120,Z0g)]
def F55:TFun:=⟨[],[],[.a Yq1,.c di],[.c (.p (.sl Yq7))],qc [qn 4,[.c (.p (.sl Yq7))],qn 4],[],[],0⟩
def Yev:=mkC Yno prog 55 F55
theorem ok55:Yev.ok prog 55:=mkO ⟨Yeu,trivial⟩
def Zmw (a0:Yy1)(a1:Int):Option (List (Int×Unit)×Unit):=Yev.fn (a0,a1,())
theorem Z0h a0 a1:Eq (Zmw a0 a1) <| (Zef (a0.2.2.2.2.2.2.2.2.2.2.1,a0.2.2.2.2.2.2.2.2.2.2.2.1,()) a1 false).bind fun e0=>some (e0.1,()):=mkE
def Ynp:Tb:=[(120,Z0g)]
def F56:TFun:=⟨[],[],[.a Yq1,.c di],[.c (.p (.sl Yq7))],qc [qn 4,[.c (.p (.sl Yq7))],qn 4],[],[],0⟩
def Yew:=mkC Ynp prog 56 F56
theorem ok56:Yew.ok prog 56:=mkO ⟨Yeu,trivial⟩
def Zlj (a0:Yy1)(a1:Int):Option (List (Int×Unit)×Unit):=Yew.fn (a0,a1,())
theorem Z3c a0 a1:Eq (Zlj a0 a1) <| (Zef (a0.2.2.2.2.2.2.2.2.2.2.1,a0.2.2.2.2.2.2.2.2.2.2.2.1,()) a1 true).bind fun e0=>some (e0.1,()):=mkE
def Yex:Tb:=[(54,Ydp),(55,Yev),(56,Yew)]
def F31:TFun:=⟨[7],[(7,qc [qn 1,qi,[.boxN 35 14 [.p (.int .u8),.p (.sl Yq4),.p (.sl Yq7),.p db,.p (.sl Yq4),.p (.int .u8),.p di,.p di,.p db,.p (.int .u8),.p (.sl Yq8),.p (.sl Yq5),.p (.sl Yq2),.p (.sl Yq3)]],qn 2,[.boxN 66 9 [.p (.int .u8),.any,.any,.any,.p (.sl Yq7),.any,.any,.any,.any]],qi,qn 100]),(9,qc [qn 1,qi,[.boxN 35 14 [.p (.int .u8),.p (.sl Yq4),.p (.sl Yq7),.p db,.p (.sl Yq4),.p (.int .u8),.p di,.p di,.p db,.p (.int .u8),.p (.sl Yq8),.p (.sl Yq5),.p (.sl Yq2),.p (.sl Yq3)]],qn 2,[.boxN 66 9 [.p (.int .u8),.any,.any,.p (.sl Yq6),.p (.sl Yq7),.any,.any,.any,.any]],qi,qi,qn 99])],[.a Yq1,.c di],[.c (.p db)],qc [qn 4,qb,qn 102],[],[],0⟩
def Yey:=mkC Yex prog 31 F31
theorem ok31:Yey.ok prog 31:=mkO ⟨ok54,ok55,ok56,trivial⟩
def Zhn (a0:Yy1)(a1:Int):Option (Bool×Unit):=Yey.fn (a0,a1,())
def Zia (n:Nat)(x0 x1:Int)(x2:Yy4)(x3:Yy6)(x4:Bool)(x5:Yy4)(x6 x7 x8:Int)(x9:Bool)(x10:Int)(x11:Yy7)(x12:Yy4)(x13:(List Yy2))(x14:(List Yy3))(x15:Int)(x16:Yy6)(x17:Int):Option (Bool×Unit):=itr Yex prog 31 F31 n 7 (x0,x1,x2,x3,x4,x5,x6,x7,x8,x9,x10,x11,x12,x13,x14,x15,x16,x17,())
def Zbk (n:Nat)(x0 x1:Int)(x2:Yy4)(x3:Yy6)(x4:Bool)(x5:Yy4)(x6 x7 x8:Int)(x9:Bool)(x10:Int)(x11:Yy7)(x12:Yy4)(x13:(List Yy2))(x14:(List Yy3))(x15:Int)(x16:Yy5)(x17:Yy6)(x18 x19:Int):Option (Bool×Unit):=itr Yex prog 31 F31 n 9 (x0,x1,x2,x3,x4,x5,x6,x7,x8,x9,x10,x11,x12,x13,x14,x15,x16,x17,x18,x19,())
theorem Zue a0 a1:Eq (Zhn a0 a1) <| ix a0.2.2.2.2.2.2.2.2.2.2.2.2.1 a1 fun e0=>ix a0.2.2.2.2.2.2.2.2.2.2.1 a1 fun e1=>bif !(e0.1==e1.1&&(e0.2.1==e1.2.1&&true)) then some (false,()) else (Zfz e0).bind fun e2=>bif e2.1 !=0 then some (false,()) else (Zmw a0 a1).bind fun e3=>Zbk fuel a1 a0.1 a0.2.1 a0.2.2.1 a0.2.2.2.1 a0.2.2.2.2.1 a0.2.2.2.2.2.1 a0.2.2.2.2.2.2.1 a0.2.2.2.2.2.2.2.1 a0.2.2.2.2.2.2.2.2.1 a0.2.2.2.2.2.2.2.2.2.1 a0.2.2.2.2.2.2.2.2.2.2.1 a0.2.2.2.2.2.2.2.2.2.2.2.1 a0.2.2.2.2.2.2.2.2.2.2.2.2.1 a0.2.2.2.2.2.2.2.2.2.2.2.2.2.1 e0.1 e0.2.2.2.1 e0.2.2.2.2.1 (ofNat e3.1.length) 0:=mkE
theorem Zqq n x0 x1 x2 x3 x4 x5 x6 x7 x8 x9 x10 x11 x12 x13 x14 x15 x16 x17:Eq (Zia (n+1) x0 x1 x2 x3 x4 x5 x6 x7 x8 x9 x10 x11 x12 x13 x14 x15 x16 x17) <| let k1:=(Zlj (x1,x2,x3,x4,x5,x6,x7,x8,x9,x10,x11,x12,x13,x14,()) x0).bind fun e0=>let k3:=bif x15 !=5 then some (true,()) else bif ofNat e0.1.length==2 then some (x4,()) else some (false,());bif x15 !=4 then k3 else bif ofNat x16.length==ofNat e0.1.length then bif !x4 then k3 else some (false,()) else some (false,());bif x15==2 then let k4:=bif x17 !=2 then some (false,()) else bif !x10==2 then some (false,()) else k1;bif x17 !=1 then k4 else bif x10==2 then k4 else k1 else k1:=mkI
theorem Zib n x0 x1 x2 x3 x4 x5 x6 x7 x8 x9 x10 x11 x12 x13 x14 x15 x16 x17 x18 x19:Eq (Zbk (n+1) x0 x1 x2 x3 x4 x5 x6 x7 x8 x9 x10 x11 x12 x13 x14 x15 x16 x17 x18 x19) <| bif x19<ofNat x16.length then ix x16 x19 fun e0=>bif e0.1≥x18 then some (false,()) else Zbk n x0 x1 x2 x3 x4 x5 x6 x7 x8 x9 x10 x11 x12 x13 x14 x15 x16 x17 x18 (wrap .i64 (x19+1)) else Zia n x0 x1 x2 x3 x4 x5 x6 x7 x8 x9 x10 x11 x12 x13 x14 x15 x17 x18:=mkI
def Z8w:Tb:=[(28,Ydc),(29,Ydh),(30,Ydk),(31,Yey)]
def F15:TFun:=⟨[6],[(6,qc [qn 1,[.boxN 35 14 [.p (.int .u8),.p (.sl Yq4),.p (.sl Yq7),.p db,.p (.sl Yq4),.p (.int .u8),.p di,.p di,.p db,.p (.int .u8),.p (.sl Yq8),.p (.sl Yq5),.p (.sl Yq2),.p (.sl Yq3)]],qn 74]),(8,qc [qn 1,[.boxN 35 14 [.p (.int .u8),.p (.sl Yq4),.p (.sl Yq7),.p db,.p (.sl Yq4),.p (.int .u8),.p di,.p di,.p db,.p (.int .u8),.p (.sl Yq8),.p (.sl Yq5),.p (.sl Yq2),.p (.sl Yq3)]],qn 1,qi,qn 72]),(16,qc [qn 1,[.boxN 35 14 [.p (.int .u8),.p (.sl Yq4),.p (.sl Yq7),.p db,.p (.sl Yq4),.p (.int .u8),.p di,.p di,.p db,.p (.int .u8),.p (.sl Yq8),.p (.sl Yq5),.p (.sl Yq2),.p (.sl Yq3)]],qn 2,qi,qn 71])],[.a Yq1],[.c (.p di)],qc [qn 2,qi,qn 73],[],[],0⟩
def Yez:=mkC Z8w prog 15 F15
theorem ok15:Yez.ok prog 15:=mkO ⟨ok28,ok29,ok30,ok31,trivial⟩
def Zkq (a0:Yy1):Option (Int×Unit):=Yez.fn (a0,())
def Zkr (n:Nat)(x0:Int)(x1:Yy4)(x2:Yy6)(x3:Bool)(x4:Yy4)(x5 x6 x7:Int)(x8:Bool)(x9:Int)(x10:Yy7)(x11:Yy4)(x12:(List Yy2))(x13:(List Yy3)):Option (Int×Unit):=itr Z8w prog 15 F15 n 6 (x0,x1,x2,x3,x4,x5,x6,x7,x8,x9,x10,x11,x12,x13,())
def Zcr (n:Nat)(x0:Int)(x1:Yy4)(x2:Yy6)(x3:Bool)(x4:Yy4)(x5 x6 x7:Int)(x8:Bool)(x9:Int)(x10:Yy7)(x11:Yy4)(x12:(List Yy2))(x13:(List Yy3))(x14:Int):Option (Int×Unit):=itr Z8w prog 15 F15 n 8 (x0,x1,x2,x3,x4,x5,x6,x7,x8,x9,x10,x11,x12,x13,x14,())
def Zbl (n:Nat)(x0:Int)(x1:Yy4)(x2:Yy6)(x3:Bool)(x4:Yy4)(x5 x6 x7:Int)(x8:Bool)(x9:Int)(x10:Yy7)(x11:Yy4)(x12:(List Yy2))(x13:(List Yy3))(x14:Int):Option (Int×Unit):=itr Z8w prog 15 F15 n 16 (x0,x1,x2,x3,x4,x5,x6,x7,x8,x9,x10,x11,x12,x13,x14,())
theorem Zv9 a0:Eq (Zkq a0) <| (Zcj (a0.1,a0.2.1,a0.2.2.1,a0.2.2.2.1,a0.2.2.2.2.1,a0.2.2.2.2.2.1,a0.2.2.2.2.2.2.1,a0.2.2.2.2.2.2.2.1,a0.2.2.2.2.2.2.2.2.1,a0.2.2.2.2.2.2.2.2.2.1,())).bind fun e0=>bif !e0.1 then some (8,()) else (Zfx (a0.2.2.2.2.2.2.2.2.2.2.1,a0.2.2.2.2.2.2.2.2.2.2.2.1,())).bind fun e1=>bif e1.1 !=0 then some (8,()) else bif ofNat a0.2.2.2.2.2.2.2.2.2.2.2.2.1.length !=ofNat a0.2.2.2.2.2.2.2.2.2.2.1.length then some (8,()) else bif ofNat a0.2.2.2.2.2.2.2.2.2.2.2.2.2.1.length !=ofNat a0.2.2.2.2.2.2.2.2.2.2.2.1.length then some (8,()) else Zcr fuel a0.1 a0.2.1 a0.2.2.1 a0.2.2.2.1 a0.2.2.2.2.1 a0.2.2.2.2.2.1 a0.2.2.2.2.2.2.1 a0.2.2.2.2.2.2.2.1 a0.2.2.2.2.2.2.2.2.1 a0.2.2.2.2.2.2.2.2.2.1 a0.2.2.2.2.2.2.2.2.2.2.1 a0.2.2.2.2.2.2.2.2.2.2.2.1 a0.2.2.2.2.2.2.2.2.2.2.2.2.1 a0.2.2.2.2.2.2.2.2.2.2.2.2.2.1 0:=mkE
theorem Zuf n x0 x1 x2 x3 x4 x5 x6 x7 x8 x9 x10 x11 x12 x13:Eq (Zkr (n+1) x0 x1 x2 x3 x4 x5 x6 x7 x8 x9 x10 x11 x12 x13) <| Zbl n x0 x1 x2 x3 x4 x5 x6 x7 x8 x9 x10 x11 x12 x13 0:=mkI
theorem Zks n x0 x1 x2 x3 x4 x5 x6 x7 x8 x9 x10 x11 x12 x13 x14:Eq (Zcr (n+1) x0 x1 x2 x3 x4 x5 x6 x7 x8 x9 x10 x11 x12 x13 x14) <| bif x14<ofNat x13.length then ix x13 x14 fun e0=>ix x11 x14 fun e1=>bif e0.1 !=e1.2.2.2.2.1 then some (8,()) else ix x13 x14 fun e2=>(Zj5 e2).bind fun e3=>bif e3.1 !=0 then some (8,()) else Zcr n x0 x1 x2 x3 x4 x5 x6 x7 x8 x9 x10 x11 x12 x13 (wrap .i64 (x14+1)) else Zkr n x0 x1 x2 x3 x4 x5 x6 x7 x8 x9 x10 x11 x12 x13:=mkI
theorem Zic n x0 x1 x2 x3 x4 x5 x6 x7 x8 x9 x10 x11 x12 x13 x14:Eq (Zbl (n+1) x0 x1 x2 x3 x4 x5 x6 x7 x8 x9 x10 x11 x12 x13 x14) <| bif x14<ofNat x12.length then (Zhn (x0,x1,x2,x3,x4,x5,x6,x7,x8,x9,x10,x11,x12,x13,()) x14).bind fun e0=>bif !e0.1 then some (8,()) else Zbl n x0 x1 x2 x3 x4 x5 x6 x7 x8 x9 x10 x11 x12 x13 (wrap .i64 (x14+1)) else some (0,()):=mkI
end
end Tg

/- The reference's list of an operator's channels. -/
namespace Tg
open Go
open Go.Abs (Zl Z8 tmm)
def hitP (b:Bool)(op pl:Int)(c:Cn):Bool:=decide (Tj.selF b c=op)&&decide (Tj.keyF b c=pl)
def hits (b:Bool)(op pl:Int):Nat→List Cn→List (Int×Unit)
 | _,[]=>[]
 | i,c::r=>(bif hitP b op pl c then [((i:Int),())] else [])++hits b op pl (i+1) r
theorem Z3d (b:Bool)(op pl:Int):∀ (r:List Cn) (i:Nat),(hits b op pl i r).length≤r.length
 | [],_=>Nat.le_refl _
 | c::r,i=>by have:=Z3d b op pl r (i+1);rw [hits];grind
theorem Z8x (b:Bool)(op:Int)(pl:Nat)(chs:List Cn):∀ (r:List Cn) (k:Nat),chs.drop k=r→hits b op pl k r=(((List.range' k r.length)).filter fun i=>(chs[i]?).any fun c=>decide (Tj.selF b c=op)&&decide (Tj.keyF b c=(pl:Int))).map fun i:Nat=>((i:Int),())
 | [],_,_=>rfl
 | c::r,k,h=>by obtain⟨h1,h2,h3⟩:=Zar h;rw [hits,Z8x b op pl chs r (k+1) h3,List.length_cons,List.range'_succ,List.filter_cons,h2];simp only [Option.any_some];unfold hitP;grind
theorem Ye0 (b:Bool)(x:Gr)(op:Int):joinL b x op=(List.range 20).flatMap fun pl:Nat=>hits b op pl 0 x.2.1:=by unfold joinL Tj.Zny;rw [List.map_flatMap];congr 1;funext pl;rw [Z8x b op pl x.2.1 x.2.1 0 rfl,List.range_eq_range']
theorem Z8y (b:Bool)(op:Int)(pl:Nat)(chs:List Cn)(hl:chs.length≤1000)(hp:pl≤100):∀ (r:List Cn) (i m:Nat) (out:List (Int×Unit)),chs.drop i=r→i≤chs.length→out.length+r.length≤100000 →
    Zz (m+r.length+1) op b chs out (pl:Int) (i:Int)=Zab m op b chs (out++hits b op pl i r) ((pl+1:Nat):Int)
  | [],i,m,out,h,hi,ho=>by have:=Zbb h hi;subst this;simp only [List.length_nil,Zh9,geL,cond_false,wS (show pl<1000000000000 by omega),hits,List.append_nil,Nat.add_zero]
  | c::r,i,m,out,h,hi,ho=>by
   obtain⟨h1,h2,h3⟩:=Zar h;simp only [List.length_cons] at ho ⊢;have ih:=fun o (ho2:o.length+r.length≤100000)=>Z8y b op pl chs hl hp r (i+1) m o h3 (by omega) ho2;have hb:Zl (out.length+[((i:Int),())].length) 8=true:=Zgc (by grind) (by omega);have e:Zz (m+(r.length+1)+1) op b chs out (pl:Int) (i:Int)=bif hitP b op pl c then Zz (m+r.length+1) op b chs (out++[((i:Int),())]) (pl:Int) ((i+1:Nat):Int) else Zz (m+r.length+1) op b chs out (pl:Int) ((i+1:Nat):Int):=by rw [show m+(r.length+1)+1=(m+r.length+1)+1 by omega];rw [Zh9];simp only [ltL h2,cond_true,ix_s h2,wS (show i<1000000000000 by omega),hb];generalize Zz (m+r.length+1) op b chs (out++[((i:Int),())]) (pl:Int) ((i+1:Nat):Int)=Z1;generalize Zz (m+r.length+1) op b chs out (pl:Int) ((i+1:Nat):Int)=Z2;unfold hitP;cases b <;> simp only [Tj.selF,Tj.keyF,cond_true,cond_false,Bool.not_false,Bool.not_true] <;> grind
   rw [e,hits];grind
theorem Z8z (b:Bool)(op:Int)(chs:List Cn)(hl:chs.length≤1000):∀ (k pl n:Nat) (out:List (Int×Unit)),pl+k=20→out.length+1000 * k≤30000→k * (chs.length+2)+1≤n →
    Zab n op b chs out (pl:Int)=some (out++(List.range' pl k).flatMap (fun q:Nat=>hits b op q 0 chs),())
  | 0,pl,n,out,hp,ho,hn=>by
   obtain⟨m,rfl⟩:∃ m,n=m+1:=⟨n - 1,by omega⟩;have:pl=20:=by omega
   subst this;simp [Zh8]
  | k+1,pl,n,out,hp,ho,hn=>by
   have he:(k+1) * (chs.length+2)=k * (chs.length+2)+(chs.length+2):=by grind
   obtain⟨m,rfl⟩:∃ m,n=(m+chs.length+1)+1:=⟨n - chs.length - 2,by omega⟩;have hh:=Z3d b op pl chs 0;have hpl:decide ((pl:Int)<20)=true:=decide_eq_true (by omega);have:=Z8y b op pl chs hl (by omega) chs 0 m out rfl (by omega) (by omega);simp only [Int.natCast_zero] at this;rw [Zh8,hpl,cond_true,this,Z8z b op chs hl k (pl+1) m _ (by omega) (by grind) (by omega),List.range'_succ,List.flatMap_cons,List.append_assoc]
theorem Z3e (x:Gr)(op:Int)(b:Bool)(hl:x.2.1.length≤1000):Zef x op b=some (joinL b x op,()):=by rw [Zud,Ye0,List.range_eq_range'];have hf:=Y0;have:=Z8z b op x.2.1 hl 20 0 fuel [] rfl (by simp) (by omega);grind
end Tg
