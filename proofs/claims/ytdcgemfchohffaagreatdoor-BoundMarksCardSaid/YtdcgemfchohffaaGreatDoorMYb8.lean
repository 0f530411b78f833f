import Derived.Test.YtdcgemfchohffaaGreatDoorMVb4
import Derived.Test.YtdcgemfchohffaaGreatDoorMSP
/- Functions of the code, told plainly and checked by the kernel. -/
set_option linter.unusedVariables false
set_option linter.unusedSimpArgs false
set_option maxRecDepth 100000
namespace Tg
noncomputable section
open Go.Abs hiding fuel
open Go.Proofs.Tryz (prog)
open Int (ofNat toNat)
open Go.IntKind (wrap)
def Yee:Tb:=[]
def F79:TFun:=⟨[],[(4,qc [qn 1,qi,qb,[.boxN 31 2 [.any,.p (.sl Yq5)]],qn 3,[.c (.rowN 3 1 Yq7)],qi,qn 52]),(9,qc [qn 1,qi,qb,[.boxN 31 2 [.any,.p (.sl Yq5)]],qn 3,[.c (.rowN 3 1 Yq7)],qi,qi,qn 51])],[.a [.sl Yq8,.sl Yq5],.c di,.c db],[.c (.s 3 1 Yq7)],qc [qn 6,[.c (.rowN 3 1 Yq7)],qn 54],[],[],0⟩
def Z3d:=mkC Yee prog 79 F79
theorem ok79:Z3d.ok prog 79:=mkO trivial
def Z55:TCon:=⟨Z3d.args,[.c (.p (.sl Yq7))],Z3d.fn⟩
theorem Yin:Z55.ok prog 79:=TCon.frz (c:=Z3d) ok79 rfl
def Zen (a0:(List (Int×Int×Unit)×List (Int×Int×Int×Int×Int×Unit)×Unit))(a1:Int)(a2:Bool):Option (List (Int×Unit)×Unit):=Z3d.fn (a0,a1,a2,())
def Zap (n:Nat)(x0:Int)(x1:Bool)(x2:Yy3)(x3:Yy5)(x4:Int):Option (List (Int×Unit)×Unit):=itr Yee prog 79 F79 n 4 (x0,x1,x2,x3,x4,())
def Z4 (n:Nat)(x0:Int)(x1:Bool)(x2:Yy3)(x3:Yy5)(x4 x5:Int):Option (List (Int×Unit)×Unit):=itr Yee prog 79 F79 n 9 (x0,x1,x2,x3,x4,x5,())
theorem Zuv a0 a1 a2:Eq (Zen a0 a1 a2) <| Zap fuel a1 a2 a0.2.1 ([]) 0:=mkE
theorem Zif n x0 x1 x2 x3 x4:Eq (Zap (n+1) x0 x1 x2 x3 x4) <| bif x4<20 then Z4 n x0 x1 x2 x3 x4 0 else some (x3,()):=mkI
theorem Zig n x0 x1 x2 x3 x4 x5:Eq (Z4 (n+1) x0 x1 x2 x3 x4 x5) <| bif x5<ofNat x2.length then ix x2 x5 fun e0=>let k1:=let k3:=Z4 n x0 x1 x2 x3 x4 (wrap .i64 (x5+1));bif !x1 then bif e0.1==x0 then bif e0.2.1==x4 then bif Zl (x3.length+List.length [(x5,())]) 8 then Z4 n x0 x1 x2 (x3++[(x5,())]) x4 (wrap .i64 (x5+1)) else none else k3 else k3 else k3;bif x1 then bif e0.2.2.1==x0 then bif e0.2.2.2.1==x4 then bif Zl (x3.length+List.length [(x5,())]) 8 then Z4 n x0 x1 x2 (x3++[(x5,())]) x4 (wrap .i64 (x5+1)) else none else k1 else k1 else k1 else Zap n x0 x1 x2 x3 (wrap .i64 (x4+1)):=mkI
def Ym4:Tb:=[(79,Z55)]
def F37:TFun:=⟨[],[],[.a Yq2,.c di],[.c (.p (.sl Yq7))],qc [qn 4,[.c (.p (.sl Yq7))],qn 4],[],[],0⟩
def Yef:=mkC Ym4 prog 37 F37
theorem ok37:Yef.ok prog 37:=mkO ⟨Yin,trivial⟩
def Znc (a0:Yy2)(a1:Int):Option (List (Int×Unit)×Unit):=Yef.fn (a0,a1,())
theorem Z0n a0 a1:Eq (Znc a0 a1) <| (Zen (a0.2.2.2.2.2.2.2.2.2.2.1,a0.2.2.2.2.2.2.2.2.2.2.2.1,()) a1 false).bind fun e0=>some (e0.1,()):=mkE
def Ym5:Tb:=[(79,Z55)]
def F38:TFun:=⟨[],[],[.a Yq2,.c di],[.c (.p (.sl Yq7))],qc [qn 4,[.c (.p (.sl Yq7))],qn 4],[],[],0⟩
def Yeg:=mkC Ym5 prog 38 F38
theorem ok38:Yeg.ok prog 38:=mkO ⟨Yin,trivial⟩
def Zlz (a0:Yy2)(a1:Int):Option (List (Int×Unit)×Unit):=Yeg.fn (a0,a1,())
theorem Z3e a0 a1:Eq (Zlz a0 a1) <| (Zen (a0.2.2.2.2.2.2.2.2.2.2.1,a0.2.2.2.2.2.2.2.2.2.2.2.1,()) a1 true).bind fun e0=>some (e0.1,()):=mkE
def Yeh:Tb:=[(36,Ydc),(37,Yef),(38,Yeg)]
def F25:TFun:=⟨[7],[(7,qc [qn 1,qi,[.boxN 35 14 [.p (.int .u8),.p (.sl Yq4),.p (.sl Yq7),.p db,.p (.sl Yq4),.p (.int .u8),.p di,.p di,.p db,.p (.int .u8),.p (.sl Yq8),.p (.sl Yq5),.p (.sl Yq1),.p (.sl Yq3)]],qn 2,[.boxN 58 9 [.p (.int .u8),.any,.any,.any,.p (.sl Yq7),.any,.any,.any,.any]],qi,qn 100]),(9,qc [qn 1,qi,[.boxN 35 14 [.p (.int .u8),.p (.sl Yq4),.p (.sl Yq7),.p db,.p (.sl Yq4),.p (.int .u8),.p di,.p di,.p db,.p (.int .u8),.p (.sl Yq8),.p (.sl Yq5),.p (.sl Yq1),.p (.sl Yq3)]],qn 2,[.boxN 58 9 [.p (.int .u8),.any,.any,.p (.sl Yq6),.p (.sl Yq7),.any,.any,.any,.any]],qi,qi,qn 99])],[.a Yq2,.c di],[.c (.p db)],qc [qn 4,qb,qn 102],[],[],0⟩
def Yei:=mkC Yeh prog 25 F25
theorem ok25:Yei.ok prog 25:=mkO ⟨ok36,ok37,ok38,trivial⟩
def Zhy (a0:Yy2)(a1:Int):Option (Bool×Unit):=Yei.fn (a0,a1,())
def Zih (n:Nat)(x0 x1:Int)(x2:Yy3)(x3:Yy5)(x4:Bool)(x5:Yy3)(x6 x7 x8:Int)(x9:Bool)(x10:Int)(x11:Yy6)(x12:Yy3)(x13:(List Yy1))(x14:Yy4)(x15:Int)(x16:Yy5)(x17:Int):Option (Bool×Unit):=itr Yeh prog 25 F25 n 7 (x0,x1,x2,x3,x4,x5,x6,x7,x8,x9,x10,x11,x12,x13,x14,x15,x16,x17,())
def Zbx (n:Nat)(x0 x1:Int)(x2:Yy3)(x3:Yy5)(x4:Bool)(x5:Yy3)(x6 x7 x8:Int)(x9:Bool)(x10:Int)(x11:Yy6)(x12:Yy3)(x13:(List Yy1))(x14:Yy4)(x15:Int)(x16:(List (Int×Int×Int×Int×Int×Int×Int×Int×Int×Int×Int×Unit)))(x17:Yy5)(x18 x19:Int):Option (Bool×Unit):=itr Yeh prog 25 F25 n 9 (x0,x1,x2,x3,x4,x5,x6,x7,x8,x9,x10,x11,x12,x13,x14,x15,x16,x17,x18,x19,())
theorem Zuw a0 a1:Eq (Zhy a0 a1) <| ix a0.2.2.2.2.2.2.2.2.2.2.2.2.1 a1 fun e0=>ix a0.2.2.2.2.2.2.2.2.2.2.1 a1 fun e1=>bif !(e0.1==e1.1&&(e0.2.1==e1.2.1&&true)) then some (false,()) else (Zf7 e0).bind fun e2=>bif e2.1 !=0 then some (false,()) else (Znc a0 a1).bind fun e3=>Zbx fuel a1 a0.1 a0.2.1 a0.2.2.1 a0.2.2.2.1 a0.2.2.2.2.1 a0.2.2.2.2.2.1 a0.2.2.2.2.2.2.1 a0.2.2.2.2.2.2.2.1 a0.2.2.2.2.2.2.2.2.1 a0.2.2.2.2.2.2.2.2.2.1 a0.2.2.2.2.2.2.2.2.2.2.1 a0.2.2.2.2.2.2.2.2.2.2.2.1 a0.2.2.2.2.2.2.2.2.2.2.2.2.1 a0.2.2.2.2.2.2.2.2.2.2.2.2.2.1 e0.1 e0.2.2.2.1 e0.2.2.2.2.1 (ofNat e3.1.length) 0:=mkE
theorem Zra n x0 x1 x2 x3 x4 x5 x6 x7 x8 x9 x10 x11 x12 x13 x14 x15 x16 x17:Eq (Zih (n+1) x0 x1 x2 x3 x4 x5 x6 x7 x8 x9 x10 x11 x12 x13 x14 x15 x16 x17) <| let k1:=(Zlz (x1,x2,x3,x4,x5,x6,x7,x8,x9,x10,x11,x12,x13,x14,()) x0).bind fun e0=>let k3:=bif x15 !=5 then some (true,()) else bif ofNat e0.1.length==2 then some (x4,()) else some (false,());bif x15 !=4 then k3 else bif ofNat x16.length==ofNat e0.1.length then bif !x4 then k3 else some (false,()) else some (false,());bif x15==2 then let k4:=bif x17 !=2 then some (false,()) else bif !x10==2 then some (false,()) else k1;bif x17 !=1 then k4 else bif x10==2 then k4 else k1 else k1:=mkI
theorem Zii n x0 x1 x2 x3 x4 x5 x6 x7 x8 x9 x10 x11 x12 x13 x14 x15 x16 x17 x18 x19:Eq (Zbx (n+1) x0 x1 x2 x3 x4 x5 x6 x7 x8 x9 x10 x11 x12 x13 x14 x15 x16 x17 x18 x19) <| bif x19<ofNat x16.length then ix x16 x19 fun e0=>bif e0.1≥x18 then some (false,()) else Zbx n x0 x1 x2 x3 x4 x5 x6 x7 x8 x9 x10 x11 x12 x13 x14 x15 x16 x17 x18 (wrap .i64 (x19+1)) else Zih n x0 x1 x2 x3 x4 x5 x6 x7 x8 x9 x10 x11 x12 x13 x14 x15 x17 x18:=mkI
def Z8c:Tb:=[(22,Ycx),(23,Yc5),(24,Yc6),(25,Yei)]
def F13:TFun:=⟨[6],[(6,qc [qn 1,[.boxN 35 14 [.p (.int .u8),.p (.sl Yq4),.p (.sl Yq7),.p db,.p (.sl Yq4),.p (.int .u8),.p di,.p di,.p db,.p (.int .u8),.p (.sl Yq8),.p (.sl Yq5),.p (.sl Yq1),.p (.sl Yq3)]],qn 74]),(8,qc [qn 1,[.boxN 35 14 [.p (.int .u8),.p (.sl Yq4),.p (.sl Yq7),.p db,.p (.sl Yq4),.p (.int .u8),.p di,.p di,.p db,.p (.int .u8),.p (.sl Yq8),.p (.sl Yq5),.p (.sl Yq1),.p (.sl Yq3)]],qn 1,qi,qn 72]),(16,qc [qn 1,[.boxN 35 14 [.p (.int .u8),.p (.sl Yq4),.p (.sl Yq7),.p db,.p (.sl Yq4),.p (.int .u8),.p di,.p di,.p db,.p (.int .u8),.p (.sl Yq8),.p (.sl Yq5),.p (.sl Yq1),.p (.sl Yq3)]],qn 2,qi,qn 71])],[.a Yq2],[.c (.p di)],qc [qn 2,qi,qn 73],[],[],0⟩
def Yej:=mkC Z8c prog 13 F13
theorem ok13:Yej.ok prog 13:=mkO ⟨ok22,ok23,ok24,ok25,trivial⟩
def Zk3 (a0:Yy2):Option (Int×Unit):=Yej.fn (a0,())
def Zk4 (n:Nat)(x0:Int)(x1:Yy3)(x2:Yy5)(x3:Bool)(x4:Yy3)(x5 x6 x7:Int)(x8:Bool)(x9:Int)(x10:Yy6)(x11:Yy3)(x12:(List Yy1))(x13:Yy4):Option (Int×Unit):=itr Z8c prog 13 F13 n 6 (x0,x1,x2,x3,x4,x5,x6,x7,x8,x9,x10,x11,x12,x13,())
def Zcx (n:Nat)(x0:Int)(x1:Yy3)(x2:Yy5)(x3:Bool)(x4:Yy3)(x5 x6 x7:Int)(x8:Bool)(x9:Int)(x10:Yy6)(x11:Yy3)(x12:(List Yy1))(x13:Yy4)(x14:Int):Option (Int×Unit):=itr Z8c prog 13 F13 n 8 (x0,x1,x2,x3,x4,x5,x6,x7,x8,x9,x10,x11,x12,x13,x14,())
def Zby (n:Nat)(x0:Int)(x1:Yy3)(x2:Yy5)(x3:Bool)(x4:Yy3)(x5 x6 x7:Int)(x8:Bool)(x9:Int)(x10:Yy6)(x11:Yy3)(x12:(List Yy1))(x13:Yy4)(x14:Int):Option (Int×Unit):=itr Z8c prog 13 F13 n 16 (x0,x1,x2,x3,x4,x5,x6,x7,x8,x9,x10,x11,x12,x13,x14,())
theorem Zwp a0:Eq (Zk3 a0) <| (Zcp (a0.1,a0.2.1,a0.2.2.1,a0.2.2.2.1,a0.2.2.2.2.1,a0.2.2.2.2.2.1,a0.2.2.2.2.2.2.1,a0.2.2.2.2.2.2.2.1,a0.2.2.2.2.2.2.2.2.1,a0.2.2.2.2.2.2.2.2.2.1,())).bind fun e0=>bif !e0.1 then some (8,()) else (Zf5 (a0.2.2.2.2.2.2.2.2.2.2.1,a0.2.2.2.2.2.2.2.2.2.2.2.1,())).bind fun e1=>bif e1.1 !=0 then some (8,()) else bif ofNat a0.2.2.2.2.2.2.2.2.2.2.2.2.1.length !=ofNat a0.2.2.2.2.2.2.2.2.2.2.1.length then some (8,()) else bif ofNat a0.2.2.2.2.2.2.2.2.2.2.2.2.2.1.length !=ofNat a0.2.2.2.2.2.2.2.2.2.2.2.1.length then some (8,()) else Zcx fuel a0.1 a0.2.1 a0.2.2.1 a0.2.2.2.1 a0.2.2.2.2.1 a0.2.2.2.2.2.1 a0.2.2.2.2.2.2.1 a0.2.2.2.2.2.2.2.1 a0.2.2.2.2.2.2.2.2.1 a0.2.2.2.2.2.2.2.2.2.1 a0.2.2.2.2.2.2.2.2.2.2.1 a0.2.2.2.2.2.2.2.2.2.2.2.1 a0.2.2.2.2.2.2.2.2.2.2.2.2.1 a0.2.2.2.2.2.2.2.2.2.2.2.2.2.1 0:=mkE
theorem Zux n x0 x1 x2 x3 x4 x5 x6 x7 x8 x9 x10 x11 x12 x13:Eq (Zk4 (n+1) x0 x1 x2 x3 x4 x5 x6 x7 x8 x9 x10 x11 x12 x13) <| Zby n x0 x1 x2 x3 x4 x5 x6 x7 x8 x9 x10 x11 x12 x13 0:=mkI
theorem Zk5 n x0 x1 x2 x3 x4 x5 x6 x7 x8 x9 x10 x11 x12 x13 x14:Eq (Zcx (n+1) x0 x1 x2 x3 x4 x5 x6 x7 x8 x9 x10 x11 x12 x13 x14) <| bif x14<ofNat x13.length then ix x13 x14 fun e0=>ix x11 x14 fun e1=>bif e0.1 !=e1.2.2.2.2.1 then some (8,()) else ix x13 x14 fun e2=>(Zkl e2).bind fun e3=>bif e3.1 !=0 then some (8,()) else Zcx n x0 x1 x2 x3 x4 x5 x6 x7 x8 x9 x10 x11 x12 x13 (wrap .i64 (x14+1)) else Zk4 n x0 x1 x2 x3 x4 x5 x6 x7 x8 x9 x10 x11 x12 x13:=mkI
theorem Zij n x0 x1 x2 x3 x4 x5 x6 x7 x8 x9 x10 x11 x12 x13 x14:Eq (Zby (n+1) x0 x1 x2 x3 x4 x5 x6 x7 x8 x9 x10 x11 x12 x13 x14) <| bif x14<ofNat x12.length then (Zhy (x0,x1,x2,x3,x4,x5,x6,x7,x8,x9,x10,x11,x12,x13,()) x14).bind fun e0=>bif !e0.1 then some (8,()) else Zby n x0 x1 x2 x3 x4 x5 x6 x7 x8 x9 x10 x11 x12 x13 (wrap .i64 (x14+1)) else some (0,()):=mkI
end
end Tg

/- The reference's list of an operator's channels. -/
namespace Tg
open Go
open Go.Abs (Zl Zy tmm)
def hitP (b:Bool)(op pl:Int)(c:Cn):Bool:=decide (Tj.selF b c=op)&&decide (Tj.keyF b c=pl)
def hits (b:Bool)(op pl:Int):Nat→List Cn→List (Int×Unit)
 | _,[]=>[]
 | i,c::r=>(bif hitP b op pl c then [((i:Int),())] else [])++hits b op pl (i+1) r
theorem Z3f (b:Bool)(op pl:Int):∀ (r:List Cn) (i:Nat),(hits b op pl i r).length≤r.length
 | [],_=>Nat.le_refl _
 | c::r,i=>by have:=Z3f b op pl r (i+1);rw [hits];grind
theorem Z8d (b:Bool)(op:Int)(pl:Nat)(chs:List Cn):∀ (r:List Cn) (k:Nat),chs.drop k=r→hits b op pl k r=(((List.range' k r.length)).filter fun i=>(chs[i]?).any fun c=>decide (Tj.selF b c=op)&&decide (Tj.keyF b c=(pl:Int))).map fun i:Nat=>((i:Int),())
 | [],_,_=>rfl
 | c::r,k,h=>by obtain⟨h1,h2,h3⟩:=Zaj h;rw [hits,Z8d b op pl chs r (k+1) h3,List.length_cons,List.range'_succ,List.filter_cons,h2];simp only [Option.any_some];unfold hitP;grind
theorem Yek (b:Bool)(x:Gr)(op:Int):joinL b x op=(List.range 20).flatMap fun pl:Nat=>hits b op pl 0 x.2.1:=by unfold joinL Tj.Zg3;rw [List.map_flatMap];congr 1;funext pl;rw [Z8d b op pl x.2.1 x.2.1 0 rfl,List.range_eq_range']
theorem Z8e (b:Bool)(op:Int)(pl:Nat)(chs:List Cn)(hl:chs.length≤1000)(hp:pl≤100):∀ (r:List Cn) (i m:Nat) (out:List (Int×Unit)),chs.drop i=r→i≤chs.length→out.length+r.length≤100000 →
    Z4 (m+r.length+1) op b chs out (pl:Int) (i:Int)=Zap m op b chs (out++hits b op pl i r) ((pl+1:Nat):Int)
  | [],i,m,out,h,hi,ho=>by have:=Za5 h hi;subst this;simp only [List.length_nil,Zig,geL,cond_false,wS (show pl<1000000000000 by omega),hits,List.append_nil,Nat.add_zero]
  | c::r,i,m,out,h,hi,ho=>by
   obtain⟨h1,h2,h3⟩:=Zaj h;simp only [List.length_cons] at ho ⊢;have ih:=fun o (ho2:o.length+r.length≤100000)=>Z8e b op pl chs hl hp r (i+1) m o h3 (by omega) ho2;have hb:Zl (out.length+[((i:Int),())].length) 8=true:=Zjn (by grind) (by omega);have e:Z4 (m+(r.length+1)+1) op b chs out (pl:Int) (i:Int)=bif hitP b op pl c then Z4 (m+r.length+1) op b chs (out++[((i:Int),())]) (pl:Int) ((i+1:Nat):Int) else Z4 (m+r.length+1) op b chs out (pl:Int) ((i+1:Nat):Int):=by rw [show m+(r.length+1)+1=(m+r.length+1)+1 by omega];rw [Zig];simp only [ltL h2,cond_true,ix_s h2,wS (show i<1000000000000 by omega),hb];generalize Z4 (m+r.length+1) op b chs (out++[((i:Int),())]) (pl:Int) ((i+1:Nat):Int)=Z1;generalize Z4 (m+r.length+1) op b chs out (pl:Int) ((i+1:Nat):Int)=Z2;unfold hitP;cases b <;> simp only [Tj.selF,Tj.keyF,cond_true,cond_false,Bool.not_false,Bool.not_true] <;> grind
   rw [e,hits];grind
theorem Z8f (b:Bool)(op:Int)(chs:List Cn)(hl:chs.length≤1000):∀ (k pl n:Nat) (out:List (Int×Unit)),pl+k=20→out.length+1000 * k≤30000→k * (chs.length+2)+1≤n →
    Zap n op b chs out (pl:Int)=some (out++(List.range' pl k).flatMap (fun q:Nat=>hits b op q 0 chs),())
  | 0,pl,n,out,hp,ho,hn=>by
   obtain⟨m,rfl⟩:∃ m,n=m+1:=⟨n - 1,by omega⟩;have:pl=20:=by omega
   subst this;simp [Zif]
  | k+1,pl,n,out,hp,ho,hn=>by
   have he:(k+1) * (chs.length+2)=k * (chs.length+2)+(chs.length+2):=by grind
   obtain⟨m,rfl⟩:∃ m,n=(m+chs.length+1)+1:=⟨n - chs.length - 2,by omega⟩;have hh:=Z3f b op pl chs 0;have hpl:decide ((pl:Int)<20)=true:=decide_eq_true (by omega);have:=Z8e b op pl chs hl (by omega) chs 0 m out rfl (by omega) (by omega);simp only [Int.natCast_zero] at this;rw [Zif,hpl,cond_true,this,Z8f b op chs hl k (pl+1) m _ (by omega) (by grind) (by omega),List.range'_succ,List.flatMap_cons,List.append_assoc]
theorem Z3g (x:Gr)(op:Int)(b:Bool)(hl:x.2.1.length≤1000):Zen x op b=some (joinL b x op,()):=by rw [Zuv,Yek,List.range_eq_range'];have hf:=X5;have:=Z8f b op x.2.1 hl 20 0 fuel [] rfl (by simp) (by omega);grind
end Tg
