import Derived.Test.YtfnhchmemplhaaaGreatBVb1
import Derived.Test.YtfnhchmemplhaaaGreatBVb4
import Derived.Test.YtfnhchmemplhaaaGreatBSP
/- Functions of the code, told plainly and checked by the kernel. -/
set_option linter.unusedVariables false
set_option linter.unusedSimpArgs false
set_option maxRecDepth 100000
namespace Tg
open Go.Abs hiding fuel
open Go.Proofs.Tryz (prog)
open Int (ofNat toNat)
open Go.IntKind (wrap)
noncomputable def Yc5:Tb:=[]
def F70:TFun:=⟨[],[(4,qc [qn 1,qi,qb,[.boxN 31 2 [.any,.p (.sl Yq5)]],qn 3,[.c (.rowN 3 1 Yq7)],qi,qn 52]),(9,qc [qn 1,qi,qb,[.boxN 31 2 [.any,.p (.sl Yq5)]],qn 3,[.c (.rowN 3 1 Yq7)],qi,qi,qn 51])],[.a [.sl Yq8,.sl Yq5],.c di,.c db],[.c (.s 3 1 Yq7)],qc [qn 6,[.c (.rowN 3 1 Yq7)],qn 54],[],[],0⟩
noncomputable def Z2r:=mkC Yc5 prog 70 F70
theorem ok70:Z2r.ok prog 70:=mkO trivial (by kernel_rfl)
noncomputable def Z5l:TCon:=⟨Z2r.args,[.c (.p (.sl Yq7))],Z2r.fn⟩
theorem Yha:Z5l.ok prog 70:=TCon.frz (c:=Z2r) ok70 rfl
noncomputable def Zc8 (a0:(List Yy7×List (Int×Int×Int×Int×Int×Unit)×Unit))(a1:Int)(a2:Bool):Option Yy9:=Z2r.fn (a0,a1,a2,())
noncomputable def Zap (n:Nat)(x0:Int)(x1:Bool)(x2:Yy4)(x3:Yy6)(x4:Int):Option Yy9:=itr Yc5 prog 70 F70 n 4 (x0,x1,x2,x3,x4,())
noncomputable def Zy (n:Nat)(x0:Int)(x1:Bool)(x2:Yy4)(x3:Yy6)(x4 x5:Int):Option Yy9:=itr Yc5 prog 70 F70 n 9 (x0,x1,x2,x3,x4,x5,())
theorem Zux a0 a1 a2:Eq (Zc8 a0 a1 a2) <| Zap fuel a1 a2 a0.2.1 ([]) 0:=mkE (by kernel_rfl)
theorem Zit n x0 x1 x2 x3 x4:Eq (Zap (n+1) x0 x1 x2 x3 x4) <| bif x4<20 then Zy n x0 x1 x2 x3 x4 0 else some (x3,()):=mkI (by kernel_rfl)
theorem Ziu n x0 x1 x2 x3 x4 x5:Eq (Zy (n+1) x0 x1 x2 x3 x4 x5) <| bif x5<ofNat x2.length then ix x2 x5 fun e0=>let k1:=let k3:=Zy n x0 x1 x2 x3 x4 (wrap .i64 (x5+1));bif !x1 then bif e0.1==x0 then bif e0.2.1==x4 then bif Zg (x3.length+List.length [(x5,())]) 8 then Zy n x0 x1 x2 (x3++[(x5,())]) x4 (wrap .i64 (x5+1)) else none else k3 else k3 else k3;bif x1 then bif e0.2.2.1==x0 then bif e0.2.2.2.1==x4 then bif Zg (x3.length+List.length [(x5,())]) 8 then Zy n x0 x1 x2 (x3++[(x5,())]) x4 (wrap .i64 (x5+1)) else none else k1 else k1 else k1 else Zap n x0 x1 x2 x3 (wrap .i64 (x4+1)):=mkI (by kernel_rfl)
noncomputable def Ylx:Tb:=[(70,Z5l)]
def F49:TFun:=⟨[],[],[.a Yq1,.c di],[.c (.p (.sl Yq7))],qc [qn 4,[.c (.p (.sl Yq7))],qn 4],[],[],0⟩
noncomputable def Zyf:=mkC Ylx prog 49 F49
theorem ok49:Zyf.ok prog 49:=mkO ⟨Yha,trivial⟩ (by kernel_rfl)
noncomputable def Zbd (a0:Yy1)(a1:Int):Option Yy9:=Zyf.fn (a0,a1,())
theorem Zoz a0 a1:Eq (Zbd a0 a1) <| (Zc8 (a0.2.2.2.2.2.2.2.2.2.2.1,a0.2.2.2.2.2.2.2.2.2.2.2.1,()) a1 false).bind fun e0=>some (e0.1,()):=mkE (by kernel_rfl)
noncomputable def Yly:Tb:=[(70,Z5l)]
def F68:TFun:=⟨[],[],[.a Yq1,.c di],[.c (.p (.sl Yq7))],qc [qn 4,[.c (.p (.sl Yq7))],qn 4],[],[],0⟩
noncomputable def Yc6:=mkC Yly prog 68 F68
theorem ok68:Yc6.ok prog 68:=mkO ⟨Yha,trivial⟩ (by kernel_rfl)
noncomputable def Zl8 (a0:Yy1)(a1:Int):Option Yy9:=Yc6.fn (a0,a1,())
theorem Z2s a0 a1:Eq (Zl8 a0 a1) <| (Zc8 (a0.2.2.2.2.2.2.2.2.2.2.1,a0.2.2.2.2.2.2.2.2.2.2.2.1,()) a1 true).bind fun e0=>some (e0.1,()):=mkE (by kernel_rfl)
noncomputable def Yc7:Tb:=[(67,Ybp),(49,Zyf),(68,Yc6)]
def F46:TFun:=⟨[7],[(7,qc [qn 1,qi,[.boxN 35 14 [.p (.int .u8),.p (.sl Yq4),.p (.sl Yq7),.p db,.p (.sl Yq4),.p (.int .u8),.p di,.p di,.p db,.p (.int .u8),.p (.sl Yq8),.p (.sl Yq5),.p (.sl Yq2),.p (.sl Yq3)]],qn 2,[.boxN 73 9 [.p (.int .u8),.any,.any,.any,.p (.sl Yq7),.any,.any,.any,.any]],qi,qn 100]),(9,qc [qn 1,qi,[.boxN 35 14 [.p (.int .u8),.p (.sl Yq4),.p (.sl Yq7),.p db,.p (.sl Yq4),.p (.int .u8),.p di,.p di,.p db,.p (.int .u8),.p (.sl Yq8),.p (.sl Yq5),.p (.sl Yq2),.p (.sl Yq3)]],qn 2,[.boxN 73 9 [.p (.int .u8),.any,.any,.p (.sl Yq6),.p (.sl Yq7),.any,.any,.any,.any]],qi,qi,qn 99])],[.a Yq1,.c di],[.c (.p db)],qc [qn 4,qb,qn 102],[],[],0⟩
noncomputable def Yc8:=mkC Yc7 prog 46 F46
theorem ok46:Yc8.ok prog 46:=mkO ⟨ok67,ok49,ok68,trivial⟩ (by kernel_rfl)
noncomputable def Ze2 (a0:Yy1)(a1:Int):Option (Bool×Unit):=Yc8.fn (a0,a1,())
noncomputable def Ziv (n:Nat)(x0 x1:Int)(x2:Yy4)(x3:Yy6)(x4:Bool)(x5:Yy4)(x6 x7 x8:Int)(x9:Bool)(x10:Int)(x11:(List Yy7))(x12:Yy4)(x13:(List Yy2))(x14:(List Yy3))(x15:Int)(x16:Yy6)(x17:Int):Option (Bool×Unit):=itr Yc7 prog 46 F46 n 7 (x0,x1,x2,x3,x4,x5,x6,x7,x8,x9,x10,x11,x12,x13,x14,x15,x16,x17,())
noncomputable def Zb4 (n:Nat)(x0 x1:Int)(x2:Yy4)(x3:Yy6)(x4:Bool)(x5:Yy4)(x6 x7 x8:Int)(x9:Bool)(x10:Int)(x11:(List Yy7))(x12:Yy4)(x13:(List Yy2))(x14:(List Yy3))(x15:Int)(x16:Yy5)(x17:Yy6)(x18 x19:Int):Option (Bool×Unit):=itr Yc7 prog 46 F46 n 9 (x0,x1,x2,x3,x4,x5,x6,x7,x8,x9,x10,x11,x12,x13,x14,x15,x16,x17,x18,x19,())
theorem Zuy a0 a1:Eq (Ze2 a0 a1) <| ix a0.2.2.2.2.2.2.2.2.2.2.2.2.1 a1 fun e0=>ix a0.2.2.2.2.2.2.2.2.2.2.1 a1 fun e1=>bif !(e0.1==e1.1&&(e0.2.1==e1.2.1&&true)) then some (false,()) else (Zgk e0).bind fun e2=>bif e2.1 !=0 then some (false,()) else (Zbd a0 a1).bind fun e3=>Zb4 fuel a1 a0.1 a0.2.1 a0.2.2.1 a0.2.2.2.1 a0.2.2.2.2.1 a0.2.2.2.2.2.1 a0.2.2.2.2.2.2.1 a0.2.2.2.2.2.2.2.1 a0.2.2.2.2.2.2.2.2.1 a0.2.2.2.2.2.2.2.2.2.1 a0.2.2.2.2.2.2.2.2.2.2.1 a0.2.2.2.2.2.2.2.2.2.2.2.1 a0.2.2.2.2.2.2.2.2.2.2.2.2.1 a0.2.2.2.2.2.2.2.2.2.2.2.2.2.1 e0.1 e0.2.2.2.1 e0.2.2.2.2.1 (ofNat e3.1.length) 0:=mkE (by kernel_rfl)
theorem Zrn n x0 x1 x2 x3 x4 x5 x6 x7 x8 x9 x10 x11 x12 x13 x14 x15 x16 x17:Eq (Ziv (n+1) x0 x1 x2 x3 x4 x5 x6 x7 x8 x9 x10 x11 x12 x13 x14 x15 x16 x17) <| let k1:=(Zl8 (x1,x2,x3,x4,x5,x6,x7,x8,x9,x10,x11,x12,x13,x14,()) x0).bind fun e0=>let k3:=bif x15 !=5 then some (true,()) else bif ofNat e0.1.length==2 then some (x4,()) else some (false,());bif x15 !=4 then k3 else bif ofNat x16.length==ofNat e0.1.length then bif !x4 then k3 else some (false,()) else some (false,());bif x15==2 then let k4:=bif x17 !=2 then some (false,()) else bif !x10==2 then some (false,()) else k1;bif x17 !=1 then k4 else bif x10==2 then k4 else k1 else k1:=mkI (by kernel_rfl)
theorem Ziw n x0 x1 x2 x3 x4 x5 x6 x7 x8 x9 x10 x11 x12 x13 x14 x15 x16 x17 x18 x19:Eq (Zb4 (n+1) x0 x1 x2 x3 x4 x5 x6 x7 x8 x9 x10 x11 x12 x13 x14 x15 x16 x17 x18 x19) <| bif x19<ofNat x16.length then ix x16 x19 fun e0=>bif e0.1≥x18 then some (false,()) else Zb4 n x0 x1 x2 x3 x4 x5 x6 x7 x8 x9 x10 x11 x12 x13 x14 x15 x16 x17 x18 (wrap .i64 (x19+1)) else Ziv n x0 x1 x2 x3 x4 x5 x6 x7 x8 x9 x10 x11 x12 x13 x14 x15 x17 x18:=mkI (by kernel_rfl)
noncomputable def Z7i:Tb:=[(43,Ybb),(44,Ybh),(45,Ybk),(46,Yc8)]
def F27:TFun:=⟨[6],[(6,qc [qn 1,[.boxN 35 14 [.p (.int .u8),.p (.sl Yq4),.p (.sl Yq7),.p db,.p (.sl Yq4),.p (.int .u8),.p di,.p di,.p db,.p (.int .u8),.p (.sl Yq8),.p (.sl Yq5),.p (.sl Yq2),.p (.sl Yq3)]],qn 74]),(8,qc [qn 1,[.boxN 35 14 [.p (.int .u8),.p (.sl Yq4),.p (.sl Yq7),.p db,.p (.sl Yq4),.p (.int .u8),.p di,.p di,.p db,.p (.int .u8),.p (.sl Yq8),.p (.sl Yq5),.p (.sl Yq2),.p (.sl Yq3)]],qn 1,qi,qn 72]),(16,qc [qn 1,[.boxN 35 14 [.p (.int .u8),.p (.sl Yq4),.p (.sl Yq7),.p db,.p (.sl Yq4),.p (.int .u8),.p di,.p di,.p db,.p (.int .u8),.p (.sl Yq8),.p (.sl Yq5),.p (.sl Yq2),.p (.sl Yq3)]],qn 2,qi,qn 71])],[.a Yq1],[.c (.p di)],qc [qn 2,qi,qn 73],[],[],0⟩
noncomputable def Z7j:=mkC Z7i prog 27 F27
theorem ok27:Z7j.ok prog 27:=mkO ⟨ok43,ok44,ok45,ok46,trivial⟩ (by kernel_rfl)
noncomputable def Zgo (a0:Yy1):Option (Int×Unit):=Z7j.fn (a0,())
noncomputable def Zlj (n:Nat)(x0:Int)(x1:Yy4)(x2:Yy6)(x3:Bool)(x4:Yy4)(x5 x6 x7:Int)(x8:Bool)(x9:Int)(x10:(List Yy7))(x11:Yy4)(x12:(List Yy2))(x13:(List Yy3)):Option (Int×Unit):=itr Z7i prog 27 F27 n 6 (x0,x1,x2,x3,x4,x5,x6,x7,x8,x9,x10,x11,x12,x13,())
noncomputable def Zc9 (n:Nat)(x0:Int)(x1:Yy4)(x2:Yy6)(x3:Bool)(x4:Yy4)(x5 x6 x7:Int)(x8:Bool)(x9:Int)(x10:(List Yy7))(x11:Yy4)(x12:(List Yy2))(x13:(List Yy3))(x14:Int):Option (Int×Unit):=itr Z7i prog 27 F27 n 8 (x0,x1,x2,x3,x4,x5,x6,x7,x8,x9,x10,x11,x12,x13,x14,())
noncomputable def Zb5 (n:Nat)(x0:Int)(x1:Yy4)(x2:Yy6)(x3:Bool)(x4:Yy4)(x5 x6 x7:Int)(x8:Bool)(x9:Int)(x10:(List Yy7))(x11:Yy4)(x12:(List Yy2))(x13:(List Yy3))(x14:Int):Option (Int×Unit):=itr Z7i prog 27 F27 n 16 (x0,x1,x2,x3,x4,x5,x6,x7,x8,x9,x10,x11,x12,x13,x14,())
theorem Zwu a0:Eq (Zgo a0) <| (Zc0 (a0.1,a0.2.1,a0.2.2.1,a0.2.2.2.1,a0.2.2.2.2.1,a0.2.2.2.2.2.1,a0.2.2.2.2.2.2.1,a0.2.2.2.2.2.2.2.1,a0.2.2.2.2.2.2.2.2.1,a0.2.2.2.2.2.2.2.2.2.1,())).bind fun e0=>bif !e0.1 then some (8,()) else (Zgi (a0.2.2.2.2.2.2.2.2.2.2.1,a0.2.2.2.2.2.2.2.2.2.2.2.1,())).bind fun e1=>bif e1.1 !=0 then some (8,()) else bif ofNat a0.2.2.2.2.2.2.2.2.2.2.2.2.1.length !=ofNat a0.2.2.2.2.2.2.2.2.2.2.1.length then some (8,()) else bif ofNat a0.2.2.2.2.2.2.2.2.2.2.2.2.2.1.length !=ofNat a0.2.2.2.2.2.2.2.2.2.2.2.1.length then some (8,()) else Zc9 fuel a0.1 a0.2.1 a0.2.2.1 a0.2.2.2.1 a0.2.2.2.2.1 a0.2.2.2.2.2.1 a0.2.2.2.2.2.2.1 a0.2.2.2.2.2.2.2.1 a0.2.2.2.2.2.2.2.2.1 a0.2.2.2.2.2.2.2.2.2.1 a0.2.2.2.2.2.2.2.2.2.2.1 a0.2.2.2.2.2.2.2.2.2.2.2.1 a0.2.2.2.2.2.2.2.2.2.2.2.2.1 a0.2.2.2.2.2.2.2.2.2.2.2.2.2.1 0:=mkE (by kernel_rfl)
theorem Zuz n x0 x1 x2 x3 x4 x5 x6 x7 x8 x9 x10 x11 x12 x13:Eq (Zlj (n+1) x0 x1 x2 x3 x4 x5 x6 x7 x8 x9 x10 x11 x12 x13) <| Zb5 n x0 x1 x2 x3 x4 x5 x6 x7 x8 x9 x10 x11 x12 x13 0:=mkI (by kernel_rfl)
theorem Zlk n x0 x1 x2 x3 x4 x5 x6 x7 x8 x9 x10 x11 x12 x13 x14:Eq (Zc9 (n+1) x0 x1 x2 x3 x4 x5 x6 x7 x8 x9 x10 x11 x12 x13 x14) <| bif x14<ofNat x13.length then ix x13 x14 fun e0=>ix x11 x14 fun e1=>bif e0.1 !=e1.2.2.2.2.1 then some (8,()) else ix x13 x14 fun e2=>(Zkz e2).bind fun e3=>bif e3.1 !=0 then some (8,()) else Zc9 n x0 x1 x2 x3 x4 x5 x6 x7 x8 x9 x10 x11 x12 x13 (wrap .i64 (x14+1)) else Zlj n x0 x1 x2 x3 x4 x5 x6 x7 x8 x9 x10 x11 x12 x13:=mkI (by kernel_rfl)
theorem Zix n x0 x1 x2 x3 x4 x5 x6 x7 x8 x9 x10 x11 x12 x13 x14:Eq (Zb5 (n+1) x0 x1 x2 x3 x4 x5 x6 x7 x8 x9 x10 x11 x12 x13 x14) <| bif x14<ofNat x12.length then (Ze2 (x0,x1,x2,x3,x4,x5,x6,x7,x8,x9,x10,x11,x12,x13,()) x14).bind fun e0=>bif !e0.1 then some (8,()) else Zb5 n x0 x1 x2 x3 x4 x5 x6 x7 x8 x9 x10 x11 x12 x13 (wrap .i64 (x14+1)) else some (0,()):=mkI (by kernel_rfl)
end Tg

/- The reference's list of an operator's channels. -/
namespace Tg
open Go
open Go.Abs (Zg Zz tmm)
def hitP (b:Bool)(op pl:Int)(c:Cn):Bool:=decide (Tj.selF b c=op)&&decide (Tj.keyF b c=pl)
def hits (b:Bool)(op pl:Int):Nat→List Cn→List (Int×Unit)
 | _,[]=>[]
 | i,c::r=>(bif hitP b op pl c then [((i:Int),())] else [])++hits b op pl (i+1) r
theorem Z2t (b:Bool)(op pl:Int):∀ (r:List Cn) (i:Nat),(hits b op pl i r).length≤r.length
 | [],_=>Nat.le_refl _
 | c::r,i=>by
  have:=Z2t b op pl r (i+1)
  rw [hits]
  cases hitP b op pl c <;> simp <;> omega
theorem Z7k (b:Bool)(op:Int)(pl:Nat)(chs:List Cn):∀ (r:List Cn) (k:Nat),chs.drop k=r→hits b op pl k r=(((List.range' k r.length)).filter fun i=>(chs[i]?).any fun c=>decide (Tj.selF b c=op)&&decide (Tj.keyF b c=(pl:Int))).map fun i:Nat=>((i:Int),())
 | [],_,_=>rfl
 | c::r,k,h=>by
  obtain⟨h1,h2,h3⟩:=Zbr h
  rw [hits,Z7k b op pl chs r (k+1) h3,List.length_cons,List.range'_succ,List.filter_cons,h2]
  simp only [Option.any_some]
  unfold hitP
  by_cases hh:(decide (Tj.selF b c=op)&&decide (Tj.keyF b c=(pl:Int)))=true
  · rw [if_pos hh,hh]
    simp
  · rw [if_neg hh,Bool.not_eq_true _ |>.mp hh]
    simp
theorem Yc9 (b:Bool)(x:Gr)(op:Int):joinL b x op=(List.range 20).flatMap fun pl:Nat=>hits b op pl 0 x.2.1:=by
 unfold joinL Tj.Zhk
 rw [List.map_flatMap]
 congr 1
 funext pl
 rw [Z7k b op pl x.2.1 x.2.1 0 rfl,List.range_eq_range']
theorem Z7l (b:Bool)(op:Int)(pl:Nat)(chs:List Cn)(hl:chs.length≤1000)(hp:pl≤100):∀ (r:List Cn) (i m:Nat) (out:List (Int×Unit)),chs.drop i=r→i≤chs.length→out.length+r.length≤100000 →
    Zy (m+r.length+1) op b chs out (pl:Int) (i:Int)=Zap m op b chs (out++hits b op pl i r) ((pl+1:Nat):Int)
  | [],i,m,out,h,hi,ho=>by
   have:=drop_end h hi
   subst this
   simp only [List.length_nil,Ziu,geL,cond_false,wS (show pl<1000000000000 by omega),hits,List.append_nil,Nat.add_zero]
  | c::r,i,m,out,h,hi,ho=>by
   obtain⟨h1,h2,h3⟩:=Zbr h
   simp only [List.length_cons] at ho ⊢
   have ih:=fun o (ho2:o.length+r.length≤100000)=>Z7l b op pl chs hl hp r (i+1) m o h3 (by omega) ho2
   have hb:Zg (out.length+[((i:Int),())].length) 8=true:=Zav (by simp;omega) (by omega)
   have e:Zy (m+(r.length+1)+1) op b chs out (pl:Int) (i:Int)=bif hitP b op pl c then Zy (m+r.length+1) op b chs (out++[((i:Int),())]) (pl:Int) ((i+1:Nat):Int) else Zy (m+r.length+1) op b chs out (pl:Int) ((i+1:Nat):Int):=by
    rw [show m+(r.length+1)+1=(m+r.length+1)+1 by omega]
    rw [Ziu]
    simp only [ltL h2,cond_true,ix_s h2,wS (show i<1000000000000 by omega),hb]
    generalize Zy (m+r.length+1) op b chs (out++[((i:Int),())]) (pl:Int) ((i+1:Nat):Int)=Z1
    generalize Zy (m+r.length+1) op b chs out (pl:Int) ((i+1:Nat):Int)=Z2
    unfold hitP
    cases b <;> simp only [Tj.selF,Tj.keyF,cond_true,cond_false,Bool.not_false,Bool.not_true] <;> grind
   rw [e,hits]
   cases hitP b op pl c with
   | true =>
    simp only [cond_true]
    rw [ih _ (by simp;omega),List.append_assoc]
   | false =>
    simp only [cond_false,List.nil_append]
    exact ih _ (by omega)
theorem Z7m (b:Bool)(op:Int)(chs:List Cn)(hl:chs.length≤1000):∀ (k pl n:Nat) (out:List (Int×Unit)),pl+k=20→out.length+1000 * k≤30000→k * (chs.length+2)+1≤n →
    Zap n op b chs out (pl:Int)=some (out++(List.range' pl k).flatMap (fun q:Nat=>hits b op q 0 chs),())
  | 0,pl,n,out,hp,ho,hn=>by
   obtain⟨m,rfl⟩:∃ m,n=m+1:=⟨n - 1,by omega⟩
   have:pl=20:=by omega
   subst this
   simp [Zit]
  | k+1,pl,n,out,hp,ho,hn=>by
   have he:(k+1) * (chs.length+2)=k * (chs.length+2)+(chs.length+2):=by rw [Nat.add_mul];omega
   obtain⟨m,rfl⟩:∃ m,n=(m+chs.length+1)+1:=⟨n - chs.length - 2,by omega⟩
   have hh:=Z2t b op pl chs 0
   have hpl:decide ((pl:Int)<20)=true:=decide_eq_true (by omega)
   have:=Z7l b op pl chs hl (by omega) chs 0 m out rfl (by omega) (by omega)
   simp only [Int.natCast_zero] at this
   rw [Zit,hpl,cond_true,this,Z7m b op chs hl k (pl+1) m _ (by omega) (by rw [List.length_append];omega) (by omega),List.range'_succ,List.flatMap_cons,List.append_assoc]
theorem Zu0 (x:Gr)(op:Int)(b:Bool)(hl:x.2.1.length≤1000):Zc8 x op b=some (joinL b x op,()):=by
 rw [Zux,Yc9,List.range_eq_range']
 have hf:=Ya
 have:=Z7m b op x.2.1 hl 20 0 fuel [] rfl (by simp) (by omega)
 simpa using this
end Tg
