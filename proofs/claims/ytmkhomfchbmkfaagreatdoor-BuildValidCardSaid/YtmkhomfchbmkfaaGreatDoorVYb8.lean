import Derived.Test.YtmkhomfchbmkfaaGreatDoorVVb4
import Derived.Test.YtmkhomfchbmkfaaGreatDoorVSP
/- Functions of the code, told plainly and checked by the kernel. -/
set_option linter.unusedVariables false
set_option linter.unusedSimpArgs false
set_option maxRecDepth 100000
namespace Tg
noncomputable section
open Go.Abs hiding fuel
open Go.Proofs.Tryz (prog)
open Int (ofNat toNat)
open Go.IntKind (wrap)
def Ybo:Tb:=[]
def F123:TFun:=⟨[],[(4,qc [qn 1,qi,qb,[.boxN 34 2 [.any,.p (.sl Yq6)]],qn 3,[.c (.rowN 3 1 Yq7)],qi,qn 52]),(9,qc [qn 1,qi,qb,[.boxN 34 2 [.any,.p (.sl Yq6)]],qn 3,[.c (.rowN 3 1 Yq7)],qi,qi,qn 51])],[.a [.sl Yq8,.sl Yq6],.c di,.c db],[.c (.s 3 1 Yq7)],qc [qn 6,[.c (.rowN 3 1 Yq7)],qn 54],[],[],0⟩
def Zxf:=mkC Ybo prog 123 F123
theorem Yvq:Zxf.ok prog 123:=mkO trivial
def Z4i:TCon:=⟨Zxf.args,[.c (.p (.sl Yq7))],Zxf.fn⟩
theorem Ykp:Z4i.ok prog 123:=TCon.frz (c:=Zxf) Yvq rfl
def Zf0 (a0:(List (Int×Int×Unit)×List (Int×Int×Int×Int×Int×Unit)×Unit))(a1:Int)(a2:Bool):Option (List (Int×Unit)×Unit):=Zxf.fn (a0,a1,a2,())
def Za8 (n:Nat)(x0:Int)(x1:Bool)(x2:Yy4)(x3:Yy6)(x4:Int):Option (List (Int×Unit)×Unit):=itr Ybo prog 123 F123 n 4 (x0,x1,x2,x3,x4,())
def Z8 (n:Nat)(x0:Int)(x1:Bool)(x2:Yy4)(x3:Yy6)(x4 x5:Int):Option (List (Int×Unit)×Unit):=itr Ybo prog 123 F123 n 9 (x0,x1,x2,x3,x4,x5,())
theorem Zxg a0 a1 a2:Eq (Zf0 a0 a1 a2) <| Za8 fuel a1 a2 a0.2.1 ([]) 0:=mkE
theorem Zko n x0 x1 x2 x3 x4:Eq (Za8 (n+1) x0 x1 x2 x3 x4) <| bif x4<20 then Z8 n x0 x1 x2 x3 x4 0 else some (x3,()):=mkI
theorem Zkp n x0 x1 x2 x3 x4 x5:Eq (Z8 (n+1) x0 x1 x2 x3 x4 x5) <| bif x5<ofNat x2.length then ix x2 x5 fun e0=>let k1:=let k3:=Z8 n x0 x1 x2 x3 x4 (wrap .i64 (x5+1));bif !x1 then bif e0.1==x0 then bif e0.2.1==x4 then bif Zb (x3.length+List.length [(x5,())]) 8 then Z8 n x0 x1 x2 (x3++[(x5,())]) x4 (wrap .i64 (x5+1)) else none else k3 else k3 else k3;bif x1 then bif e0.2.2.1==x0 then bif e0.2.2.2.1==x4 then bif Zb (x3.length+List.length [(x5,())]) 8 then Z8 n x0 x1 x2 (x3++[(x5,())]) x4 (wrap .i64 (x5+1)) else none else k1 else k1 else k1 else Za8 n x0 x1 x2 x3 (wrap .i64 (x4+1)):=mkI
def Yvr:Tb:=[(123,Z4i)]
def F82:TFun:=⟨[],[],[.a Yq1,.c di],[.c (.p (.sl Yq7))],qc [qn 4,[.c (.p (.sl Yq7))],qn 4],[],[],0⟩
def Ykq:=mkC Yvr prog 82 F82
theorem ok82:Ykq.ok prog 82:=mkO ⟨Ykp,trivial⟩
def Zpr (a0:Yy1)(a1:Int):Option (List (Int×Unit)×Unit):=Ykq.fn (a0,a1,())
theorem Z4j a0 a1:Eq (Zpr a0 a1) <| (Zf0 (a0.2.2.2.2.2.2.2.2.2.2.1,a0.2.2.2.2.2.2.2.2.2.2.2.1,()) a1 false).bind fun e0=>some (e0.1,()):=mkE
def Yvs:Tb:=[(123,Z4i)]
def F83:TFun:=⟨[],[],[.a Yq1,.c di],[.c (.p (.sl Yq7))],qc [qn 4,[.c (.p (.sl Yq7))],qn 4],[],[],0⟩
def Ykr:=mkC Yvs prog 83 F83
theorem ok83:Ykr.ok prog 83:=mkO ⟨Ykp,trivial⟩
def Zoc (a0:Yy1)(a1:Int):Option (List (Int×Unit)×Unit):=Ykr.fn (a0,a1,())
theorem Z72 a0 a1:Eq (Zoc a0 a1) <| (Zf0 (a0.2.2.2.2.2.2.2.2.2.2.1,a0.2.2.2.2.2.2.2.2.2.2.2.1,()) a1 true).bind fun e0=>some (e0.1,()):=mkE
def Yks:Tb:=[(81,Yjk),(82,Ykq),(83,Ykr)]
def F52:TFun:=⟨[7],[(7,qc [qn 1,qi,[.boxN 38 14 [.p (.int .u8),.p (.sl Yq4),.p (.sl Yq7),.p db,.p (.sl Yq4),.p (.int .u8),.p di,.p di,.p db,.p (.int .u8),.p (.sl Yq8),.p (.sl Yq6),.p (.sl Yq2),.p (.sl Yq3)]],qn 2,[.boxN 69 9 [.p (.int .u8),.any,.any,.any,.p (.sl Yq7),.any,.any,.any,.any]],qi,qn 100]),(9,qc [qn 1,qi,[.boxN 38 14 [.p (.int .u8),.p (.sl Yq4),.p (.sl Yq7),.p db,.p (.sl Yq4),.p (.int .u8),.p di,.p di,.p db,.p (.int .u8),.p (.sl Yq8),.p (.sl Yq6),.p (.sl Yq2),.p (.sl Yq3)]],qn 2,[.boxN 69 9 [.p (.int .u8),.any,.any,.p (.sl Yq5),.p (.sl Yq7),.any,.any,.any,.any]],qi,qi,qn 99])],[.a Yq1,.c di],[.c (.p db)],qc [qn 4,qb,qn 102],[],[],0⟩
def Ykt:=mkC Yks prog 52 F52
theorem ok52:Ykt.ok prog 52:=mkO ⟨ok81,ok82,ok83,trivial⟩
def Zjq (a0:Yy1)(a1:Int):Option (Bool×Unit):=Ykt.fn (a0,a1,())
def Zkq (n:Nat)(x0 x1:Int)(x2:Yy4)(x3:Yy6)(x4:Bool)(x5:Yy4)(x6 x7 x8:Int)(x9:Bool)(x10:Int)(x11:Yy7)(x12:Yy4)(x13:(List Yy2))(x14:(List Yy3))(x15:Int)(x16:Yy6)(x17:Int):Option (Bool×Unit):=itr Yks prog 52 F52 n 7 (x0,x1,x2,x3,x4,x5,x6,x7,x8,x9,x10,x11,x12,x13,x14,x15,x16,x17,())
def Zcl (n:Nat)(x0 x1:Int)(x2:Yy4)(x3:Yy6)(x4:Bool)(x5:Yy4)(x6 x7 x8:Int)(x9:Bool)(x10:Int)(x11:Yy7)(x12:Yy4)(x13:(List Yy2))(x14:(List Yy3))(x15:Int)(x16:Yy5)(x17:Yy6)(x18 x19:Int):Option (Bool×Unit):=itr Yks prog 52 F52 n 9 (x0,x1,x2,x3,x4,x5,x6,x7,x8,x9,x10,x11,x12,x13,x14,x15,x16,x17,x18,x19,())
theorem Zxh a0 a1:Eq (Zjq a0 a1) <| ix a0.2.2.2.2.2.2.2.2.2.2.2.2.1 a1 fun e0=>ix a0.2.2.2.2.2.2.2.2.2.2.1 a1 fun e1=>bif !(e0.1==e1.1&&(e0.2.1==e1.2.1&&true)) then some (false,()) else (Zhw e0).bind fun e2=>bif e2.1 !=0 then some (false,()) else (Zpr a0 a1).bind fun e3=>Zcl fuel a1 a0.1 a0.2.1 a0.2.2.1 a0.2.2.2.1 a0.2.2.2.2.1 a0.2.2.2.2.2.1 a0.2.2.2.2.2.2.1 a0.2.2.2.2.2.2.2.1 a0.2.2.2.2.2.2.2.2.1 a0.2.2.2.2.2.2.2.2.2.1 a0.2.2.2.2.2.2.2.2.2.2.1 a0.2.2.2.2.2.2.2.2.2.2.2.1 a0.2.2.2.2.2.2.2.2.2.2.2.2.1 a0.2.2.2.2.2.2.2.2.2.2.2.2.2.1 e0.1 e0.2.2.2.1 e0.2.2.2.2.1 (ofNat e3.1.length) 0:=mkE
theorem Ztu n x0 x1 x2 x3 x4 x5 x6 x7 x8 x9 x10 x11 x12 x13 x14 x15 x16 x17:Eq (Zkq (n+1) x0 x1 x2 x3 x4 x5 x6 x7 x8 x9 x10 x11 x12 x13 x14 x15 x16 x17) <| let k1:=(Zoc (x1,x2,x3,x4,x5,x6,x7,x8,x9,x10,x11,x12,x13,x14,()) x0).bind fun e0=>let k3:=bif x15 !=5 then some (true,()) else bif ofNat e0.1.length==2 then some (x4,()) else some (false,());bif x15 !=4 then k3 else bif ofNat x16.length==ofNat e0.1.length then bif !x4 then k3 else some (false,()) else some (false,());bif x15==2 then let k4:=bif x17 !=2 then some (false,()) else bif !x10==2 then some (false,()) else k1;bif x17 !=1 then k4 else bif x10==2 then k4 else k1 else k1:=mkI
theorem Zkr n x0 x1 x2 x3 x4 x5 x6 x7 x8 x9 x10 x11 x12 x13 x14 x15 x16 x17 x18 x19:Eq (Zcl (n+1) x0 x1 x2 x3 x4 x5 x6 x7 x8 x9 x10 x11 x12 x13 x14 x15 x16 x17 x18 x19) <| bif x19<ofNat x16.length then ix x16 x19 fun e0=>bif e0.1>=x18 then some (false,()) else Zcl n x0 x1 x2 x3 x4 x5 x6 x7 x8 x9 x10 x11 x12 x13 x14 x15 x16 x17 x18 (wrap .i64 (x19+1)) else Zkq n x0 x1 x2 x3 x4 x5 x6 x7 x8 x9 x10 x11 x12 x13 x14 x15 x17 x18:=mkI
def Yeg:Tb:=[(49,Yi7),(50,Yjc),(51,Yjf),(52,Ykt)]
def F12:TFun:=⟨[6],[(6,qc [qn 1,[.boxN 38 14 [.p (.int .u8),.p (.sl Yq4),.p (.sl Yq7),.p db,.p (.sl Yq4),.p (.int .u8),.p di,.p di,.p db,.p (.int .u8),.p (.sl Yq8),.p (.sl Yq6),.p (.sl Yq2),.p (.sl Yq3)]],qn 74]),(8,qc [qn 1,[.boxN 38 14 [.p (.int .u8),.p (.sl Yq4),.p (.sl Yq7),.p db,.p (.sl Yq4),.p (.int .u8),.p di,.p di,.p db,.p (.int .u8),.p (.sl Yq8),.p (.sl Yq6),.p (.sl Yq2),.p (.sl Yq3)]],qn 1,qi,qn 72]),(16,qc [qn 1,[.boxN 38 14 [.p (.int .u8),.p (.sl Yq4),.p (.sl Yq7),.p db,.p (.sl Yq4),.p (.int .u8),.p di,.p di,.p db,.p (.int .u8),.p (.sl Yq8),.p (.sl Yq6),.p (.sl Yq2),.p (.sl Yq3)]],qn 2,qi,qn 71])],[.a Yq1],[.c (.p di)],qc [qn 2,qi,qn 73],[],[],0⟩
def Yku:=mkC Yeg prog 12 F12
theorem ok12:Yku.ok prog 12:=mkO ⟨ok49,ok50,ok51,ok52,trivial⟩
def Zm6 (a0:Yy1):Option (Int×Unit):=Yku.fn (a0,())
def Zm7 (n:Nat)(x0:Int)(x1:Yy4)(x2:Yy6)(x3:Bool)(x4:Yy4)(x5 x6 x7:Int)(x8:Bool)(x9:Int)(x10:Yy7)(x11:Yy4)(x12:(List Yy2))(x13:(List Yy3)):Option (Int×Unit):=itr Yeg prog 12 F12 n 6 (x0,x1,x2,x3,x4,x5,x6,x7,x8,x9,x10,x11,x12,x13,())
def Zdv (n:Nat)(x0:Int)(x1:Yy4)(x2:Yy6)(x3:Bool)(x4:Yy4)(x5 x6 x7:Int)(x8:Bool)(x9:Int)(x10:Yy7)(x11:Yy4)(x12:(List Yy2))(x13:(List Yy3))(x14:Int):Option (Int×Unit):=itr Yeg prog 12 F12 n 8 (x0,x1,x2,x3,x4,x5,x6,x7,x8,x9,x10,x11,x12,x13,x14,())
def Zcm (n:Nat)(x0:Int)(x1:Yy4)(x2:Yy6)(x3:Bool)(x4:Yy4)(x5 x6 x7:Int)(x8:Bool)(x9:Int)(x10:Yy7)(x11:Yy4)(x12:(List Yy2))(x13:(List Yy3))(x14:Int):Option (Int×Unit):=itr Yeg prog 12 F12 n 16 (x0,x1,x2,x3,x4,x5,x6,x7,x8,x9,x10,x11,x12,x13,x14,())
theorem Zzr a0:Eq (Zm6 a0) <| (Zbr (a0.1,a0.2.1,a0.2.2.1,a0.2.2.2.1,a0.2.2.2.2.1,a0.2.2.2.2.2.1,a0.2.2.2.2.2.2.1,a0.2.2.2.2.2.2.2.1,a0.2.2.2.2.2.2.2.2.1,a0.2.2.2.2.2.2.2.2.2.1,())).bind fun e0=>bif !e0.1 then some (8,()) else (Zhu (a0.2.2.2.2.2.2.2.2.2.2.1,a0.2.2.2.2.2.2.2.2.2.2.2.1,())).bind fun e1=>bif e1.1 !=0 then some (8,()) else bif ofNat a0.2.2.2.2.2.2.2.2.2.2.2.2.1.length !=ofNat a0.2.2.2.2.2.2.2.2.2.2.1.length then some (8,()) else bif ofNat a0.2.2.2.2.2.2.2.2.2.2.2.2.2.1.length !=ofNat a0.2.2.2.2.2.2.2.2.2.2.2.1.length then some (8,()) else Zdv fuel a0.1 a0.2.1 a0.2.2.1 a0.2.2.2.1 a0.2.2.2.2.1 a0.2.2.2.2.2.1 a0.2.2.2.2.2.2.1 a0.2.2.2.2.2.2.2.1 a0.2.2.2.2.2.2.2.2.1 a0.2.2.2.2.2.2.2.2.2.1 a0.2.2.2.2.2.2.2.2.2.2.1 a0.2.2.2.2.2.2.2.2.2.2.2.1 a0.2.2.2.2.2.2.2.2.2.2.2.2.1 a0.2.2.2.2.2.2.2.2.2.2.2.2.2.1 0:=mkE
theorem Zxi n x0 x1 x2 x3 x4 x5 x6 x7 x8 x9 x10 x11 x12 x13:Eq (Zm7 (n+1) x0 x1 x2 x3 x4 x5 x6 x7 x8 x9 x10 x11 x12 x13) <| Zcm n x0 x1 x2 x3 x4 x5 x6 x7 x8 x9 x10 x11 x12 x13 0:=mkI
theorem Zm8 n x0 x1 x2 x3 x4 x5 x6 x7 x8 x9 x10 x11 x12 x13 x14:Eq (Zdv (n+1) x0 x1 x2 x3 x4 x5 x6 x7 x8 x9 x10 x11 x12 x13 x14) <| bif x14<ofNat x13.length then ix x13 x14 fun e0=>ix x11 x14 fun e1=>bif e0.1 !=e1.2.2.2.2.1 then some (8,()) else ix x13 x14 fun e2=>(Zmm e2).bind fun e3=>bif e3.1 !=0 then some (8,()) else Zdv n x0 x1 x2 x3 x4 x5 x6 x7 x8 x9 x10 x11 x12 x13 (wrap .i64 (x14+1)) else Zm7 n x0 x1 x2 x3 x4 x5 x6 x7 x8 x9 x10 x11 x12 x13:=mkI
theorem Zks n x0 x1 x2 x3 x4 x5 x6 x7 x8 x9 x10 x11 x12 x13 x14:Eq (Zcm (n+1) x0 x1 x2 x3 x4 x5 x6 x7 x8 x9 x10 x11 x12 x13 x14) <| bif x14<ofNat x12.length then (Zjq (x0,x1,x2,x3,x4,x5,x6,x7,x8,x9,x10,x11,x12,x13,()) x14).bind fun e0=>bif !e0.1 then some (8,()) else Zcm n x0 x1 x2 x3 x4 x5 x6 x7 x8 x9 x10 x11 x12 x13 (wrap .i64 (x14+1)) else some (0,()):=mkI
end
end Tg

/- The reference's list of an operator's channels. -/
namespace Tg
open Go
open Go.Abs (Zb Zf tmm)
def hitP (b:Bool)(op pl:Int)(c:Cn):Bool:=decide (Tj.selF b c=op)&&decide (Tj.keyF b c=pl)
def hits (b:Bool)(op pl:Int):Nat->List Cn->List (Int×Unit)
 | _,[]=>[]
 | i,c::r=>(bif hitP b op pl c then [((i:Int),())] else [])++hits b op pl (i+1) r
theorem Z73 (b:Bool)(op pl:Int):∀ (r:List Cn) (i:Nat),(hits b op pl i r).length<=r.length
 | [],_=>Nat.le_refl _
 | c::r,i=>by have:=Z73 b op pl r (i+1);rw [hits];grind
theorem Yeh (b:Bool)(op:Int)(pl:Nat)(chs:List Cn):∀ (r:List Cn) (k:Nat),chs.drop k=r->hits b op pl k r=(((List.range' k r.length)).filter fun i=>(chs[i]?).any fun c=>decide (Tj.selF b c=op)&&decide (Tj.keyF b c=(pl:Int))).map fun i:Nat=>((i:Int),())
 | [],_,_=>rfl
 | c::r,k,h=>by obtain⟨h1,h2,h3⟩:=Xg h;rw [hits,Yeh b op pl chs r (k+1) h3,J0p,List.range'_succ,List.filter_cons,h2];simp only [Option.any_some];unfold hitP;grind
theorem Ykv (b:Bool)(x:Gr)(op:Int):joinL b x op=(List.range 20).flatMap fun pl:Nat=>hits b op pl 0 x.2.1:=by unfold joinL Tj.Zqz;rw [List.map_flatMap];congr 1;funext pl;rw [Yeh b op pl x.2.1 x.2.1 0 rfl,List.range_eq_range']
theorem Yei (b:Bool)(op:Int)(pl:Nat)(chs:List Cn)(hl:chs.length<=1000)(hp:pl<=100):∀ (r:List Cn) (i m:Nat) (out:List (Int×Unit)),chs.drop i=r->i<=chs.length->out.length+r.length<=100000 ->
    Z8 (m+r.length+1) op b chs out (pl:Int) (i:Int)=Za8 m op b chs (out++hits b op pl i r) ((pl+1:Nat):Int)
  | [],i,m,out,h,hi,ho=>by have:=Xn h hi;subst this;simp only [List.length_nil,Zkp,geL,cond_false,wS (show pl<1000000000000 by omega),hits,List.append_nil,Nat.add_zero]
  | c::r,i,m,out,h,hi,ho=>by
   obtain⟨h1,h2,h3⟩:=Xg h;simp only [J0p] at ho ⊢;have ih:=fun o (ho2:o.length+r.length<=100000)=>Yei b op pl chs hl hp r (i+1) m o h3 (by omega) ho2;have hb:Zb (out.length+[((i:Int),())].length) 8=true:=Zej (by grind) (by omega);have e:Z8 (m+(r.length+1)+1) op b chs out (pl:Int) (i:Int)=bif hitP b op pl c then Z8 (m+r.length+1) op b chs (out++[((i:Int),())]) (pl:Int) ((i+1:Nat):Int) else Z8 (m+r.length+1) op b chs out (pl:Int) ((i+1:Nat):Int):=by rw [show m+(r.length+1)+1=(m+r.length+1)+1 by omega];rw [Zkp];simp only [ltL h2,cond_true,ix_s h2,wS (show i<1000000000000 by omega),hb];generalize Z8 (m+r.length+1) op b chs (out++[((i:Int),())]) (pl:Int) ((i+1:Nat):Int)=Z1;generalize Z8 (m+r.length+1) op b chs out (pl:Int) ((i+1:Nat):Int)=Z2;unfold hitP;cases b <;> simp only [Tj.selF,Tj.keyF,cond_true,cond_false,Bool.not_false,Bool.not_true] <;> grind
   rw [e,hits];grind
theorem Yej (b:Bool)(op:Int)(chs:List Cn)(hl:chs.length<=1000):∀ (k pl n:Nat) (out:List (Int×Unit)),pl+k=20->out.length+1000 * k<=30000->k * (chs.length+2)+1<=n ->
    Za8 n op b chs out (pl:Int)=some (out++(List.range' pl k).flatMap (fun q:Nat=>hits b op q 0 chs),())
  | 0,pl,n,out,hp,ho,hn=>by
   obtain⟨m,rfl⟩:∃ m,n=m+1:=⟨n - 1,by omega⟩;have:pl=20:=by omega
   subst this;simp [Zko]
  | k+1,pl,n,out,hp,ho,hn=>by
   have he:(k+1) * (chs.length+2)=k * (chs.length+2)+(chs.length+2):=by grind
   obtain⟨m,rfl⟩:∃ m,n=(m+chs.length+1)+1:=⟨n - chs.length - 2,by omega⟩;have hh:=Z73 b op pl chs 0;have hpl:decide ((pl:Int)<20)=true:=decide_eq_true (by omega);have:=Yei b op pl chs hl (by omega) chs 0 m out rfl (by omega) (by omega);simp only [Int.natCast_zero] at this;rw [Zko,hpl,cond_true,this,Yej b op chs hl k (pl+1) m _ (by omega) (by grind) (by omega),List.range'_succ,List.flatMap_cons,List.append_assoc]
theorem Z74 (x:Gr)(op:Int)(b:Bool)(hl:x.2.1.length<=1000):Zf0 x op b=some (joinL b x op,()):=by rw [Zxg,Ykv,List.range_eq_range'];have hf:=Yu;have:=Yej b op x.2.1 hl 20 0 fuel [] rfl (by simp) (by omega);grind
end Tg
