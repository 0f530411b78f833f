import Derived.Test.YtdgcdoiefodccaaGreatBVb4
import Derived.Test.YtdgcdoiefodccaaGreatBSP
/- Functions of the code, told plainly and checked by the kernel. -/
set_option linter.unusedVariables false
set_option linter.unusedSimpArgs false
set_option maxRecDepth 100000
namespace Tg
open Go.Abs hiding fuel
open Go.Proofs.Tryz (prog)
open Int (ofNat toNat)
open Go.IntKind (wrap)
noncomputable def Yaf:Tb:=[]
def F133:TFun:=⟨[],[(4,qc [qn 1,qi,qb,[.boxN 31 2 [.any,.p (.sl Yq5)]],qn 3,[.c (.rowN 3 1 Yq7)],qi,qn 52]),(9,qc [qn 1,qi,qb,[.boxN 31 2 [.any,.p (.sl Yq5)]],qn 3,[.c (.rowN 3 1 Yq7)],qi,qi,qn 51])],[.a [.sl Yq8,.sl Yq5],.c di,.c db],[.c (.s 3 1 Yq7)],qc [qn 6,[.c (.rowN 3 1 Yq7)],qn 54],[],[],0⟩
noncomputable def Zw2:=mkC Yaf prog 133 F133
theorem Ytj:Zw2.ok prog 133:=mkO trivial (by kernel_rfl)
noncomputable def Z3j:TCon:=⟨Zw2.args,[.c (.p (.sl Yq7))],Zw2.fn⟩
theorem Yi0:Z3j.ok prog 133:=TCon.frz (c:=Zw2) Ytj rfl
noncomputable def Zfz (a0:(List (Int×Int×Unit)×List (Int×Int×Int×Int×Int×Unit)×Unit))(a1:Int)(a2:Bool):Option (List (Int×Unit)×Unit):=Zw2.fn (a0,a1,a2,())
noncomputable def Za4 (n:Nat)(x0:Int)(x1:Bool)(x2:Yy3)(x3:Yy5)(x4:Int):Option (List (Int×Unit)×Unit):=itr Yaf prog 133 F133 n 4 (x0,x1,x2,x3,x4,())
noncomputable def Z5 (n:Nat)(x0:Int)(x1:Bool)(x2:Yy3)(x3:Yy5)(x4 x5:Int):Option (List (Int×Unit)×Unit):=itr Yaf prog 133 F133 n 9 (x0,x1,x2,x3,x4,x5,())
theorem Zw3 a0 a1 a2:Eq (Zfz a0 a1 a2) <| Za4 fuel a1 a2 a0.2.1 ([]) 0:=mkE (by kernel_rfl)
theorem Zkq n x0 x1 x2 x3 x4:Eq (Za4 (n+1) x0 x1 x2 x3 x4) <| bif x4<20 then Z5 n x0 x1 x2 x3 x4 0 else some (x3,()):=mkI (by kernel_rfl)
theorem Zkr n x0 x1 x2 x3 x4 x5:Eq (Z5 (n+1) x0 x1 x2 x3 x4 x5) <| bif x5<ofNat x2.length then ix x2 x5 fun e0=>let k1:=let k3:=Z5 n x0 x1 x2 x3 x4 (wrap .i64 (x5+1));bif !x1 then bif e0.1==x0 then bif e0.2.1==x4 then bif Zb (x3.length+List.length [(x5,())]) 8 then Z5 n x0 x1 x2 (x3++[(x5,())]) x4 (wrap .i64 (x5+1)) else none else k3 else k3 else k3;bif x1 then bif e0.2.2.1==x0 then bif e0.2.2.2.1==x4 then bif Zb (x3.length+List.length [(x5,())]) 8 then Z5 n x0 x1 x2 (x3++[(x5,())]) x4 (wrap .i64 (x5+1)) else none else k1 else k1 else k1 else Za4 n x0 x1 x2 x3 (wrap .i64 (x4+1)):=mkI (by kernel_rfl)
noncomputable def Ytk:Tb:=[(133,Z3j)]
def F86:TFun:=⟨[],[],[.a Yq2,.c di],[.c (.p (.sl Yq7))],qc [qn 4,[.c (.p (.sl Yq7))],qn 4],[],[],0⟩
noncomputable def Yi1:=mkC Ytk prog 86 F86
theorem ok86:Yi1.ok prog 86:=mkO ⟨Yi0,trivial⟩ (by kernel_rfl)
noncomputable def Zpp (a0:Yy2)(a1:Int):Option (List (Int×Unit)×Unit):=Yi1.fn (a0,a1,())
theorem Z3k a0 a1:Eq (Zpp a0 a1) <| (Zfz (a0.2.2.2.2.2.2.2.2.2.2.1,a0.2.2.2.2.2.2.2.2.2.2.2.1,()) a1 false).bind fun e0=>some (e0.1,()):=mkE (by kernel_rfl)
noncomputable def Ytl:Tb:=[(133,Z3j)]
def F87:TFun:=⟨[],[],[.a Yq2,.c di],[.c (.p (.sl Yq7))],qc [qn 4,[.c (.p (.sl Yq7))],qn 4],[],[],0⟩
noncomputable def Yi2:=mkC Ytl prog 87 F87
theorem ok87:Yi2.ok prog 87:=mkO ⟨Yi0,trivial⟩ (by kernel_rfl)
noncomputable def Zn0 (a0:Yy2)(a1:Int):Option (List (Int×Unit)×Unit):=Yi2.fn (a0,a1,())
theorem Z6p a0 a1:Eq (Zn0 a0 a1) <| (Zfz (a0.2.2.2.2.2.2.2.2.2.2.1,a0.2.2.2.2.2.2.2.2.2.2.2.1,()) a1 true).bind fun e0=>some (e0.1,()):=mkE (by kernel_rfl)
noncomputable def Yi3:Tb:=[(85,Yhj),(86,Yi1),(87,Yi2)]
def F54:TFun:=⟨[7],[(7,qc [qn 1,qi,[.boxN 35 14 [.p (.int .u8),.p (.sl Yq4),.p (.sl Yq7),.p db,.p (.sl Yq4),.p (.int .u8),.p di,.p di,.p db,.p (.int .u8),.p (.sl Yq8),.p (.sl Yq5),.p (.sl Yq1),.p (.sl Yq3)]],qn 2,[.boxN 58 9 [.p (.int .u8),.any,.any,.any,.p (.sl Yq7),.any,.any,.any,.any]],qi,qn 100]),(9,qc [qn 1,qi,[.boxN 35 14 [.p (.int .u8),.p (.sl Yq4),.p (.sl Yq7),.p db,.p (.sl Yq4),.p (.int .u8),.p di,.p di,.p db,.p (.int .u8),.p (.sl Yq8),.p (.sl Yq5),.p (.sl Yq1),.p (.sl Yq3)]],qn 2,[.boxN 58 9 [.p (.int .u8),.any,.any,.p (.sl Yq6),.p (.sl Yq7),.any,.any,.any,.any]],qi,qi,qn 99])],[.a Yq2,.c di],[.c (.p db)],qc [qn 4,qb,qn 102],[],[],0⟩
noncomputable def Yi4:=mkC Yi3 prog 54 F54
theorem ok54:Yi4.ok prog 54:=mkO ⟨ok85,ok86,ok87,trivial⟩ (by kernel_rfl)
noncomputable def Zjt (a0:Yy2)(a1:Int):Option (Bool×Unit):=Yi4.fn (a0,a1,())
noncomputable def Zks (n:Nat)(x0 x1:Int)(x2:Yy3)(x3:Yy5)(x4:Bool)(x5:Yy3)(x6 x7 x8:Int)(x9:Bool)(x10:Int)(x11:Yy6)(x12:Yy3)(x13:(List Yy1))(x14:Yy4)(x15:Int)(x16:Yy5)(x17:Int):Option (Bool×Unit):=itr Yi3 prog 54 F54 n 7 (x0,x1,x2,x3,x4,x5,x6,x7,x8,x9,x10,x11,x12,x13,x14,x15,x16,x17,())
noncomputable def Zcm (n:Nat)(x0 x1:Int)(x2:Yy3)(x3:Yy5)(x4:Bool)(x5:Yy3)(x6 x7 x8:Int)(x9:Bool)(x10:Int)(x11:Yy6)(x12:Yy3)(x13:(List Yy1))(x14:Yy4)(x15:Int)(x16:(List (Int×Int×Int×Int×Int×Int×Int×Int×Int×Int×Int×Unit)))(x17:Yy5)(x18 x19:Int):Option (Bool×Unit):=itr Yi3 prog 54 F54 n 9 (x0,x1,x2,x3,x4,x5,x6,x7,x8,x9,x10,x11,x12,x13,x14,x15,x16,x17,x18,x19,())
theorem Zw4 a0 a1:Eq (Zjt a0 a1) <| ix a0.2.2.2.2.2.2.2.2.2.2.2.2.1 a1 fun e0=>ix a0.2.2.2.2.2.2.2.2.2.2.1 a1 fun e1=>bif !(e0.1==e1.1&&(e0.2.1==e1.2.1&&true)) then some (false,()) else (Zhy e0).bind fun e2=>bif e2.1 !=0 then some (false,()) else (Zpp a0 a1).bind fun e3=>Zcm fuel a1 a0.1 a0.2.1 a0.2.2.1 a0.2.2.2.1 a0.2.2.2.2.1 a0.2.2.2.2.2.1 a0.2.2.2.2.2.2.1 a0.2.2.2.2.2.2.2.1 a0.2.2.2.2.2.2.2.2.1 a0.2.2.2.2.2.2.2.2.2.1 a0.2.2.2.2.2.2.2.2.2.2.1 a0.2.2.2.2.2.2.2.2.2.2.2.1 a0.2.2.2.2.2.2.2.2.2.2.2.2.1 a0.2.2.2.2.2.2.2.2.2.2.2.2.2.1 e0.1 e0.2.2.2.1 e0.2.2.2.2.1 (ofNat e3.1.length) 0:=mkE (by kernel_rfl)
theorem Ztq n x0 x1 x2 x3 x4 x5 x6 x7 x8 x9 x10 x11 x12 x13 x14 x15 x16 x17:Eq (Zks (n+1) x0 x1 x2 x3 x4 x5 x6 x7 x8 x9 x10 x11 x12 x13 x14 x15 x16 x17) <| let k1:=(Zn0 (x1,x2,x3,x4,x5,x6,x7,x8,x9,x10,x11,x12,x13,x14,()) x0).bind fun e0=>let k3:=bif x15 !=5 then some (true,()) else bif ofNat e0.1.length==2 then some (x4,()) else some (false,());bif x15 !=4 then k3 else bif ofNat x16.length==ofNat e0.1.length then bif !x4 then k3 else some (false,()) else some (false,());bif x15==2 then let k4:=bif x17 !=2 then some (false,()) else bif !x10==2 then some (false,()) else k1;bif x17 !=1 then k4 else bif x10==2 then k4 else k1 else k1:=mkI (by kernel_rfl)
theorem Zkt n x0 x1 x2 x3 x4 x5 x6 x7 x8 x9 x10 x11 x12 x13 x14 x15 x16 x17 x18 x19:Eq (Zcm (n+1) x0 x1 x2 x3 x4 x5 x6 x7 x8 x9 x10 x11 x12 x13 x14 x15 x16 x17 x18 x19) <| bif x19<ofNat x16.length then ix x16 x19 fun e0=>bif e0.1≥x18 then some (false,()) else Zcm n x0 x1 x2 x3 x4 x5 x6 x7 x8 x9 x10 x11 x12 x13 x14 x15 x16 x17 x18 (wrap .i64 (x19+1)) else Zks n x0 x1 x2 x3 x4 x5 x6 x7 x8 x9 x10 x11 x12 x13 x14 x15 x17 x18:=mkI (by kernel_rfl)
noncomputable def Ycp:Tb:=[(51,Yg6),(52,Yhb),(53,Yhe),(54,Yi4)]
def F22:TFun:=⟨[6],[(6,qc [qn 1,[.boxN 35 14 [.p (.int .u8),.p (.sl Yq4),.p (.sl Yq7),.p db,.p (.sl Yq4),.p (.int .u8),.p di,.p di,.p db,.p (.int .u8),.p (.sl Yq8),.p (.sl Yq5),.p (.sl Yq1),.p (.sl Yq3)]],qn 74]),(8,qc [qn 1,[.boxN 35 14 [.p (.int .u8),.p (.sl Yq4),.p (.sl Yq7),.p db,.p (.sl Yq4),.p (.int .u8),.p di,.p di,.p db,.p (.int .u8),.p (.sl Yq8),.p (.sl Yq5),.p (.sl Yq1),.p (.sl Yq3)]],qn 1,qi,qn 72]),(16,qc [qn 1,[.boxN 35 14 [.p (.int .u8),.p (.sl Yq4),.p (.sl Yq7),.p db,.p (.sl Yq4),.p (.int .u8),.p di,.p di,.p db,.p (.int .u8),.p (.sl Yq8),.p (.sl Yq5),.p (.sl Yq1),.p (.sl Yq3)]],qn 2,qi,qn 71])],[.a Yq2],[.c (.p di)],qc [qn 2,qi,qn 73],[],[],0⟩
noncomputable def Ycq:=mkC Ycp prog 22 F22
theorem ok22:Ycq.ok prog 22:=mkO ⟨ok51,ok52,ok53,ok54,trivial⟩ (by kernel_rfl)
noncomputable def Zfd (a0:Yy2):Option (Int×Unit):=Ycq.fn (a0,())
noncomputable def Zm7 (n:Nat)(x0:Int)(x1:Yy3)(x2:Yy5)(x3:Bool)(x4:Yy3)(x5 x6 x7:Int)(x8:Bool)(x9:Int)(x10:Yy6)(x11:Yy3)(x12:(List Yy1))(x13:Yy4):Option (Int×Unit):=itr Ycp prog 22 F22 n 6 (x0,x1,x2,x3,x4,x5,x6,x7,x8,x9,x10,x11,x12,x13,())
noncomputable def Zdr (n:Nat)(x0:Int)(x1:Yy3)(x2:Yy5)(x3:Bool)(x4:Yy3)(x5 x6 x7:Int)(x8:Bool)(x9:Int)(x10:Yy6)(x11:Yy3)(x12:(List Yy1))(x13:Yy4)(x14:Int):Option (Int×Unit):=itr Ycp prog 22 F22 n 8 (x0,x1,x2,x3,x4,x5,x6,x7,x8,x9,x10,x11,x12,x13,x14,())
noncomputable def Zcn (n:Nat)(x0:Int)(x1:Yy3)(x2:Yy5)(x3:Bool)(x4:Yy3)(x5 x6 x7:Int)(x8:Bool)(x9:Int)(x10:Yy6)(x11:Yy3)(x12:(List Yy1))(x13:Yy4)(x14:Int):Option (Int×Unit):=itr Ycp prog 22 F22 n 16 (x0,x1,x2,x3,x4,x5,x6,x7,x8,x9,x10,x11,x12,x13,x14,())
theorem Zy8 a0:Eq (Zfd a0) <| (Zdk (a0.1,a0.2.1,a0.2.2.1,a0.2.2.2.1,a0.2.2.2.2.1,a0.2.2.2.2.2.1,a0.2.2.2.2.2.2.1,a0.2.2.2.2.2.2.2.1,a0.2.2.2.2.2.2.2.2.1,a0.2.2.2.2.2.2.2.2.2.1,())).bind fun e0=>bif !e0.1 then some (8,()) else (Zhw (a0.2.2.2.2.2.2.2.2.2.2.1,a0.2.2.2.2.2.2.2.2.2.2.2.1,())).bind fun e1=>bif e1.1 !=0 then some (8,()) else bif ofNat a0.2.2.2.2.2.2.2.2.2.2.2.2.1.length !=ofNat a0.2.2.2.2.2.2.2.2.2.2.1.length then some (8,()) else bif ofNat a0.2.2.2.2.2.2.2.2.2.2.2.2.2.1.length !=ofNat a0.2.2.2.2.2.2.2.2.2.2.2.1.length then some (8,()) else Zdr fuel a0.1 a0.2.1 a0.2.2.1 a0.2.2.2.1 a0.2.2.2.2.1 a0.2.2.2.2.2.1 a0.2.2.2.2.2.2.1 a0.2.2.2.2.2.2.2.1 a0.2.2.2.2.2.2.2.2.1 a0.2.2.2.2.2.2.2.2.2.1 a0.2.2.2.2.2.2.2.2.2.2.1 a0.2.2.2.2.2.2.2.2.2.2.2.1 a0.2.2.2.2.2.2.2.2.2.2.2.2.1 a0.2.2.2.2.2.2.2.2.2.2.2.2.2.1 0:=mkE (by kernel_rfl)
theorem Zw5 n x0 x1 x2 x3 x4 x5 x6 x7 x8 x9 x10 x11 x12 x13:Eq (Zm7 (n+1) x0 x1 x2 x3 x4 x5 x6 x7 x8 x9 x10 x11 x12 x13) <| Zcn n x0 x1 x2 x3 x4 x5 x6 x7 x8 x9 x10 x11 x12 x13 0:=mkI (by kernel_rfl)
theorem Zm8 n x0 x1 x2 x3 x4 x5 x6 x7 x8 x9 x10 x11 x12 x13 x14:Eq (Zdr (n+1) x0 x1 x2 x3 x4 x5 x6 x7 x8 x9 x10 x11 x12 x13 x14) <| bif x14<ofNat x13.length then ix x13 x14 fun e0=>ix x11 x14 fun e1=>bif e0.1 !=e1.2.2.2.2.1 then some (8,()) else ix x13 x14 fun e2=>(Zmm e2).bind fun e3=>bif e3.1 !=0 then some (8,()) else Zdr n x0 x1 x2 x3 x4 x5 x6 x7 x8 x9 x10 x11 x12 x13 (wrap .i64 (x14+1)) else Zm7 n x0 x1 x2 x3 x4 x5 x6 x7 x8 x9 x10 x11 x12 x13:=mkI (by kernel_rfl)
theorem Zku n x0 x1 x2 x3 x4 x5 x6 x7 x8 x9 x10 x11 x12 x13 x14:Eq (Zcn (n+1) x0 x1 x2 x3 x4 x5 x6 x7 x8 x9 x10 x11 x12 x13 x14) <| bif x14<ofNat x12.length then (Zjt (x0,x1,x2,x3,x4,x5,x6,x7,x8,x9,x10,x11,x12,x13,()) x14).bind fun e0=>bif !e0.1 then some (8,()) else Zcn n x0 x1 x2 x3 x4 x5 x6 x7 x8 x9 x10 x11 x12 x13 (wrap .i64 (x14+1)) else some (0,()):=mkI (by kernel_rfl)
end Tg

/- The reference's list of an operator's channels. -/
namespace Tg
open Go
open Go.Abs (Zb Zj tmm)
def hitP (b:Bool)(op pl:Int)(c:Cn):Bool:=decide (Tj.selF b c=op)&&decide (Tj.keyF b c=pl)
def hits (b:Bool)(op pl:Int):Nat→List Cn→List (Int×Unit)
 | _,[]=>[]
 | i,c::r=>(bif hitP b op pl c then [((i:Int),())] else [])++hits b op pl (i+1) r
theorem Z6q (b:Bool)(op pl:Int):∀ (r:List Cn) (i:Nat),(hits b op pl i r).length≤r.length
 | [],_=>Nat.le_refl _
 | c::r,i=>by
  have:=Z6q b op pl r (i+1)
  rw [hits]
  grind
theorem Ycr (b:Bool)(op:Int)(pl:Nat)(chs:List Cn):∀ (r:List Cn) (k:Nat),chs.drop k=r→hits b op pl k r=(((List.range' k r.length)).filter fun i=>(chs[i]?).any fun c=>decide (Tj.selF b c=op)&&decide (Tj.keyF b c=(pl:Int))).map fun i:Nat=>((i:Int),())
 | [],_,_=>rfl
 | c::r,k,h=>by
  obtain⟨h1,h2,h3⟩:=Yt h
  rw [hits,Ycr b op pl chs r (k+1) h3,List.length_cons,List.range'_succ,List.filter_cons,h2]
  simp only [Option.any_some]
  unfold hitP
  grind
theorem Yi5 (b:Bool)(x:Gr)(op:Int):joinL b x op=(List.range 20).flatMap fun pl:Nat=>hits b op pl 0 x.2.1:=by
 unfold joinL Tj.Zqv
 rw [List.map_flatMap]
 congr 1
 funext pl
 rw [Ycr b op pl x.2.1 x.2.1 0 rfl,List.range_eq_range']
theorem Ycs (b:Bool)(op:Int)(pl:Nat)(chs:List Cn)(hl:chs.length≤1000)(hp:pl≤100):∀ (r:List Cn) (i m:Nat) (out:List (Int×Unit)),chs.drop i=r→i≤chs.length→out.length+r.length≤100000 →
    Z5 (m+r.length+1) op b chs out (pl:Int) (i:Int)=Za4 m op b chs (out++hits b op pl i r) ((pl+1:Nat):Int)
  | [],i,m,out,h,hi,ho=>by
   have:=Xg h hi
   subst this
   simp only [List.length_nil,Zkr,geL,cond_false,wS (show pl<1000000000000 by omega),hits,List.append_nil,Nat.add_zero]
  | c::r,i,m,out,h,hi,ho=>by
   obtain⟨h1,h2,h3⟩:=Yt h
   simp only [List.length_cons] at ho ⊢
   have ih:=fun o (ho2:o.length+r.length≤100000)=>Ycs b op pl chs hl hp r (i+1) m o h3 (by omega) ho2
   have hb:Zb (out.length+[((i:Int),())].length) 8=true:=Zay (by grind) (by omega)
   have e:Z5 (m+(r.length+1)+1) op b chs out (pl:Int) (i:Int)=bif hitP b op pl c then Z5 (m+r.length+1) op b chs (out++[((i:Int),())]) (pl:Int) ((i+1:Nat):Int) else Z5 (m+r.length+1) op b chs out (pl:Int) ((i+1:Nat):Int):=by
    rw [show m+(r.length+1)+1=(m+r.length+1)+1 by omega]
    rw [Zkr]
    simp only [ltL h2,cond_true,ix_s h2,wS (show i<1000000000000 by omega),hb]
    generalize Z5 (m+r.length+1) op b chs (out++[((i:Int),())]) (pl:Int) ((i+1:Nat):Int)=Z1
    generalize Z5 (m+r.length+1) op b chs out (pl:Int) ((i+1:Nat):Int)=Z2
    unfold hitP
    cases b <;> simp only [Tj.selF,Tj.keyF,cond_true,cond_false,Bool.not_false,Bool.not_true] <;> grind
   rw [e,hits]
   grind
theorem Yct (b:Bool)(op:Int)(chs:List Cn)(hl:chs.length≤1000):∀ (k pl n:Nat) (out:List (Int×Unit)),pl+k=20→out.length+1000 * k≤30000→k * (chs.length+2)+1≤n →
    Za4 n op b chs out (pl:Int)=some (out++(List.range' pl k).flatMap (fun q:Nat=>hits b op q 0 chs),())
  | 0,pl,n,out,hp,ho,hn=>by
   obtain⟨m,rfl⟩:∃ m,n=m+1:=⟨n - 1,by omega⟩
   have:pl=20:=by omega
   subst this
   simp [Zkq]
  | k+1,pl,n,out,hp,ho,hn=>by
   have he:(k+1) * (chs.length+2)=k * (chs.length+2)+(chs.length+2):=by grind
   obtain⟨m,rfl⟩:∃ m,n=(m+chs.length+1)+1:=⟨n - chs.length - 2,by omega⟩
   have hh:=Z6q b op pl chs 0
   have hpl:decide ((pl:Int)<20)=true:=decide_eq_true (by omega)
   have:=Ycs b op pl chs hl (by omega) chs 0 m out rfl (by omega) (by omega)
   simp only [Int.natCast_zero] at this
   rw [Zkq,hpl,cond_true,this,Yct b op chs hl k (pl+1) m _ (by omega) (by grind) (by omega),List.range'_succ,List.flatMap_cons,List.append_assoc]
theorem Z6r (x:Gr)(op:Int)(b:Bool)(hl:x.2.1.length≤1000):Zfz x op b=some (joinL b x op,()):=by
 rw [Zw3,Yi5,List.range_eq_range']
 have hf:=Yn
 have:=Yct b op x.2.1 hl 20 0 fuel [] rfl (by simp) (by omega)
 grind
end Tg
