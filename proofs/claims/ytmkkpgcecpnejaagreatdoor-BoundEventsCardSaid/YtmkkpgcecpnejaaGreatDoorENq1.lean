import Derived.Test.YtmkkpgcecpnejaaGreatDoorEQ9
/- Functions of the code, told plainly and checked by the kernel. -/
set_option linter.unusedVariables false
set_option linter.unusedSimpArgs false
set_option maxRecDepth 100000
namespace Tg
noncomputable section
open Go.Abs hiding fuel
open Go.Proofs.Tryz (prog)
open Int (ofNat toNat)
open Go.IntKind (wrap)
def Ynz:Tb:=[]
def F38:TFun:=⟨[],[],[.c (.sl [.int .u8,.int .i64,.int .i64,.int .i64,.int .i64])],[.c (.p db)],qc [qn 2,qb,qn 3],[],[],0⟩
def Yfj:=mkC Ynz prog 38 F38
theorem ok38:Yfj.ok prog 38:=mkO trivial
def Zkl (a0:(List (Int×Int×Int×Int×Int×Unit))):Option (Bool×Unit):=Yfj.fn (a0,())
theorem Zbm a0:Eq (Zkl a0) <| some (decide (ofNat a0.length>70),()):=mkE
def Yn0:Tb:=[(38,Yfj)]
def F12:TFun:=⟨[],[],[.a Nq1],[.c (.p db)],qc [qn 2,qb,qn 14],[],[],0⟩
def Yfk:=mkC Yn0 prog 12 F12
theorem ok12:Yfk.ok prog 12:=mkO ⟨ok38,trivial⟩
def Zkm (a0:Ny1):Option (Bool×Unit):=Yfk.fn (a0,())
theorem Zv4 a0:Eq (Zkm a0) <| (Zkl a0.2.1).bind fun e0=>bif e0.1 then some (true,()) else (Zkl a0.2.2.2.2.1).bind fun e1=>bif e1.1 then some (true,()) else some (decide (ofNat a0.2.2.1.length>10),()):=mkE
def tab5:Tb:=[(12,Yfk)]
def F5:TFun:=⟨[],[(7,qc [qn 1,[.c (.p (.sl [.sl Nq2]))],qn 3,qi,qn 19])],[.a Nq1,.c (.sl [.sl Nq2])],[.c (.p db)],qc [qn 4,qb,qn 20],[],[],0⟩
def con5:=mkC tab5 prog 5 F5
theorem ok5:con5.ok prog 5:=mkO ⟨ok12,trivial⟩
def Zqc (a0:Ny1)(a1:(List (List Ny2×Unit))):Option (Bool×Unit):=con5.fn (a0,a1,())
def Zcr (n:Nat)(x0:(List (List Ny2×Unit)))(x1:Int):Option (Bool×Unit):=itr tab5 prog 5 F5 n 7 (x0,x1,())
theorem Zv5 a0 a1:Eq (Zqc a0 a1) <| (Zkm a0).bind fun e0=>bif e0.1 then some (true,()) else bif ofNat a1.length>6 then some (true,()) else Zcr fuel a1 0:=mkE
theorem Zkn n x0 x1:Eq (Zcr (n+1) x0 x1) <| bif x1<ofNat x0.length then ix x0 x1 fun e0=>bif ofNat e0.1.length>70 then some (true,()) else Zcr n x0 (wrap .i64 (x1+1)) else some (false,()):=mkI
def Yn1:Tb:=[]
def F65:TFun:=⟨[],[],[.c di,.c di],[.c (.p di)],qc [qn 4,qi,qn 12],[],[],0⟩
def Yfl:=mkC Yn1 prog 65 F65
theorem ok65:Yfl.ok prog 65:=mkO trivial
def Zgc (a0 a1:Int):Option (Int×Unit):=Yfl.fn (a0,a1,())
theorem Zv6 a0 a1:Eq (Zgc a0 a1) <| bif a1<1 then some (2,()) else bif a1>1073741824 then some (2,()) else bif a0<(-1099511627776) then some (16,()) else bif a0>1099511627776 then some (16,()) else some (0,()):=mkE
def Yn2:Tb:=[(65,Yfl)]
def F41:TFun:=⟨[],[],[.a Nq2],[.c (.p db)],qc [qn 2,qb,qn 27],[],[],0⟩
def Yfm:=mkC Yn2 prog 41 F41
theorem ok41:Yfm.ok prog 41:=mkO ⟨ok65,trivial⟩
def Zko (a0:Ny2):Option (Bool×Unit):=Yfm.fn (a0,())
theorem Zv7 a0:Eq (Zko a0) <| bif a0.1 then bif a0.2.2.1==0&&(a0.2.2.2.1==0&&(a0.2.2.2.2.1==0&&true)) then bif a0.2.1==9223372036854775807 then some (true,()) else (Zgc a0.2.1 1).bind fun e0=>some (e0.1==0,()) else some (false,()) else bif a0.2.1==0 then (Zgc a0.2.2.2.1 1).bind fun e0=>some (e0.1==0,()) else some (false,()):=mkE
def Yi6:Tb:=[(41,Yfm)]
def F14:TFun:=⟨[],[(6,qc [[.c (.p (.sl Nq2))],qn 2,qi,qn 15])],[.c (.sl Nq2)],[.c (.p di)],qc [qn 2,qi,qn 16],[],[],0⟩
def Yfn:=mkC Yi6 prog 14 F14
theorem ok14:Yfn.ok prog 14:=mkO ⟨ok41,trivial⟩
def Zkp (a0:(List Ny2)):Option (Int×Unit):=Yfn.fn (a0,())
def Zcs (n:Nat)(x0:(List Ny2))(x1:Int):Option (Int×Unit):=itr Yi6 prog 14 F14 n 6 (x0,x1,())
theorem Zv8 a0:Eq (Zkp a0) <| bif ofNat a0.length>60 then some (4,()) else Zcs fuel a0 0:=mkE
theorem Zkq n x0 x1:Eq (Zcs (n+1) x0 x1) <| bif x1<ofNat x0.length then ix x0 x1 fun e0=>(Zko e0).bind fun e1=>bif !e1.1 then some (8,()) else Zcs n x0 (wrap .i64 (x1+1)) else some (0,()):=mkI
def tab6:Tb:=[(13,Ydc),(14,Yfn)]
def F6:TFun:=⟨[9],[(9,qc [qn 2,qi,qi,qn 51]),(11,qc [qn 1,[.c (.p (.sl [.sl Nq2]))],qi,qi,qn 7,qi,qn 43])],[.a Nq1,.c (.sl [.sl Nq2]),.c di,.c di],[.c (.p di)],qc [qn 8,qi,qn 46],[],[],0⟩
def con6:=mkC tab6 prog 6 F6
theorem ok6:con6.ok prog 6:=mkO ⟨ok13,ok14,trivial⟩
def Zqd (a0:Ny1)(a1:(List (List Ny2×Unit)))(a2 a3:Int):Option (Int×Unit):=con6.fn (a0,a1,a2,a3,())
def Zfo (n:Nat)(x0 x1:Int):Option (Int×Unit):=itr tab6 prog 6 F6 n 9 (x0,x1,())
def Zbp (n:Nat)(x0:(List (List Ny2×Unit)))(x1 x2 x3:Int):Option (Int×Unit):=itr tab6 prog 6 F6 n 11 (x0,x1,x2,x3,())
theorem Zv9 a0 a1 a2 a3:Eq (Zqd a0 a1 a2 a3) <| (Zj7 a0).bind fun e0=>bif e0.2.1 !=0 then some (e0.2.1,()) else bif ofNat a1.length !=ofNat a0.2.2.1.length then some (2,()) else Zbp fuel a1 a2 a3 0:=mkE
theorem Zuk n x0 x1:Eq (Zfo (n+1) x0 x1) <| bif x0<1 then some (2,()) else bif x0>3 then some (2,()) else bif x1<1 then some (2,()) else bif x1>8 then some (2,()) else some (0,()):=mkI
theorem Ziq n x0 x1 x2 x3:Eq (Zbp (n+1) x0 x1 x2 x3) <| bif x3<ofNat x0.length then ix x0 x3 fun e0=>(Zkp e0.1).bind fun e1=>bif e1.1 !=0 then some (e1.1,()) else Zbp n x0 x1 x2 (wrap .i64 (x3+1)) else Zfo n x1 x2:=mkI
end
end Tg

/- What a question's check says (out of BuildApart). -/
namespace Tg
open Go
open Go.Abs (Zc Zh tmm)
theorem notB {β:Type}(b:Bool)(x y:β):(bif !b then x else y)=bif b then y else x:=by cases b <;> rfl
theorem r13 (t:Int):Zgc t 1=some (bif tmB t then 0 else 16,()):=by rw [Zv6];unfold tmB;rw [show decide ((1:Int)<1)=false from rfl,show decide ((1:Int)>1073741824)=false from rfl,cond_false,cond_false,Ykx,Yky];cases decide (t >= -1099511627776) <;> cases decide (t<=1099511627776) <;> rfl
theorem r20v (e:Ev):Zko e=some (evOk e,()):=by rw [Zv7,r13,r13];unfold evOk zR;cases e.1 <;> cases (e.2.2.1==0&&(e.2.2.2.1==0&&(e.2.2.2.2.1==0&&true))) <;> cases (e.2.1==0) <;> cases (e.2.1==9223372036854775807) <;> cases tmB e.2.1 <;> cases tmB e.2.2.2.1 <;> rfl
theorem Yk4 (l:List Ev):Zkp l=some (Zee l,()):=by
 have hf:=Zdf;rw [Zv8];unfold Zee;by_cases h:(l.length:Int)>60
 . rw [lenI,dT h,cond_true,cond_true]
 . rw [lenI,dF h,cond_false,cond_false,Z2e (f:=fun n k=>Zcs n l k) (l:=l) (p:=evOk) (bad:=some (8,())) (fin:=some (0,())) (N:=0)
    (fun n i e he=>by have hi:=(J0d.1 he).1;rw [Zkq,ltL he,cond_true,ix_s he,r20v,J0k,wS (show i<1000000000000 by omega),notB])
    (fun n hn=>by rw [Zkq,geL,cond_false]) fuel (by omega)]
   cases l.all evOk <;> rfl
theorem pr9 (p r:Int)(n:Nat):Zfo (n+1) p r=some (prE p r,()):=by rw [Zuk];unfold prE;cases decide (p<1) <;> cases decide (p>3) <;> cases decide (r<1) <;> cases decide (r>8) <;> rfl
theorem Zul (inp:Inp)(hl:inp.length<=1000)(p r:Int):∀ (rest:Inp) (i n:Nat),inp.drop i=rest->i<=inp.length->rest.length+2<=n->Zbp n inp p r (i:Int)=some (bif Za6 rest != 0 then Za6 rest else prE p r,())
 | [],i,n,h,hi,hn=>by obtain⟨m,rfl⟩:∃ m,n=m+1+1:=⟨n - 2,by simp at hn;omega⟩;obtain rfl:=Zdz h hi;rw [Ziq,geL,cond_false,pr9];rfl
 | l::rest,i,n,h,hi,hn=>by
  obtain⟨m,rfl⟩:∃ m,n=m+1:=⟨n - 1,by simp at hn;omega⟩;obtain⟨h1,h2,h3⟩:=Zdy h;have ih:=Zul inp hl p r rest (i+1) m h3 (by omega) (by simp at hn;omega);rw [Ziq,ltL h2,cond_true,ix_s h2,Yk4,J0k,wS (show i<1000000000000 by omega),ih,Za6];cases h:(Zee l.1 != 0) with
  | true=>rw [cond_true,cond_true,h];rfl
  | false=>rw [cond_false,cond_false]
theorem Yfo (q:Qr)(inp:Inp)(hl:inp.length<=1000)(p r:Int):Zqd q inp p r=some (askE q inp p r,()):=by
 have hf:=Zdf;rw [Zv9,Z6e,J0k];unfold askE;have:=Zul inp hl p r inp 0 fuel rfl (by omega) (by omega);cases h:((chkQ q).2.1 != 0) with
 | true=>rfl
 | false=>rw [cond_false,cond_false,lenI,lenI,show (0:Int)=((0:Nat):Int) from rfl,this];cases ((inp.length:Int) != (q.2.2.1.length:Int)) <;> rfl
theorem Yfp (q:Qr)(inp:Inp):∃ b,Zqc q inp=some (b,())/\(b=false->inp.length<=6/\q.2.1.length<=70/\q.2.2.1.length<=10/\q.2.2.2.2.1.length<=70):=by
 have hf:=Zdf;have h8:∃ b,Zkm q=some (b,())/\(b=false->q.2.1.length<=70/\q.2.2.1.length<=10/\q.2.2.2.2.1.length<=70):=by
  rw [Zv4];by_cases h1:Int.ofNat q.2.1.length>70
  . exact⟨true,by rw [Zbm,dT h1];rfl,fun h=>by cases h⟩
  . by_cases h2:Int.ofNat q.2.2.2.2.1.length>70
    . exact⟨true,by rw [Zbm,Zbm,dF h1,dT h2];rfl,fun h=>by cases h⟩
    . refine⟨decide (Int.ofNat q.2.2.1.length>10),by rw [Zbm,Zbm,dF h1,dF h2];rfl,fun h=>?_⟩;have h3:=of_decide_eq_false h;simp only [J0g] at h1 h2 h3;omega
 obtain⟨b,h1,h2⟩:=h8;rw [Zv5,h1,J0k];cases b with
 | true=>exact⟨true,rfl,fun h=>by cases h⟩
 | false =>
  by_cases h3:Int.ofNat inp.length>6
  . exact⟨true,by rw [dT h3];rfl,fun h=>by cases h⟩
  . have h4:inp.length<=6:=by simp only [J0g] at h3;omega
    rw [dF h3,cond_false,cond_false,Z2e (f:=fun n k=>Zcr n inp k) (l:=inp) (p:=fun e=>!decide (Int.ofNat e.1.length>70)) (bad:=some (true,())) (fin:=some (false,())) (N:=0)
     (fun n i e he=>by have hi:=(J0d.1 he).1;rw [Zkn,ltL he,cond_true,ix_s he,wS (show i<1000000000000 by omega),notB])
     (fun n hn=>by rw [Zkn,geL,cond_false]) fuel (by omega)]
    cases inp.all fun e=>!decide (Int.ofNat e.1.length>70)
    . exact⟨true,rfl,fun h=>by cases h⟩
    . exact⟨false,rfl,fun _=>⟨h4,h2 rfl⟩⟩
end Tg
