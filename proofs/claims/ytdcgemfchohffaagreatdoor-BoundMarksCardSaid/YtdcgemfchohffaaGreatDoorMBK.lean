import Derived.Test.YtdcgemfchohffaaGreatDoorMAL
import Derived.Test.YtdcgemfchohffaaGreatDoorMBW
/- Functions of the code, told plainly and checked by the kernel. -/
set_option linter.unusedVariables false
set_option linter.unusedSimpArgs false
set_option maxRecDepth 100000
namespace Tg
noncomputable section
open Go.Abs hiding fuel
open Go.Proofs.Tryz (prog)
open Int (ofNat toNat)
open Go.IntKind (wrap)
def tab6:Tb:=[(12,Yci),(13,Yej)]
def F6:TFun:=⟨[],[],[.a Wq1],[.c (.p db)],qc [qn 2,qb,qn 8],[],[],0⟩
def con6:=mkC tab6 prog 6 F6
theorem ok6:con6.ok prog 6:=mkO ⟨ok12,ok13,trivial⟩
def Zl0 (a0:Wy1):Option (Bool×Unit):=con6.fn (a0,())
theorem Z3v a0:Eq (Zl0 a0) <| (Zjt a0).bind fun e0=>bif !e0.1 then (Zk3 a0).bind fun e1=>some (e1.1==0,()) else some (false,()):=mkE
def tab3:Tb:=[(5,con5),(6,con6),(7,Ye5)]
def F3:TFun:=⟨[],[(14,qc [qn 1,[.boxN 35 14 [.any,.any,.any,.any,.any,.any,.any,.any,.any,.any,.p (.sl [.int .u8,.int .i64]),.p (.sl [.int .i64,.int .i64,.int .i64,.int .i64,.int .i64]),.any,.any]],qn 1,qb,[.c (.p (.sl [.int .i64]))],[.c (.p (.sl [.int .i64]))],qn 1,qi,qn 118]),(26,qc [qn 1,[.boxN 35 14 [.any,.any,.any,.any,.any,.any,.any,.any,.any,.any,.p (.sl [.int .u8,.int .i64]),.p (.sl [.int .i64,.int .i64,.int .i64,.int .i64,.int .i64]),.any,.any]],qn 1,qb,[.c (.p (.sl [.int .i64]))],[.c (.p (.sl [.int .i64]))],qn 1,qi,qi,qn 1,qi,qn 115])],[.a Wq1],[.c (.p db)],qc [qn 2,qb,qn 123],[],[],0⟩
def con3:=mkC tab3 prog 3 F3
theorem ok3:con3.ok prog 3:=mkO ⟨ok5,ok6,ok7p,trivial⟩
def Zg5 (a0:Wy1):Option (Bool×Unit):=con3.fn (a0,())
def Yg (n:Nat)(x0:(List (Int×Int×Unit)))(x1:(List (Int×Int×Int×Int×Int×Unit)))(x2:Bool)(x3 x4:(List (Int×Unit)))(x5:Int):Option (Bool×Unit):=itr tab3 prog 3 F3 n 14 (x0,x1,x2,x3,x4,x5,())
def Y0 (n:Nat)(x0:(List (Int×Int×Unit)))(x1:(List (Int×Int×Int×Int×Int×Unit)))(x2:Bool)(x3 x4:(List (Int×Unit)))(x5 x6 x7:Int):Option (Bool×Unit):=itr tab3 prog 3 F3 n 26 (x0,x1,x2,x3,x4,x5,x6,x7,())
theorem Znd a0:Eq (Zg5 a0) <| (Zl0 a0).bind fun e0=>bif !e0.1 then some (true,()) else (Zdr a0).bind fun e1=>bif e1.2.2.1 !=0 then some (false,()) else bif ofNat e1.1.length !=ofNat a0.2.2.2.2.2.2.2.2.2.2.2.2.2.1.length then some (false,()) else bif ofNat e1.2.1.length !=ofNat a0.2.2.2.2.2.2.2.2.2.2.2.2.2.1.length then some (false,()) else Yg fuel a0.2.2.2.2.2.2.2.2.2.2.1 a0.2.2.2.2.2.2.2.2.2.2.2.1 true e1.1 e1.2.1 0:=mkE
theorem Zd2 n x0 x1 x2 x3 x4 x5:Eq (Yg (n+1) x0 x1 x2 x3 x4 x5) <| bif x5<ofNat x3.length then ix x4 x5 fun e0=>bif e0.1<1 then some (false,()) else ix x4 x5 fun e1=>ix x3 x5 fun e2=>bif e1.1>e2.1 then some (false,()) else ix x1 x5 fun e3=>ix x0 e3.2.2.1 fun e4=>let k1:=Y0 n x0 x1 x2 x3 x4 x5 e3.2.2.1 0;bif e4.1 !=2 then bif e4.1 !=3 then Yg n x0 x1 x2 x3 x4 (wrap .i64 (x5+1)) else k1 else k1 else some (x2,()):=mkI
theorem Zd3 n x0 x1 x2 x3 x4 x5 x6 x7:Eq (Y0 (n+1) x0 x1 x2 x3 x4 x5 x6 x7) <| bif x7<ofNat x3.length then ix x1 x7 fun e0=>let k1:=Y0 n x0 x1 x2 x3 x4 x5 x6 (wrap .i64 (x7+1));bif e0.1==x6 then ix x3 x7 fun e1=>ix x3 x5 fun e2=>bif wrap .i64 (e1.1+2)>e2.1 then some (false,()) else ix x4 x7 fun e3=>ix x4 x5 fun e4=>bif wrap .i64 (e3.1+2)>e4.1 then some (false,()) else k1 else k1 else Yg n x0 x1 x2 x3 x4 (wrap .i64 (x5+1)):=mkI
def tab4:Tb:=[(5,con5),(6,con6),(8,con8),(9,con9)]
def F4:TFun:=⟨[12],[(12,qc [qn 3,qb,qi,qi,[.boxN 48 3 [.p di,.p di,.p di]],qi,qi,qn 59]),(14,qc [qn 1,[.boxN 35 14 [.any,.any,.any,.any,.any,.any,.any,.any,.any,.any,.any,.any,.p (.sl [.int .u8,.int .i64,.int .i64,.sl [.int .i64,.int .u8,.int .i64,.int .i64,.int .i64,.int .i64,.int .i64,.int .i64,.int .i64,.int .i64,.int .i64],.sl [.int .i64],.sl [.int .i64,.int .i64,.int .i64,.int .i64,.int .i64,.int .i64,.int .i64,.int .i64,.int .i64,.int .i64,.int .i64],.sl [.bool,.int .i64,.int .i64,.int .i64,.int .i64],.sl [.int .i64,.int .i64,.int .i64,.int .i64,.int .i64],.sl [.int .i64,.int .i64,.int .i64]]),.any]],qn 1,qb,qi,qi,[.boxN 48 3 [.p di,.p di,.p di]],qi,qi,qi,qn 58])],[.a Wq1],[.c (.p db)],qc [qn 2,qb,qn 65],[],[],0⟩
def con4:=mkC tab4 prog 4 F4
theorem ok4:con4.ok prog 4:=mkO ⟨ok5,ok6,ok8,ok9,trivial⟩
def Ziu (a0:Wy1):Option (Bool×Unit):=con4.fn (a0,())
def Zbl (n:Nat)(x0:Bool)(x1 x2 x3 x4 x5 x6 x7:Int):Option (Bool×Unit):=itr tab4 prog 4 F4 n 12 (x0,x1,x2,x3,x4,x5,x6,x7,())
def Qz (n:Nat)(x0:(List (Int×Int×Int×List (Int×Int×Int×Int×Int×Int×Int×Int×Int×Int×Int×Unit)×List (Int×Unit)×List (Int×Int×Int×Int×Int×Int×Int×Int×Int×Int×Int×Unit)×List (Bool×Int×Int×Int×Int×Unit)×List (Int×Int×Int×Int×Int×Unit)×List (Int×Int×Int×Unit)×Unit)))(x1:Bool)(x2 x3 x4 x5 x6 x7 x8 x9:Int):Option (Bool×Unit):=itr tab4 prog 4 F4 n 14 (x0,x1,x2,x3,x4,x5,x6,x7,x8,x9,())
theorem Zor a0:Eq (Ziu a0) <| (Zl0 a0).bind fun e0=>bif !e0.1 then some (true,()) else (Zlb a0).bind fun e1=>(Zhz a0).bind fun e2=>Qz fuel a0.2.2.2.2.2.2.2.2.2.2.2.2.1 true e1.1 e1.2.1 e2.1.1 e2.1.2.1 e2.1.2.2.1 e2.2.1 0 0:=mkE
theorem Zbm n x0 x1 x2 x3 x4 x5 x6 x7:Eq (Zbl (n+1) x0 x1 x2 x3 x4 x5 x6 x7) <| let k1:=some (false,());bif x2 !=0 then k1 else bif x6 !=0 then k1 else bif x1<wrap .i64 (2*x7) then k1 else bif x0 then some (((x3==0&&(x4==0&&(x5==0&&true)))==(x1==wrap .i64 (2*x7)),())) else k1:=mkI
theorem Zeg n x0 x1 x2 x3 x4 x5 x6 x7 x8 x9:Eq (Qz (n+1) x0 x1 x2 x3 x4 x5 x6 x7 x8 x9) <| bif x9<ofNat x0.length then ix x0 x9 fun e0=>Qz n x0 x1 x2 x3 x4 x5 x6 x7 (wrap .i64 (x8+ofNat e0.2.2.2.2.2.1.length)) (wrap .i64 (x9+1)) else Zbl n x1 x2 x3 x4 x5 x6 x7 x8:=mkI
end
end Tg

/- Weights: at least 1, not too great; those of marks are at most those of records. -/
namespace Tg
open Go
open Go.Abs (Zl Zy tmm)
theorem Zep {α:Type}{v:Nat→α→Int}{C:Int}:∀ {l:List α} {i:Nat},(∀ k e,l[k]? = some e→0≤v (i+k) e∧v (i+k) e≤C)→0≤sumI v i l∧sumI v i l≤C * (l.length:Int)
 | [],i,_=>by simp [sumI]
 | e::l,i,h=>by
  have h0:=h 0 e rfl;have ih:=Zep (v:=v) (C:=C) (l:=l) (i:=i+1) fun k e he=>by have:=h (k+1) e (by simpa using he);rwa [show i+(k+1)=i+1+k by omega] at this
  rw [Nat.add_zero] at h0;rw [sumI,List.length_cons,Int.natCast_add,Int.mul_add,show C * ((1:Nat):Int)=C from Int.mul_one C];omega
theorem Zyr {α:Type}{v w:Nat→α→Int}:∀ {l:List α} {i:Nat},(∀ k e,l[k]? = some e→v (i+k) e≤w (i+k) e)→sumI v i l≤sumI w i l
 | [],i,_=>by simp [sumI]
 | e::l,i,h=>by
  have h0:=h 0 e rfl;have ih:=Zyr (v:=v) (w:=w) (l:=l) (i:=i+1) fun k e he=>by have:=h (k+1) e (by simpa using he);rwa [show i+(k+1)=i+1+k by omega] at this
  rw [Nat.add_zero] at h0;rw [sumI,sumI];omega
theorem Yiv {f:Nat→Int}{C:Int}:∀ {n:Nat},(∀ k,k<n→0≤f k∧f k≤C)→0≤sR n f∧sR n f≤C * (n:Int)
 | 0,_=>by simp [sR]
 | n+1,h=>by have ih:=Yiv (f:=f) (C:=C) (n:=n) fun k hk=>h k (by omega);have h0:=h n (by omega);rw [sR,Int.natCast_add,Int.mul_add,show C * ((1:Nat):Int)=C from Int.mul_one C];omega
theorem Yiw {f:Nat→Int}{k0:Nat}:∀ {n:Nat},(∀ k,k<n→0≤f k)→k0<n→f k0≤sR n f
 | n+1,h,hk=>by
  have hn:=h n (by omega);rw [sR];by_cases e:k0=n
  · subst e;have:0≤sR k0 f:=by
     clear hk hn;have:∀ m,m≤k0→0≤sR m f:=by
      intro m
      induction m with
      | zero=>intro _;exact Int.le_refl 0
      | succ m ih=>intro hm;have h1:=ih (by omega);have h2:=h m (by omega);rw [sR];omega
     exact this k0 (Nat.le_refl _)
    omega
  · have:=Yiw (f:=f) (k0:=k0) (n:=n) (fun k hk=>h k (by omega)) (by omega);omega
def bB:Nat→Int
 | 0=>35
 | d+1=>3 * bB d+4
theorem Yix:∀ d,d≤22→35≤bB d∧bB d≤1161099205531:=by decide
section
variable {x:Gr} {W:Int}
theorem Z3w (hr:Tj.Zab x.1 x.2.1){k:Nat}{c:Cn}(hc:x.2.1[k]? = some c):∃ t:Nat,c.2.2.1=(t:Int)∧t<x.1.length:=by have:=hr.1 c (List.mem_of_getElem? hc);unfold Tj.okC at this;simp only [Bool.and_eq_true,decide_eq_true_eq] at this;exact⟨c.2.2.1.toNat,by omega,by omega⟩
theorem Z8m (hr:Tj.Zab x.1 x.2.1){op:Int}{k:Nat}{y:Int×Unit}(hy:(joinL false x op)[k]? = some y):∃ t:Nat,toO x y.1.toNat=(t:Int)∧t<x.1.length:=by obtain⟨i,c,rfl,hc,_⟩:=Z0u hr (List.mem_of_getElem? hy);rw [Int.toNat_natCast,Zef hc];exact Z3w hr hc
theorem Ykx (hr:Tj.Zab x.1 x.2.1){i:Nat}(hi:i<x.1.length):(joinL false x (i:Int)).length≤3:=by rw [Zdg hr];exact (Zoh hr hi).2
def wtU (x:Gr)(W:Int)(mk:Bool)(d:Nat)(op:Int):Int:=bif kdO x op==6||kdO x op==7 then 1 else bif kdO x op==4||kdO x op==5 then (bif mk then 1 else 1+2 * W) else 1+sumI (fun _ (j:Int×Unit)=>1+wt x W mk d (toO x j.1.toNat)) 0 (joinL false x op)
theorem Z8n (hr:Tj.Zab x.1 x.2.1)(hW:1≤W∧W≤17)(mk:Bool):∀ (d i:Nat),i<x.1.length→d≤22→(0≤wt x W mk d (i:Int)∧wt x W mk d (i:Int)≤bB d) ∧ ∀ e,d=e+1→1≤wt x W mk d (i:Int)∧wt x W mk d (i:Int)=wtU x W mk e (i:Int)
 | 0,i,_,_=>⟨⟨Int.le_refl 0,show (0:Int)≤35 by decide⟩,fun e h=>by omega⟩
 | d+1,i,hi,hd=>by
  have hb:=Yix d (by omega);have hs:=Zep (v:=fun _ (j:Int×Unit)=>1+wt x W mk d (toO x j.1.toNat)) (C:=1+bB d) (l:=joinL false x (i:Int)) (i:=0) fun k y hy=>by obtain⟨t,ht,hlt⟩:=Z8m hr hy;have:=(Z8n hr hW mk d t hlt (by omega)).1;rw [ht];omega
  have h3:=Ykx hr hi;have hm:(1+bB d) * ((joinL false x (i:Int)).length:Int)≤(1+bB d) * 3:=Int.mul_le_mul_of_nonneg_left (by omega) (by omega);have e:wt x W mk (d+1) (i:Int)=wtU x W mk d (i:Int):=by rw [wt,wtU,show Wr (1+Wr (2 * W))=1+2 * W by rw [show Wr (2 * W)=2 * W from w64 (by omega) (by omega)];exact w64 (by omega) (by omega)];rw [show Wr (1+sumI (fun _ (j:Int×Unit)=>1+wt x W mk d (toO x j.1.toNat)) 0 (joinL false x (i:Int)))=1+sumI (fun _ (j:Int×Unit)=>1+wt x W mk d (toO x j.1.toNat)) 0 (joinL false x (i:Int)) from w64 (by omega) (by omega)]
  have hu:1≤wtU x W mk d (i:Int)∧wtU x W mk d (i:Int)≤bB (d+1):=by
   unfold wtU;rw [bB];cases kdO x (i:Int)==6||kdO x (i:Int)==7 with
   | true=>simp only [cond_true];omega
   | false =>
    cases kdO x (i:Int)==4||kdO x (i:Int)==5 with
    | true=>cases mk <;> simp only [cond_true,cond_false] <;> omega
    | false=>simp only [cond_false];omega
  rw [e];refine⟨by omega,fun e' he=>?_⟩;obtain rfl:d=e' := by omega
  exact⟨hu.1,rfl⟩
theorem Z8o (hr:Tj.Zab x.1 x.2.1)(hW:1≤W∧W≤17):∀ (d i:Nat),i<x.1.length→d≤22→wt x W true d (i:Int)≤wt x W false d (i:Int)
 | 0,_,_,_=>Int.le_refl 0
 | d+1,i,hi,hd=>by
  rw [((Z8n hr hW true (d+1) i hi hd).2 d rfl).2,((Z8n hr hW false (d+1) i hi hd).2 d rfl).2];have:=Zyr (v:=fun _ (j:Int×Unit)=>1+wt x W true d (toO x j.1.toNat)) (w:=fun _ (j:Int×Unit)=>1+wt x W false d (toO x j.1.toNat)) (l:=joinL false x (i:Int)) (i:=0) fun k y hy=>by obtain⟨t,ht,hlt⟩:=Z8m hr hy;have:=Z8o hr hW d t hlt (by omega);rw [ht];omega
  unfold wtU;cases kdO x (i:Int)==6||kdO x (i:Int)==7 with
  | true=>exact Int.le_refl 1
  | false =>
   cases kdO x (i:Int)==4||kdO x (i:Int)==5 with
   | true=>simp only [cond_true,cond_false];omega
   | false=>simp only [cond_false];omega
theorem Z8p {pos:Int→Nat}(hr:Tj.Zab x.1 x.2.1)(ht:Topo x pos)(hW:1≤W∧W≤17)(mk:Bool){i:Nat}(hi:i<x.1.length):1≤wv x W mk (i:Int)∧wv x W mk (i:Int)≤1161099205531:=by have h:=Z8n hr hW mk 22 i hi (Nat.le_refl _);rw [wv,Zry hr ht 30 22 (i:Int) (by omega) (by omega)];exact⟨(h.2 21 rfl).1,Int.le_trans h.1.2 (Yix 22 (Nat.le_refl _)).2⟩
theorem Yhu {pos:Int→Nat}(hr:Tj.Zab x.1 x.2.1)(ht:Topo x pos)(hW:1≤W∧W≤17){i:Nat}(hi:i<x.1.length):wv x W true (i:Int)≤wv x W false (i:Int):=by rw [wv,wv,Zry hr ht 30 22 (i:Int) (by omega) (by omega),Zry hr ht 30 22 (i:Int) (by omega) (by omega)];exact Z8o hr hW 22 i hi (Nat.le_refl _)
theorem Z8q {pos:Int→Nat}(hr:Tj.Zab x.1 x.2.1)(ht:Topo x pos)(hl:x.2.1.length≤100)(hW:1≤W∧W≤17)(mk:Bool){i:Nat}(hk:kdO x (i:Int)=2∨kdO x (i:Int)=3){k:Nat}{c:Cn}(hc:x.2.1[k]? = some c)(hf:c.1=(i:Int)) :
    wv x W mk (toO x k)+2≤wv x W mk (i:Int):=by
  have hb:∀ j,j<x.2.1.length→0≤(bif frO x j==(i:Int) then 1+wv x W mk (toO x j) else 0)∧(bif frO x j==(i:Int) then 1+wv x W mk (toO x j) else 0)≤1161099205532:=fun j hj=>by obtain⟨t,h1,h2⟩:=Z3w hr (List.getElem?_eq_getElem hj);have:=Z8p hr ht hW mk h2;rw [Zef (List.getElem?_eq_getElem hj),h1];cases frO x j==(i:Int) <;> simp only [cond_true,cond_false] <;> omega
  have hs:=Yiv hb;have hg:=Yiw (k0:=k) (fun j hj=>(hb j hj).1) (List.getElem?_eq_some_iff.1 hc).1;rw [Ye7 hc,hf,beq_self_eq_true,cond_true] at hg;have hk4:(kdO x (i:Int)==6||kdO x (i:Int)==7)=false:=by rcases hk with h | h <;> rw [h] <;> rfl
  have hk5:(kdO x (i:Int)==4||kdO x (i:Int)==5)=false:=by rcases hk with h | h <;> rw [h] <;> rfl
  rw [Yfc hr ht mk (i:Int),hk4,hk5,cond_false,cond_false];rw [show Wr (1+sR x.2.1.length fun k=>bif frO x k==(i:Int) then 1+wv x W mk (toO x k) else 0)=1+sR x.2.1.length fun k=>bif frO x k==(i:Int) then 1+wv x W mk (toO x k) else 0 from w64 (by omega) (by omega)];omega
end
theorem Z8r {w:Int×Int×Int×Unit}(h:fitW w=true):1≤winK w∧winK w≤17:=by
 unfold winK;by_cases hk:w.1=2
 · rw [if_pos hk];obtain⟨h1,h2,h3,h4,h5⟩:=Yit h hk;have hc:=Z93 (S:=w.2.1) h3;have hq:w.2.1 / w.2.2.1≤16:=Int.ediv_le_of_le_mul (by omega) h5;have hm:=Int.emod_add_mul_ediv w.2.1 w.2.2.1;unfold winN at hc ⊢;cases hd:decide (w.2.1 % w.2.2.1>0) with
   | true=>simp only [cond_true];have:0≤w.2.1 / w.2.2.1:=Int.ediv_nonneg (by omega) (by omega);omega
   | false =>
    rw [hd] at hc;simp only [cond_false] at hc ⊢;have h0:0≤w.2.1 / w.2.2.1:=Int.ediv_nonneg (by omega) (by omega);refine⟨?_,by omega⟩;rcases Int.lt_or_le (w.2.1 / w.2.2.1) 1 with hlt | hge
    · have:w.2.1 / w.2.2.1=0:=by omega
      rw [this] at hc;simp at hc;omega
    · exact hge
 · rw [if_neg hk];omega
end Tg

/- The bound that the program tells, as a sum. -/
namespace Tg
open Go
open Go.Abs (Zl Zy tmm)
theorem Zys {α β:Type}{f:Nat→Int→Int→Option β}{l:List α}{v:Nat→α→Int}{fin:Int→Option β}{C N:Nat}
    (hs:∀ (i:Nat) (e:α) (M:Nat) (R:Int→Option β),l[i]? = some e→(∀ n S,M≤n→f n (Wr S) ((i+1:Nat):Int)=R S) → ∀ n S,M+C≤n→f n (Wr S) (i:Int)=R (S+v i e))
    (he:∀ n S,N≤n→f n (Wr S) (l.length:Int)=fin S) (n:Nat) (S:Int) (hn:N+C * l.length≤n):f n (Wr S) 0=fin (S+sumI v 0 l):=by
  have key:∀ (r:List α) (i:Nat),l.drop i=r→i≤l.length → ∀ n S,N+C * r.length≤n→f n (Wr S) (i:Int)=fin (S+sumI v i r):=by
   intro r
   induction r with
   | nil =>
    intro i hd hi n S hn;have:i=l.length:=by have:=congrArg List.length hd;simp at this;omega
    subst this;rw [sumI,Int.add_zero];exact he n S (by simpa using hn)
   | cons e r ih =>
    intro i hd hi n S hn;obtain⟨h1,h2,h3⟩:=drop_at hd;have hm:C * (e::r).length=C * r.length+C:=by rw [List.length_cons,Nat.mul_add,Nat.mul_one]
    have:=hs i e (N+C * r.length) (fun S=>fin (S+sumI v (i+1) r)) h2 (fun n' S' hn' => ih (i+1) h3 (by omega) n' S' hn') n S (by omega);rw [this,sumI,Int.add_assoc]
  exact key l 0 rfl (Nat.zero_le _) n S hn
section
variable (m:Mch)
def wA (k:Nat):Int:=wv (mG m) (mWn m) false (toO (mG m) k)
def wB (k:Nat):Int:=wv (mG m) (mWn m) true (toO (mG m) k)
def ofv (kind:Int)(k:Nat):Int:=bif kind==1 then wA m k else bif kind==2 then wB m k else 1
def evv (k:Nat)(x:Evt):Int:=2+bif x.1 then wB m k else wA m k
def vQ (k:Nat)(q:Que):Int:=sumI (fun _ (e:Msg)=>ofv m e.1 k) 0 q.2.1
def vP (k:Nat)(c:Cn)(t:Tsk):Int:=sumI (fun _ (s:Snd)=>bif s.1==c.2.1 then 1+ofv m s.2.1 k else 0) 0 t.2.2.2.1+sumI (fun _ x=>evv m k x) 0 t.2.2.2.2.2.2.1
def vC (k:Nat)(c:Cn):Int:=((mT m)[c.1.toNat]?).elim 0 (vP m k c)
def vS (_:Nat)(t:Tsk):Int:=2 * (t.2.2.2.2.2.1.length:Int)
end
variable {m:Mch}
theorem Zqs {k:Nat}(h:k<(mG m).2.1.length):(rowW m false)[k]? = some (wA m k,()):=Zc2 h
theorem Zu9 {k:Nat}(h:k<(mG m).2.1.length):(rowW m true)[k]? = some (wB m k,()):=Zc2 h
theorem wr1R (S x:Int):Wr (Wr S+Wr (1+x))=Wr (S+(1+x)):=by rw [wrL,wrR]
theorem wr2R (S x:Int):Wr (Wr S+Wr (2+x))=Wr (S+(2+x)):=by rw [wrL,wrR]
theorem p16 {k:Nat}(hk:k<(mG m).2.1.length)(hk2:(mG m).2.1.length≤100)(q:Que)(hq:q.2.1.length≤100000){M:Nat}{R:Int→Option (Int×Int×Unit)}
    (hR:∀ n S,M≤n→Zaq n (mG m).2.1 (mT m) (rowW m false) (rowW m true) (Wr S) (mU m) (Int.ofNat (mU m).length) ((k+1:Nat):Int)=R S) (n:Nat) (S:Int) (hn:M+100010≤n) :
    Xh n (mG m).2.1 (mT m) (rowW m false) (rowW m true) (Wr S) (k:Int) (mU m) (Int.ofNat (mU m).length) (k:Int) q.2.1 (Int.ofNat q.2.1.length) 0=R (S+vQ m k q) :=
  Zys (f:=fun n s i=>Xh n (mG m).2.1 (mT m) (rowW m false) (rowW m true) s (k:Int) (mU m) (Int.ofNat (mU m).length) (k:Int) q.2.1 (Int.ofNat q.2.1.length) i) (l:=q.2.1) (v:=fun _ e=>ofv m e.1 k) (fin:=R) (C:=1) (N:=M+1)
   (fun i e M R he hR n S hn=>by
    obtain⟨n,rfl⟩:∃ q,n=q+1:=⟨n - 1,by omega⟩;have hi:=(List.getElem?_eq_some_iff.1 he).1;show _=R (S+ofv m e.1 k);rw [Zio,ltL he,cond_true,ix_s he,wS (show i<1000000000000 by omega),ofv];cases (e.1==1) with
    | true=>rw [cond_true,cond_true,ix_s (Zqs hk),← hR n _ (by omega),← wrL]
    | false =>
     rw [cond_false,cond_false];cases (e.1==2) with
     | true=>rw [cond_true,cond_true,ix_s (Zu9 hk),← hR n _ (by omega),← wrL]
     | false=>rw [cond_false,cond_false,← hR n _ (by omega),← wrL])
   (fun n S hn=>by obtain⟨n,rfl⟩:∃ q,n=q+1:=⟨n - 1,by omega⟩;rw [Zio,geL,cond_false,wS (show k<1000000000000 by omega)];exact hR n S (by omega)) n S (by omega)
theorem p56 {k:Nat}(hk:k<(mG m).2.1.length)(hk2:(mG m).2.1.length≤100)(l:List Evt)(hl:l.length≤100000){M:Nat}{R:Int→Option (Int×Int×Unit)}
    (hR:∀ n S,M≤n→Xi n (mT m) (rowW m false) (rowW m true) (Wr S) (mG m).2.1 (Int.ofNat (mG m).2.1.length) ((k+1:Nat):Int)=R S) (n:Nat) (S:Int) (hn:M+200010≤n) :
    Xj n (mT m) (rowW m false) (rowW m true) (Wr S) (k:Int) (mG m).2.1 (Int.ofNat (mG m).2.1.length) (k:Int) l (Int.ofNat l.length) 0=R (S+sumI (fun _ x=>evv m k x) 0 l) :=
  Zys (f:=fun n s i=>Xj n (mT m) (rowW m false) (rowW m true) s (k:Int) (mG m).2.1 (Int.ofNat (mG m).2.1.length) (k:Int) l (Int.ofNat l.length) i) (l:=l) (v:=fun _ x=>evv m k x) (fin:=R) (C:=2) (N:=M+1)
   (fun i e M R he hR n S hn=>by
    obtain⟨n,rfl⟩:∃ q,n=q+1+1:=⟨n - 2,by omega⟩;have hi:=(List.getElem?_eq_some_iff.1 he).1;show _=R (S+evv m k e);rw [Zir,ltL he,cond_true,ix_s he,evv];cases e.1 with
    | true=>rw [cond_true,cond_true,Zis,show ((2:Int)==1)=false from rfl,cond_false,show ((2:Int)==2)=true from rfl,cond_true,ix_s (Zu9 hk),wS (show i<1000000000000 by omega),← hR n _ (by omega),← wr2R]
    | false=>rw [cond_false,cond_false,Zis,show ((1:Int)==1)=true from rfl,cond_true,ix_s (Zqs hk),wS (show i<1000000000000 by omega),← hR n _ (by omega),← wr2R])
   (fun n S hn=>by obtain⟨n,rfl⟩:∃ q,n=q+1:=⟨n - 1,by omega⟩;rw [Zir,geL,cond_false,wS (show k<1000000000000 by omega)];exact hR n S (by omega)) n S (by omega)
theorem p40 {k:Nat}(hk:k<(mG m).2.1.length)(hk2:(mG m).2.1.length≤100)(c:Cn)(t:Tsk)(ht:TLen t){M:Nat}{R:Int→Option (Int×Int×Unit)}
    (hR:∀ n S,M≤n→Xi n (mT m) (rowW m false) (rowW m true) (Wr S) (mG m).2.1 (Int.ofNat (mG m).2.1.length) ((k+1:Nat):Int)=R S) (n:Nat) (S:Int) (hn:M+400000≤n) :
    Yq n (mT m) (rowW m false) (rowW m true) (Wr S) (k:Int) c.2.1 t.2.2.2.2.2.2.1 (mG m).2.1 (Int.ofNat (mG m).2.1.length) (k:Int) t.2.2.2.1 (Int.ofNat t.2.2.2.1.length) 0=R (S+vP m k c t):=by
  have h1:=ht.h1;have h4:=ht.h4;have:=Zys (f:=fun n s i=>Yq n (mT m) (rowW m false) (rowW m true) s (k:Int) c.2.1 t.2.2.2.2.2.2.1 (mG m).2.1 (Int.ofNat (mG m).2.1.length) (k:Int) t.2.2.2.1 (Int.ofNat t.2.2.2.1.length) i) (l:=t.2.2.2.1)
   (v:=fun _ (s:Snd)=>bif s.1==c.2.1 then 1+ofv m s.2.1 k else 0) (fin:=fun S=>R (S+sumI (fun _ x=>evv m k x) 0 t.2.2.2.2.2.2.1)) (C:=1) (N:=M+200100)
   (fun i e M R he hR n S hn=>by
    obtain⟨n,rfl⟩:∃ q,n=q+1:=⟨n - 1,by omega⟩;have hi:=(List.getElem?_eq_some_iff.1 he).1;show _=R (S+bif e.1==c.2.1 then 1+ofv m e.2.1 k else 0);rw [Ziq,ltL he,cond_true,ix_s he,wS (show i<1000000000000 by omega)];cases (e.1==c.2.1) with
    | false=>rw [cond_false,cond_false,← hR n _ (by omega),Int.add_zero]
    | true =>
     rw [cond_true,cond_true,ofv];cases (e.2.1==1) with
     | true=>rw [cond_true,cond_true,ix_s (Zqs hk),← hR n _ (by omega),← wr1R]
     | false =>
      rw [cond_false,cond_false];cases (e.2.1==2) with
      | true=>rw [cond_true,cond_true,ix_s (Zu9 hk),← hR n _ (by omega),← wr1R]
      | false=>rw [cond_false,cond_false,← hR n _ (by omega),← wrL];rfl)
   (fun n S hn=>by obtain⟨n,rfl⟩:∃ q,n=q+1+1:=⟨n - 2,by omega⟩;rw [Ziq,geL,cond_false,Zrf];exact p56 hk hk2 _ h4 hR n S (by omega)) n S (by omega)
  rw [this,vP,Int.add_assoc]
theorem Yky {r:List Int}(hv:Val m r)(hm:MLen m)(hc:Zba m=some (0,())):Zlb m=some (Wr (0+sumI (vQ m) 0 (mU m)+sumI (vC m) 0 (mG m).2.1+sumI vS 0 (mT m)),0,()):=by
 have hf:=X5;have h1:=hv.ops;have h2:=hv.chs;have htl:=hm.tl;have hul:=hv.ul;have e75:∀ n S,200000≤n→Qe n (Wr S) (mT m) (Int.ofNat (mT m).length) 0=some (Wr (S+sumI vS 0 (mT m)),0,()):=fun n S hn =>
  Zys (f:=fun n s i=>Qe n s (mT m) (Int.ofNat (mT m).length) i) (l:=mT m) (v:=vS) (fin:=fun S=>some (Wr S,0,())) (C:=1) (N:=1)
   (fun i e M R he hR n S hn=>by obtain⟨n,rfl⟩:∃ q,n=q+1:=⟨n - 1,by omega⟩;have hi:=(List.getElem?_eq_some_iff.1 he).1;rw [Zit,ltL he,cond_true,ix_s he,wS (show i<1000000000000 by omega),← hR n _ (by omega)];show Qe n (Wr (Wr S+Wr (2 * Int.ofNat _))) _ _ _=_;rw [wrL,wrR];rfl)
   (fun n S hn=>by obtain⟨n,rfl⟩:∃ q,n=q+1:=⟨n - 1,by omega⟩;rw [Zit,geL];rfl) n S (by omega)
 have e32:∀ n S,100000000≤n→Xi n (mT m) (rowW m false) (rowW m true) (Wr S) (mG m).2.1 (Int.ofNat (mG m).2.1.length) 0=some (Wr (S+sumI (vC m) 0 (mG m).2.1+sumI vS 0 (mT m)),0,()):=fun n S hn =>
  Zys (f:=fun n s i=>Xi n (mT m) (rowW m false) (rowW m true) s (mG m).2.1 (Int.ofNat (mG m).2.1.length) i) (l:=(mG m).2.1) (v:=vC m) (fin:=fun S=>some (Wr (S+sumI vS 0 (mT m)),0,())) (C:=400010) (N:=200010)
   (fun k c M R hc hR n S hn=>by
    obtain⟨n,rfl⟩:∃ q,n=q+1:=⟨n - 1,by omega⟩;have hk:=(List.getElem?_eq_some_iff.1 hc).1;have hok:=hv.ok.1 c (List.mem_of_getElem? hc);simp only [okC,Tj.okC,Bool.and_eq_true,decide_eq_true_eq] at hok;obtain⟨f,hf1⟩:∃ f:Nat,c.1=(f:Int):=⟨c.1.toNat,by omega⟩;obtain⟨t,ht⟩:∃ t,(mT m)[f]? = some t:=⟨_,List.getElem?_eq_getElem (by have:=hv.tl;omega)⟩;have hvc:vC m k c=vP m k c t:=by rw [vC,hf1,Int.toNat_natCast,ht];rfl
    rw [Zip,ltL hc,cond_true,ix_s hc,hf1,ix_s ht,hvc];exact p40 hk h2 c t (hm.t t (List.mem_of_getElem? ht)) hR n S (by omega))
   (fun n S hn=>by obtain⟨n,rfl⟩:∃ q,n=q+1+1:=⟨n - 2,by omega⟩;rw [Zip,geL,cond_false,Zre];exact e75 n S (by omega)) n S (by omega)
 have e10:=Zys (f:=fun n s i=>Zaq n (mG m).2.1 (mT m) (rowW m false) (rowW m true) s (mU m) (Int.ofNat (mU m).length) i) (l:=mU m) (v:=vQ m) (fin:=fun S=>some (Wr (S+sumI (vC m) 0 (mG m).2.1+sumI vS 0 (mT m)),0,())) (C:=100020) (N:=100000010)
  (fun k q M R hq hR n S hn=>by obtain⟨n,rfl⟩:∃ q,n=q+1:=⟨n - 1,by omega⟩;have hk:=(List.getElem?_eq_some_iff.1 hq).1;rw [Zin,ltL hq,cond_true,ix_s hq];exact p16 (by omega) h2 q (hm.u q (List.mem_of_getElem? hq)) hR n S (by omega))
  (fun n S hn=>by obtain⟨n,rfl⟩:∃ q,n=q+1+1:=⟨n - 2,by omega⟩;rw [Zin,geL,cond_false,Zu5];exact e32 n S (by omega)) fuel 0 (by omega)
 rw [wr0] at e10;rw [Zwu,Z3u hv hc,Option.bind_some,bne_self_eq_false,cond_false];exact e10
end Tg

/- The bound that the reference tells, as a sum. -/
namespace Tg
open Go
open Go.Abs (Zl Zy tmm)
variable {m:Mch}
structure Tok (m:Mch) (i:Nat) (t:Tsk):Prop where
 snd:∀ s∈t.2.2.2.1,0≤s.1∧s.1<(cnt false (i:Int) (mG m).2.1:Int)
 ev:t.2.2.2.2.2.2.1.length≠0→cnt false (i:Int) (mG m).2.1=1
theorem Ykz {b:Bool}(h:mchB b m=true){i:Nat}{t:Tsk}(ht:(mT m)[i]? = some t):Tok m i t:=by
 obtain⟨_,hr,_,_,htl,_,_,hfit⟩:=Zes h;have hi:=(List.getElem?_eq_some_iff.1 ht).1;have hfb:=hfit i t ht;obtain⟨o,ho⟩:∃ o,(mG m).1[i]? = some o:=⟨_,List.getElem?_eq_getElem (by omega)⟩;unfold fitB at hfb;rw [ho] at hfb;simp only [Bool.and_eq_true,beq_iff_eq (a:=t.1),List.all_eq_true,decide_eq_true_eq] at hfb;obtain⟨⟨e1,_⟩,hT,hS,_⟩:=hfb;have hT2:=hT;unfold Zjo at hT2;simp only [Bool.and_eq_true,List.all_eq_true] at hT2;obtain⟨_,_,hk,hsn,_⟩:=hT2;refine⟨fun s hs=>⟨?_,hS s hs⟩,fun he=>?_⟩
 · have:=hsn s hs;unfold sndB at this;simp only [Bool.and_eq_true,decide_eq_true_eq] at this;exact this.1
 · have hm:=(hr.2.2 i o ho).2;have h1:t.1=1:=by refine Classical.byContradiction fun hn=>?_;unfold Zql at hk;simp only [show (t.1==1)=false by simpa using hn,cond_false] at hk;revert hk;cases (t.1==2) <;> cases (t.1==3) <;> cases (t.1==4) <;> cases (t.1==5) <;> cases (t.1==6) <;> simp only [cond_true,cond_false,Bool.and_eq_true,beq_iff_eq,decide_eq_true_eq] <;> intro hk <;> omega
   rw [← e1,h1] at hm;unfold Zgv at hm;simp only [Bool.and_eq_true,decide_eq_true_eq] at hm;obtain⟨_,⟨_,_⟩,m3,m4⟩:=hm;have b1:(bnd 1).2.2.1=1:=rfl;have b2:(bnd 1).2.2.2=1:=rfl;omega
def oc (m:Mch)(i o:Nat):Nat:=((joinL false (mG m) (i:Int))[o]?).elim 0 (·.1.toNat)
theorem oc_s {r:List Int}(hv:Val m r){i o:Nat}(h:o<cnt false (i:Int) (mG m).2.1):(joinL false (mG m) (i:Int))[o]? = some (((oc m i o:Nat):Int),()) ∧ ∃ c,(mG m).2.1[oc m i o]? = some c∧c.1=(i:Int):=by
 have hl:=Zdg hv.ok false (i:Int);obtain⟨y,hy⟩:∃ y,(joinL false (mG m) (i:Int))[o]? = some y:=⟨_,List.getElem?_eq_getElem (by omega)⟩;obtain⟨j,c,rfl,hc,hs⟩:=Z0u hv.ok (List.mem_of_getElem? hy);have:oc m i o=j:=by rw [oc,hy];simp
 rw [this];exact⟨hy,c,hc,hs⟩
end Tg

/- Both sums are one: over channels, and over operators. -/
namespace Tg
open Go
variable {m:Mch}
theorem Yk0 {r:List Int}(hv:Val m r){i o:Nat}(h:o<cnt false (i:Int) (mG m).2.1):ouO (mG m) (oc m i o)=(o:Int):=by
 have hk:=Zly hv.ok false (i:Int);have hl:=Zdg hv.ok false (i:Int);have hs:=Tj.Zqr hk;have hlw:(Tj.Zg3 false (i:Int) (mG m).2.1).length=cnt false (i:Int) (mG m).2.1:=by rw [← hl,joinL,List.length_map]
 have key:=Tj.Z5x ((Tj.Zg3 false (i:Int) (mG m).2.1).map (Tj.keyO false (mG m).2.1)) 0 (List.pairwise_map.2 hs) (fun y hy=>by obtain⟨k,hk1,rfl⟩:=List.mem_map.1 hy;obtain⟨c,hc,hs⟩:=Tj.Zod.1 ((Tj.Zof hk).1 hk1);have hs:c.1=(i:Int):=hs;have hn:=hv.ok.2.1.2 c (List.mem_of_getElem? hc);simp only [Zd9,Bool.and_eq_true,decide_eq_true_eq] at hn;rw [Tj.Zpu hc,List.length_map,hlw];show 0≤c.2.1∧c.2.1<0+_;rw [hs] at hn;omega);obtain⟨g1,c,g2,g3⟩:=oc_s hv h;have hj:(Tj.Zg3 false (i:Int) (mG m).2.1)[o]? = some (oc m i o):=by rw [joinL,List.getElem?_map,Option.map_eq_some_iff] at g1;obtain⟨k,h1,h2⟩:=g1;rw [h1];have:=congrArg (fun y:Int×Unit=>y.1) h2;dsimp only at this;congr 1;omega
 have e1:((Tj.Zg3 false (i:Int) (mG m).2.1).map (Tj.keyO false (mG m).2.1))[o]? = some (Tj.keyO false (mG m).2.1 (oc m i o)):=by rw [List.getElem?_map,hj];rfl
 rw [key,List.getElem?_map,List.length_map,hlw,List.getElem?_range h] at e1;have e2:=Option.some.inj e1;rw [Tj.Zpu g2] at e2;rw [Yiu g2];have e3:(0:Int)+(o:Int)=c.2.1:=e2;omega
end Tg

/- What is left in a machine, counted. -/
namespace Tg
open Go
open Go.Abs (Zl Zy tmm)
def bare (m:Mch):Prop:=(∀ q∈mU m,q.2.1=[]) ∧ ∀ t∈mT m,t.2.2.2.1=[]∧t.2.2.2.2.2.2.1=[]
def sumN {α:Type}(f:α→Nat):List α→Nat
 | []=>0
 | x::l=>f x+sumN f l
theorem Zos {α:Type}{f:α→Nat}{B:Nat}:∀ {l:List α},(∀ x∈l,f x≤B)→sumN f l≤B * l.length
 | [],_=>Nat.zero_le _
 | x::l,h=>by have h1:=h x (by simp);have h2:=Zos (l:=l) fun y hy=>h y (by simp [hy]);rw [sumN,List.length_cons,Nat.mul_add];omega
theorem Z0w {α:Type}{f:α→Nat}:∀ {l:List α},sumN f l=0 ↔ ∀ x∈l,f x=0
 | []=>by simp [sumN]
 | x::l=>by have:=Z0w (f:=f) (l:=l);simp only [sumN,List.mem_cons,forall_eq_or_imp];rw [← this];omega
def evN (t:Tsk):Nat:=t.2.2.2.2.2.2.1.length
def pnN (t:Tsk):Nat:=t.2.2.2.1.length
def quN (q:Que):Nat:=q.2.1.length
theorem Yfe:∀ (l:List Tsk) (a b:Nat),a+sumN evN l≤1000000000000→b+sumN pnN l≤1000000000000→l.foldl Zyq ((a:Int),(b:Int))=(((a+sumN evN l:Nat):Int),((b+sumN pnN l:Nat):Int))
 | [],a,b,_,_=>rfl
 | t::l,a,b,h1,h2=>by
  simp only [sumN] at h1 h2;have e:Zyq ((a:Int),(b:Int)) t=(((a+evN t:Nat):Int),((b+pnN t:Nat):Int)):=by
   unfold Zyq;have p1:(a:Int)+Int.ofNat t.2.2.2.2.2.2.1.length=((a+evN t:Nat):Int):=by simp [evN]
   have p2:(b:Int)+Int.ofNat t.2.2.2.1.length=((b+pnN t:Nat):Int):=by simp [pnN]
   simp only [p1,p2];rw [w64 (by omega) (by omega),w64 (by omega) (by omega)]
  rw [List.foldl_cons,e,Yfe l _ _ (by omega) (by omega),sumN,sumN,Nat.add_assoc,Nat.add_assoc]
theorem Yff:∀ (l:List Que) (a:Nat),a+sumN quN l≤1000000000000→l.foldl Zoq (a:Int)=((a+sumN quN l:Nat):Int)
 | [],a,_=>rfl
 | t::l,a,h1=>by
  simp only [sumN] at h1;have e:Zoq (a:Int) t=((a+quN t:Nat):Int):=by
   unfold Zoq;have p1:(a:Int)+Int.ofNat t.2.1.length=((a+quN t:Nat):Int):=by simp [quN]
   rw [p1,w64 (by omega) (by omega)]
  rw [List.foldl_cons,e,Yff l _ (by omega),sumN,Nat.add_assoc]
theorem Yk1 {m:Mch}(hm:MLen m)(h1:(mT m).length≤100)(h2:(mU m).length≤100):Ye6 m=((sumN evN (mT m):Int),(sumN pnN (mT m):Int),(sumN quN (mU m):Int),()):=by have a:=Zos (f:=evN) (B:=100000) (l:=mT m) fun t ht=>(hm.t t ht).h4;have b:=Zos (f:=pnN) (B:=100000) (l:=mT m) fun t ht=>(hm.t t ht).h1;have c:=Zos (f:=quN) (B:=100000) (l:=mU m) fun q hq=>hm.u q hq;unfold Ye6;rw [show ((0:Int),(0:Int))=(((0:Nat):Int),((0:Nat):Int)) from rfl,Yfe _ _ _ (by omega) (by omega),show (mU m).foldl Zoq 0=(mU m).foldl Zoq ((0:Nat):Int) from rfl,Yff _ _ (by omega)];simp
theorem Yk2 {m:Mch}:bare m↔sumN evN (mT m)=0∧sumN pnN (mT m)=0∧sumN quN (mU m)=0:=by
 rw [Z0w,Z0w,Z0w];unfold bare evN pnN quN;constructor
 · rintro⟨h1,h2⟩;exact⟨fun t ht=>by rw [(h2 t ht).2];rfl,fun t ht=>by rw [(h2 t ht).1];rfl,fun q hq=>by rw [h1 q hq];rfl⟩
 · rintro⟨h1,h2,h3⟩;exact⟨fun q hq=>List.length_eq_zero_iff.1 (h3 q hq),fun t ht=>⟨List.length_eq_zero_iff.1 (h2 t ht),List.length_eq_zero_iff.1 (h1 t ht)⟩⟩
theorem Yk3 {b:Bool}{m:Mch}(hq:QOk (mQ m) b)(hm:MLen m)(h:mchB b m=true):Zhz m=some (Ye6 m,0,()):=by
 rw [Zuy,Z0r m b hq hm,h];have hf:=X5;have hl:=hm.tl;have hu:=hm.ul;simp only [cond_true,Option.bind_some,bne_self_eq_false,cond_false];have hQ:∀ (n:Nat) (x y:Int),(mU m).length+2≤n→Zeb (n+1) (mU m) x y 0=some ((x,y,(mU m).foldl Zoq 0,()),0,()):=by
  intro n x y hn;rw [Zrb];exact Zx2 (f:=fun n s k=>Zbh n x y s (mU m) (Int.ofNat (mU m).length) k) (l:=mU m) (g:=Zoq) (fin:=fun s=>some ((x,y,s,()),0,())) (N:=1) (fun _ _=>True)
   (fun n s i e he _=>⟨by
    have hk:=(List.getElem?_eq_some_iff.1 he).1;rw [Zg4,ltL he,ix_s he,wS (show i<1000000000000 by omega)];rfl,trivial⟩)
   (fun n s hn _=>by rw [Zg4,geL];rfl) n 0 trivial (by omega)
 exact Zx2 (f:=fun n (s:Int×Int) k=>Zbz n (mU m) s.1 s.2 0 (mT m) (Int.ofNat (mT m).length) k) (l:=mT m) (g:=Zyq) (fin:=fun s=>some ((s.1,s.2,(mU m).foldl Zoq 0,()),0,())) (N:=(mU m).length+3) (fun _ _=>True)
  (fun n s i e he _=>⟨by
   have hk:=(List.getElem?_eq_some_iff.1 he).1;rw [Zik,ltL he,ix_s he,wS (show i<1000000000000 by omega)];rfl,trivial⟩)
  (fun n s hn _=>by obtain⟨k,rfl⟩:∃ k,n=k+1:=⟨n - 1,by omega⟩;rw [Zik,geL,cond_false];exact hQ k s.1 s.2 (by omega)) fuel (0,0) trivial (by omega)
end Tg

/- The law BoundMarks in plain words. -/
namespace Tg
open Go
open Go.Abs (Zl Zy tmm)
theorem Z8s (m:Mch):∃ g,Zl0 m=some (g,())∧(g=true→QOk (mQ m) ((chkQ (mQ m)).2.1==0)∧MLen m∧mchB ((chkQ (mQ m)).2.1==0) m=true):=by
 obtain⟨g,hg,hb⟩:=Yhs m;rw [Z3v,hg,Option.bind_some];cases g with
 | true=>exact⟨false,rfl,fun h=>by cases h⟩
 | false =>
  have hm:=hb rfl;have hq:QOk (mQ m) ((chkQ (mQ m)).2.1==0):=by refine⟨⟨(chkQ (mQ m)).1,(chkQ (mQ m)).2.1,Z92 (mQ m),rfl⟩,?_⟩;rw [Zpn,Z6f]
  rw [Yeo m _ hq hm];refine⟨mchB ((chkQ (mQ m)).2.1==0) m,?_,fun h=>⟨hq,hm,h⟩⟩;cases mchB ((chkQ (mQ m)).2.1==0) m <;> rfl
theorem Ynh {x:Gr}{t:Nat}{o:Op}(h:x.1[t]? = some o):kdO x (t:Int)=o.1:=by unfold kdO;rw [Int.toNat_natCast,h];rfl
theorem Z95 (m:Mch):Zg5 m=some (true,()):=by
 obtain⟨g,hg,hb⟩:=Z8s m;rw [Znd,hg,Option.bind_some];cases g with
 | false=>rfl
 | true =>
  obtain⟨hq,hm,h⟩:=hb rfl;have hf:=X5;obtain⟨r,hv⟩:=Yfd h;have hc:Zba m=some (0,()):=by rw [Z0r m _ hq hm,h];rfl
  have ht:=Z0v hv.ord hv.ok hv.ops;have hW:1≤mWn m∧mWn m≤17:=Z8r hv.fit;have hr:=hv.ok;have h2:=hv.chs;have la:∀ mk,(rowW m mk).length=(mG m).2.1.length:=fun mk=>Zld _ mk;have lu:(mU m).length=(mG m).2.1.length:=hv.ul;have bd:∀ mk k,k<(mG m).2.1.length→1≤wv (mG m) (mWn m) mk (toO (mG m) k)∧wv (mG m) (mWn m) mk (toO (mG m) k)≤1161099205531:=fun mk k hk=>by obtain⟨t,h1,h3⟩:=Z3w hr (List.getElem?_eq_getElem hk);rw [Zef (List.getElem?_eq_getElem hk),h1];exact Z8p hr ht hW mk h3
  have inner:∀ (i t:Nat),i<(mG m).2.1.length→toO (mG m) i=(t:Int)→(kdO (mG m) (t:Int)=2∨kdO (mG m) (t:Int)=3) → ∀ (r:List Cn) (j n:Nat),(mG m).2.1.drop j=r→j≤(mG m).2.1.length →
      Y0 (n+r.length+1) (mG m).1 (mG m).2.1 true (rowW m false) (rowW m true) (i:Int) (t:Int) (j:Int)=Yg n (mG m).1 (mG m).2.1 true (rowW m false) (rowW m true) ((i+1:Nat):Int):=by
    intro i t hi hto hk r
    induction r with
    | nil=>intro j n hd hj;obtain rfl:=Za5 hd hj;rw [Zd3,show decide ((((mG m).2.1.length:Nat):Int)<Int.ofNat (rowW m false).length)=false from decide_eq_false (by rw [la];simp),cond_false,wS (show i<1000000000000 by omega)];rfl
    | cons c r ih =>
     intro j n hd hj;obtain⟨h1,h3,h4⟩:=Zaj hd;have:=ih (j+1) n h4 (by omega);rw [List.length_cons,show n+(r.length+1)+1=n+r.length+1+1 by omega,Zd3,ltL (Zqs h1),cond_true,ix_s h3,wS (show j<1000000000000 by omega)];dsimp only;rw [this];cases e:(c.1==(t:Int)) with
     | false=>rfl
     | true =>
      have e:c.1=(t:Int):=by simpa using e
      have s1:=Z8q hr ht h2 hW false hk h3 e;have s2:=Z8q hr ht h2 hW true hk h3 e;rw [← hto] at s1 s2;have b1:=bd false j h1;have b2:=bd true j h1;rw [cond_true,ix_s (Zqs h1),ix_s (Zqs hi),ix_s (Zu9 h1),ix_s (Zu9 hi)];have p1:decide (Go.IntKind.wrap .i64 (wA m j+2)>wA m i)=false:=by rw [w64 (x:=wA m j+2) (by show _≤wv _ _ _ _+2;omega) (by show wv _ _ _ _+2≤_;omega)];exact decide_eq_false (by show ¬ (wv _ _ _ _+2>wv _ _ _ _);omega)
      have p2:decide (Go.IntKind.wrap .i64 (wB m j+2)>wB m i)=false:=by rw [w64 (x:=wB m j+2) (by show _≤wv _ _ _ _+2;omega) (by show wv _ _ _ _+2≤_;omega)];exact decide_eq_false (by show ¬ (wv _ _ _ _+2>wv _ _ _ _);omega)
      rw [p1,p2,cond_false,cond_false]
  have outer:∀ (r:List Cn) (i n:Nat),(mG m).2.1.drop i=r→i≤(mG m).2.1.length→Yg (n+r.length * 102+1) (mG m).1 (mG m).2.1 true (rowW m false) (rowW m true) (i:Int)=some (true,()):=by
   intro r
   induction r with
   | nil=>intro i n hd hj;obtain rfl:=Za5 hd hj;rw [Zd2,show decide ((((mG m).2.1.length:Nat):Int)<Int.ofNat (rowW m false).length)=false from decide_eq_false (by rw [la];simp),cond_false]
   | cons c r ih =>
    intro i n hd hj;obtain⟨h1,h3,h4⟩:=Zaj hd;obtain⟨t,ht1,ht2⟩:=Z3w hr h3;have hto:toO (mG m) i=(t:Int):=by rw [Zef h3,ht1]
    obtain⟨o,ho⟩:∃ o,(mG m).1[t]? = some o:=⟨_,List.getElem?_eq_getElem ht2⟩;have b2:=bd true i h1;have b3:wB m i≤wA m i:=by show wv _ _ _ _≤wv _ _ _ _;rw [hto];exact Yhu hr ht hW ht2
    have p1:decide (wB m i<1)=false:=decide_eq_false (by show ¬ (wv _ _ _ _<1);omega);have p2:decide (wB m i>wA m i)=false:=decide_eq_false (by omega);rw [List.length_cons,Zd2,ltL (Zqs h1),cond_true,ix_s (Zu9 h1),ix_s (Zu9 h1),ix_s (Zqs h1),ix_s h3,ht1,ix_s ho,p1,p2,cond_false,cond_false,wS (show i<1000000000000 by omega)];have k1:(kdO (mG m) (t:Int)=2∨kdO (mG m) (t:Int)=3)→Y0 (n+(r.length+1) * 102) (mG m).1 (mG m).2.1 true (rowW m false) (rowW m true) (i:Int) (t:Int) 0=some (true,()):=fun hk=>by have:=inner i t h1 hto hk (mG m).2.1 0 (n+(100 - (mG m).2.1.length)+r.length * 102+1) rfl (by omega);rw [show n+(r.length+1) * 102=n+(100 - (mG m).2.1.length)+r.length * 102+1+(mG m).2.1.length+1 by omega];exact this.trans (ih (i+1) _ h4 (by omega))
    rw [Ynh ho] at k1;dsimp only;cases e2:(o.1 != 2) with
    | false=>exact k1 (.inl (by simpa using e2))
    | true =>
     cases e3:(o.1 != 3) with
     | false=>exact k1 (.inr (by simpa using e3))
     | true=>have:=ih (i+1) (n+101) h4 (by omega);rw [show n+101+r.length * 102+1=n+(r.length+1) * 102 by omega] at this;exact this
  have hl1:(Int.ofNat (rowW m false).length != Int.ofNat m.2.2.2.2.2.2.2.2.2.2.2.2.2.1.length)=false:=by rw [la,show m.2.2.2.2.2.2.2.2.2.2.2.2.2.1.length=(mG m).2.1.length from lu];simp
  have hl2:(Int.ofNat (rowW m true).length != Int.ofNat m.2.2.2.2.2.2.2.2.2.2.2.2.2.1.length)=false:=by rw [la,show m.2.2.2.2.2.2.2.2.2.2.2.2.2.1.length=(mG m).2.1.length from lu];simp
  rw [Z3u hv hc,Option.bind_some,Bool.not_true,cond_false];dsimp only;rw [bne_self_eq_false,cond_false,hl1,hl2,cond_false,cond_false];obtain⟨n,hn⟩:∃ n,fuel=n+(mG m).2.1.length * 102+1:=⟨fuel - ((mG m).2.1.length * 102+1),by omega⟩;rw [hn];exact outer (mG m).2.1 0 n rfl (by omega)
end Tg

/- The law BoundLeft in plain words. -/
namespace Tg
open Go
open Go.Abs (Zl Zy tmm)
theorem Z8t {α:Type}{v:Nat→α→Int}:∀ {l:List α} {i:Nat},(∀ k e,l[k]? = some e→1≤v (i+k) e)→(l.length:Int)≤sumI v i l
 | [],i,_=>by simp [sumI]
 | e::l,i,h=>by
  have h0:=h 0 e rfl;have ih:=Z8t (v:=v) (l:=l) (i:=i+1) fun k e he=>by have:=h (k+1) e (by simpa using he);rwa [show i+(k+1)=i+1+k by omega] at this
  rw [Nat.add_zero] at h0;rw [sumI,List.length_cons,Int.natCast_add];omega
theorem Zot {α:Type}{v:Nat→α→Int}:∀ {l:List α} {i k:Nat} {e:α},(∀ k e,l[k]? = some e→0≤v (i+k) e)→l[k]? = some e→v (i+k) e≤sumI v i l
 | [],_,_,_,_,h=>by simp at h
 | a::l,i,k,e,h,hk=>by
  have h0:=h 0 a rfl;have hr:∀ k e,l[k]? = some e→0≤v (i+1+k) e:=fun k e he=>by have:=h (k+1) e (by simpa using he);rwa [show i+(k+1)=i+1+k by omega] at this
  have hn:0≤sumI v (i+1) l:=by
   clear hk h h0
   induction l generalizing i with
   | nil=>exact Int.le_refl 0
   | cons b l ih =>
    have h0:=hr 0 b rfl;have:=ih (i:=i+1) fun k e he=>by have:=hr (k+1) e (by simpa using he);rwa [show i+1+(k+1)=i+1+1+k by omega] at this
    rw [Nat.add_zero] at h0;rw [sumI];omega
  rw [Nat.add_zero] at h0;rw [sumI];cases k with
  | zero=>obtain rfl:=Option.some.inj hk;rw [Nat.add_zero];omega
  | succ k=>have:=Zot (v:=v) (l:=l) (i:=i+1) (k:=k) (e:=e) hr (by simpa using hk);rw [show i+1+k=i+(k+1) by omega] at this;omega
theorem Z6g {α:Type}{v:Nat→α→Int}:∀ {l:List α} {i:Nat},(∀ k e,l[k]? = some e→v (i+k) e=0)→sumI v i l=0
 | [],_,_=>rfl
 | a::l,i,h=>by have h0:=h 0 a rfl;rw [Nat.add_zero] at h0;rw [sumI,h0,Z6g (l:=l) (i:=i+1) fun k e he=>by have:=h (k+1) e (by simpa using he);rwa [show i+(k+1)=i+1+k by omega] at this];rfl
def stN (t:Tsk):Nat:=t.2.2.2.2.2.1.length
theorem Yfg:∀ (l:List Tsk) (i:Nat),sumI vS i l=2 * ((sumN stN l:Nat):Int)
 | [],_=>rfl
 | t::l,i=>by rw [sumI,Yfg l (i+1),sumN,vS,Int.natCast_add];show 2 * (t.2.2.2.2.2.1.length:Int)+_=2 * ((t.2.2.2.2.2.1.length:Int)+_);omega
theorem Yfh:∀ (l:List Tsk) (a:Nat),a+sumN stN l≤1000000000000→l.foldl (fun (s:Int) (t:Tsk)=>Go.IntKind.wrap .i64 (s+Int.ofNat t.2.2.2.2.2.1.length)) (a:Int)=((a+sumN stN l:Nat):Int)
 | [],a,_=>rfl
 | t::l,a,h1=>by
  simp only [sumN] at h1;have e:Go.IntKind.wrap .i64 ((a:Int)+Int.ofNat t.2.2.2.2.2.1.length)=((a+stN t:Nat):Int):=by
   have p1:(a:Int)+Int.ofNat t.2.2.2.2.2.1.length=((a+stN t:Nat):Int):=by simp [stN]
   rw [p1,w64 (by omega) (by omega)]
  rw [List.foldl_cons,e,Yfh l _ (by omega),sumN,Nat.add_assoc]
section
variable {m:Mch} {r:List Int}
theorem w_bd (hv:Val m r){k:Nat}(hk:k<(mG m).2.1.length):(1≤wA m k∧wA m k≤1161099205531)∧1≤wB m k∧wB m k≤1161099205531:=by have ht:=Z0v hv.ord hv.ok hv.ops;have hW:1≤mWn m∧mWn m≤17:=Z8r hv.fit;obtain⟨t,h1,h3⟩:=Z3w hv.ok (List.getElem?_eq_getElem hk);unfold wA wB;rw [Zef (List.getElem?_eq_getElem hk),h1];exact⟨Z8p hv.ok ht hW false h3,Z8p hv.ok ht hW true h3⟩
theorem Zyt (hv:Val m r){k:Nat}(hk:k<(mG m).2.1.length)(kd:Int):1≤ofv m kd k∧ofv m kd k≤1161099205531:=by have:=w_bd hv hk;unfold ofv;cases kd==1 <;> cases kd==2 <;> simp only [cond_true,cond_false] <;> omega
theorem Z8u (hv:Val m r){k:Nat}(hk:k<(mG m).2.1.length)(x:Evt):3≤evv m k x∧evv m k x≤1161099205533:=by have:=w_bd hv hk;unfold evv;cases x.1 <;> simp only [cond_true,cond_false] <;> omega
theorem Yfi (hv:Val m r){k:Nat}(hk:k<(mG m).2.1.length){q:Que}(hq:queB q=true):(q.2.1.length:Int)≤vQ m k q∧vQ m k q≤10000000000000:=by
 unfold queB at hq;simp only [Bool.and_eq_true,decide_eq_true_eq] at hq;have h1:=Z8t (v:=fun _ (e:Msg)=>ofv m e.1 k) (l:=q.2.1) (i:=0) fun _ e _=>(Zyt hv hk e.1).1;have h2:=Zep (v:=fun _ (e:Msg)=>ofv m e.1 k) (C:=1161099205531) (l:=q.2.1) (i:=0) fun _ e _=>by have:=Zyt hv hk e.1;show 0≤ofv m e.1 k∧ofv m e.1 k≤_;omega
 unfold vQ;omega
theorem Yiy (hv:Val m r){k:Nat}(hk:k<(mG m).2.1.length)(c:Cn){t:Tsk}(h1:t.2.2.2.1.length≤4000)(h2:t.2.2.2.2.2.2.1.length≤60):0≤vP m k c t∧vP m k c t≤4800000000000000:=by
 have a:=Zep (v:=fun _ (s:Snd)=>bif s.1==c.2.1 then 1+ofv m s.2.1 k else 0) (C:=1161099205532) (l:=t.2.2.2.1) (i:=0) fun _ s _=>by have:=Zyt hv hk s.2.1;show 0≤(bif s.1==c.2.1 then 1+ofv m s.2.1 k else 0)∧(bif s.1==c.2.1 then 1+ofv m s.2.1 k else 0)≤_;cases s.1==c.2.1 <;> simp only [cond_true,cond_false] <;> omega
 have b:=Zep (v:=fun _ x=>evv m k x) (C:=1161099205533) (l:=t.2.2.2.2.2.2.1) (i:=0) fun _ x _=>by have:=Z8u hv hk x;show 0≤evv m k x∧evv m k x≤_;omega
 unfold vP;omega
theorem Z6h {b:Bool}(h:mchB b m=true){t:Tsk}(ht:t∈mT m):t.2.2.2.1.length≤4000∧t.2.2.2.2.2.2.1.length≤60:=by obtain⟨i,hi⟩:=List.getElem?_of_mem ht;obtain⟨_,hr,_,_,htl,_,_,hfit⟩:=Zes h;have hlt:=(List.getElem?_eq_some_iff.1 hi).1;have hfb:=hfit i t hi;obtain⟨o,ho⟩:∃ o,(mG m).1[i]? = some o:=⟨_,List.getElem?_eq_getElem (by omega)⟩;unfold fitB at hfb;rw [ho] at hfb;simp only [Bool.and_eq_true] at hfb;have hT:=hfb.2.1;unfold Zjo at hT;simp only [Bool.and_eq_true,decide_eq_true_eq] at hT;refine⟨hT.2.1,?_⟩;have hk:=hT.2.2.1;unfold Zql at hk;cases h1:(t.1==1) <;> cases h2:(t.1==2) <;> cases h3:(t.1==3) <;> cases h4:(t.1==4) <;> cases h5:(t.1==5) <;> cases h6:(t.1==6) <;> simp only [h1,h2,h3,h4,h5,h6,cond_true,cond_false,Bool.and_eq_true,beq_iff_eq,decide_eq_true_eq] at hk <;> omega
theorem Zrz {b:Bool}(h:mchB b m=true){k:Nat}{c:Cn}(hc:(mG m).2.1[k]? = some c):∃ (i:Nat) (t:Tsk),c.1=(i:Int)∧(mT m)[i]? = some t∧vC m k c=vP m k c t:=by obtain⟨_,hr,_,_,htl,_,_,_⟩:=Zes h;have:=hr.1 c (List.mem_of_getElem? hc);unfold Tj.okC at this;simp only [Bool.and_eq_true,decide_eq_true_eq] at this;obtain⟨i,hi⟩:∃ i:Nat,c.1=(i:Int):=⟨c.1.toNat,by omega⟩;obtain⟨t,ht⟩:∃ t,(mT m)[i]? = some t:=⟨_,List.getElem?_eq_getElem (by omega)⟩;refine⟨i,t,hi,ht,?_⟩;unfold vC;rw [hi,Int.toNat_natCast,ht];rfl
theorem Z8v {b:Bool}(h:mchB b m=true)(hv:Val m r):(0≤sumI (vQ m) 0 (mU m)∧sumI (vQ m) 0 (mU m)≤1000000000000000)∧0≤sumI (vC m) 0 (mG m).2.1∧sumI (vC m) 0 (mG m).2.1≤480000000000000000:=by
 obtain⟨_,hr,_,_,htl,hul,hqs,_⟩:=Zes h;have hl:=hv.chs;have a:=Zep (v:=vQ m) (C:=10000000000000) (l:=mU m) (i:=0) fun k q hq=>by rw [Nat.zero_add];have:=Yfi hv (k:=k) (by have:=(List.getElem?_eq_some_iff.1 hq).1;omega) (hqs q (List.mem_of_getElem? hq));omega
 have b:=Zep (v:=vC m) (C:=4800000000000000) (l:=(mG m).2.1) (i:=0) fun k c hc=>by rw [Nat.zero_add];obtain⟨i,t,_,ht,e⟩:=Zrz h hc;rw [e];have:=Z6h h (List.mem_of_getElem? ht);exact Yiy hv (List.getElem?_eq_some_iff.1 hc).1 c this.1 this.2
 omega
theorem Yk4 {b:Bool}(h:mchB b m=true)(hv:Val m r):sumI (vQ m) 0 (mU m)+sumI (vC m) 0 (mG m).2.1=0↔bare m:=by
 obtain⟨_,hr,_,_,htl,hul,hqs,_⟩:=Zes h;have nq:∀ k q,(mU m)[k]? = some q→0≤vQ m (0+k) q:=fun k q hq=>by rw [Nat.zero_add];have:=Yfi hv (k:=k) (by have:=(List.getElem?_eq_some_iff.1 hq).1;omega) (hqs q (List.mem_of_getElem? hq));omega
 have nc:∀ k c,(mG m).2.1[k]? = some c→0≤vC m (0+k) c:=fun k c hc=>by rw [Nat.zero_add];obtain⟨i,t,_,ht,e⟩:=Zrz h hc;rw [e];have:=Z6h h (List.mem_of_getElem? ht);exact (Yiy hv (List.getElem?_eq_some_iff.1 hc).1 c this.1 this.2).1
 constructor
 · intro hz;have bd:=Z8v h hv;refine⟨fun q hq=>?_,fun t ht=>?_⟩
   · obtain⟨k,hk⟩:=List.getElem?_of_mem hq;have h1:=Zot nq hk;rw [Nat.zero_add] at h1;have h2:=Yfi hv (k:=k) (by have:=(List.getElem?_eq_some_iff.1 hk).1;omega) (hqs q hq);exact List.length_eq_zero_iff.1 (by omega)
   · obtain⟨i,hi⟩:=List.getElem?_of_mem ht;have tok:=Ykz h hi;have key:∀ o,o<cnt false (i:Int) (mG m).2.1 → ∃ k c,(mG m).2.1[k]? = some c∧c.2.1=(o:Int)∧vP m k c t≤0:=fun o ho=>by
      obtain⟨_,c,hc,hci⟩:=oc_s hv ho;have hk:=Yk0 hv ho;rw [Yiu hc] at hk;obtain⟨i',t',e1,e2,e3⟩:=Zrz h hc;obtain rfl:i' = i:=by omega
      obtain rfl:t' = t:=Option.some.inj (e2.symm.trans hi);have:=Zot nc hc;rw [Nat.zero_add,e3] at this;exact⟨_,c,hc,hk,by omega⟩
     have tl:=Z6h h ht;constructor
     · cases hp:t.2.2.2.1 with
       | nil=>rfl
       | cons s l =>
        have hs:=tok.snd s (by rw [hp];simp);obtain⟨k,c,hc,ho,hz⟩:=key s.1.toNat (by omega);have hk:=(List.getElem?_eq_some_iff.1 hc).1;have g:=Zot (v:=fun _ (s:Snd)=>bif s.1==c.2.1 then 1+ofv m s.2.1 k else 0) (l:=t.2.2.2.1) (i:=0) (k:=0) (e:=s) (fun _ s _=>by have:=Zyt hv hk s.2.1;show 0≤(bif s.1==c.2.1 then 1+ofv m s.2.1 k else 0);cases s.1==c.2.1 <;> simp only [cond_true,cond_false] <;> omega) (by rw [hp];rfl);have g2:=(Zep (v:=fun _ x=>evv m k x) (C:=1161099205533) (l:=t.2.2.2.2.2.2.1) (i:=0) fun _ x _=>by have:=Z8u hv hk x;show 0≤evv m k x∧evv m k x≤_;omega).1;have e:(s.1==c.2.1)=true:=by rw [beq_iff_eq];omega
        have b:=Zyt hv hk s.2.1;simp only [e,cond_true] at g;unfold vP at hz;omega
     · cases hp:t.2.2.2.2.2.2.1 with
       | nil=>rfl
       | cons x l=>have hs:=tok.ev (by rw [hp];simp);obtain⟨k,c,hc,ho,hz⟩:=key 0 (by omega);have hk:=(List.getElem?_eq_some_iff.1 hc).1;have g:=Zot (v:=fun _ x=>evv m k x) (l:=t.2.2.2.2.2.2.1) (i:=0) (k:=0) (e:=x) (fun _ x _=>by have:=Z8u hv hk x;show 0≤evv m k x;omega) (by rw [hp];rfl);have g2:=(Zep (v:=fun _ (s:Snd)=>bif s.1==c.2.1 then 1+ofv m s.2.1 k else 0) (C:=1161099205532) (l:=t.2.2.2.1) (i:=0) fun _ s _=>by have:=Zyt hv hk s.2.1;show 0≤(bif s.1==c.2.1 then 1+ofv m s.2.1 k else 0)∧(bif s.1==c.2.1 then 1+ofv m s.2.1 k else 0)≤_;cases s.1==c.2.1 <;> simp only [cond_true,cond_false] <;> omega).1;have b:=Z8u hv hk x;unfold vP at hz;have g:evv m k x≤sumI (fun _ x=>evv m k x) 0 t.2.2.2.2.2.2.1:=g;omega
 · rintro⟨h1,h2⟩;rw [Z6g fun k q hq=>by
    unfold vQ;rw [h1 q (List.mem_of_getElem? hq)];rfl,Z6g fun k c hc=>by
    rw [Nat.zero_add];obtain⟨i,t,_,ht,e⟩:=Zrz h hc;obtain⟨e1,e2⟩:=h2 t (List.mem_of_getElem? ht);rw [e];unfold vP;rw [e1,e2];rfl]
   rfl
end
theorem Yfj (m:Mch):Ziu m=some (true,()):=by
 obtain⟨g,hg,hb⟩:=Z8s m;rw [Zor,hg,Option.bind_some];cases g with
 | false=>rfl
 | true =>
  obtain⟨hq,hm,h⟩:=hb rfl;have hf:=X5;obtain⟨r,hv⟩:=Yfd h;obtain⟨_,hr,g1,g2,htl,hul,_,_⟩:=Zes h;have hc:Zba m=some (0,()):=by rw [Z0r m _ hq hm,h];rfl
  have e1:=Yky hv hm hc;have e2:=Yk3 hq hm h;rw [Yk1 hm (by omega) (by omega)] at e2;have bd:=Z8v h hv;have z:=Yk4 h hv;have st:=Zos (f:=stN) (B:=100000) (l:=mT m) fun t ht=>(hm.t t ht).h3;have hw:Wr (0+sumI (vQ m) 0 (mU m)+sumI (vC m) 0 (mG m).2.1+2 * ((sumN stN (mT m):Nat):Int))=0+sumI (vQ m) 0 (mU m)+sumI (vC m) 0 (mG m).2.1+2 * ((sumN stN (mT m):Nat):Int):=w64 (by omega) (by omega);rw [Yfg,hw] at e1;rw [e1,e2,Option.bind_some,Option.bind_some,Bool.not_true,cond_false];dsimp only;generalize hS:(0+sumI (vQ m) 0 (mU m)+sumI (vC m) 0 (mG m).2.1+2 * ((sumN stN (mT m):Nat):Int))=S;refine (Zx2 (f:=fun n s k=>Qz n (mT m) true S 0 (sumN evN (mT m):Int) (sumN pnN (mT m):Int) (sumN quN (mU m):Int) 0 s k) (l:=mT m) (g:=fun (s:Int) (t:Tsk)=>Go.IntKind.wrap .i64 (s+Int.ofNat t.2.2.2.2.2.1.length))
   (fin:=fun s=>Zbl 1 true S 0 (sumN evN (mT m):Int) (sumN pnN (mT m):Int) (sumN quN (mU m):Int) 0 s) (N:=1) (fun _ _=>True)
   (fun n s i e he _=>⟨by
    have hk:=(List.getElem?_eq_some_iff.1 he).1;rw [Zeg,ltL he,cond_true,ix_s he,wS (show i<1000000000000 by omega)],trivial⟩)
   (fun n s hn _=>by obtain⟨k,rfl⟩:∃ k,n=k+1:=⟨n - 1,by omega⟩;rw [Zeg,geL,cond_false,Zbm,Zbm]) fuel 0 trivial (by omega)).trans ?_
  rw [show (mT m).foldl (fun (s:Int) (t:Tsk)=>Go.IntKind.wrap .i64 (s+Int.ofNat t.2.2.2.2.2.1.length)) 0=(((0+sumN stN (mT m):Nat)):Int) from Yfh (mT m) 0 (by omega),Nat.zero_add,Zbm];dsimp only;rw [bne_self_eq_false,cond_false,cond_false,w64 (x:=2 * ((sumN stN (mT m):Nat):Int)) (by omega) (by omega)];rw [show decide (S<2 * ((sumN stN (mT m):Nat):Int))=false from decide_eq_false (by omega),cond_false,cond_true];have:(((sumN evN (mT m):Nat):Int)==0&&(((sumN pnN (mT m):Nat):Int)==0&&(((sumN quN (mU m):Nat):Int)==0&&true)))=(S==2 * ((sumN stN (mT m):Nat):Int)):=by rw [Yk2] at z;rw [Bool.eq_iff_iff];simp only [Bool.and_eq_true,beq_iff_eq,and_true];omega
  rw [this,beq_self_eq_true]
end Tg

/- The laws BoundMarks and BoundLeft from the contracts of their functions. -/
namespace Tg
open Go.Abs
theorem Yk5:∀ pas,POKAs con3.args pas→Spec Go.Proofs.Tryz.prog 3 pas [.c (.c (.bool true))]:=Ybw ok3 fun a _=>Z95 a.1
theorem Yk6:∀ pas,POKAs con4.args pas→Spec Go.Proofs.Tryz.prog 4 pas [.c (.c (.bool true))]:=Ybw ok4 fun a _=>Yfj a.1
end Tg
