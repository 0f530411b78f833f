import Derived.Test.YtdcgemfchohffaaGreatDoorMPK
import Derived.Test.YtdcgemfchohffaaGreatDoorMUb14
import Derived.Test.YtdcgemfchohffaaGreatDoorMMW
import Derived.Test.YtdcgemfchohffaaGreatDoorMVb1
/- How many windows a record may have: the program and the reference. -/
set_option linter.unusedVariables false
set_option linter.unusedSimpArgs false
namespace Tg
theorem Yis (x:Int)(h1 : -1000000000000000≤x)(h2:x≤1000000000000000):Go.IntKind.wrap .i64 x=x:=w64 (by omega) (by omega)
def winN (S E:Int):Int:=bif decide (S % E>0) then S / E+1 else S / E
theorem Z93 {S E:Int}(hE:1≤E):(winN S E - 1) * E<S∧S≤winN S E * E:=by
 have h1:=Int.mul_ediv_add_emod S E;have h2:=Int.emod_nonneg S (show E≠0 by omega);have h3:=Int.emod_lt_of_pos S (show 0<E by omega);unfold winN;by_cases h:S % E>0
 · rw [dT h,cond_true,Int.sub_mul,Int.add_mul,Int.mul_comm (S / E) E];omega
 · rw [dF h,cond_false,Int.sub_mul,Int.mul_comm (S / E) E];omega
theorem Yhq {S E:Int}(hE:1≤E)(hS:1≤S)(hS2:S≤1073741824):0≤S / E∧S / E≤S:=by exact⟨Int.ediv_nonneg (by omega) (by omega),Int.ediv_le_self E (by omega)⟩
theorem Yit {w:Int×Int×Int×Unit}(h:fitW w=true)(hk:w.1=2):1≤w.2.1∧w.2.1≤1073741824∧1≤w.2.2.1∧w.2.2.1≤w.2.1∧w.2.1≤16 * w.2.2.1:=by unfold fitW at h;rw [show (w.1==2)=true by simpa using hk] at h;simp only [cond_true,Bool.and_eq_true,Bool.not_eq_true',decide_eq_false_iff_not,decide_eq_true_eq] at h;obtain⟨h1,h2,h3,h4,h5⟩:=h;rw [w64 (by omega) (by omega)] at h5;omega

def winK (w:Int×Int×Int×Unit):Int:=if w.1=2 then winN w.2.1 w.2.2.1 else 1
theorem Yhr {w:Int×Int×Int×Unit}(h:fitW w=true):Zbq w=some (winK w,()):=by
 rw [Zrc];unfold winK;by_cases hk:w.1=2
 · obtain⟨h1,h2,h3,h4,h5⟩:=Yit h hk;have hb:=Yhq (S:=w.2.1) h3 h1 h2;simp only [Ye0 hk,cond_false,dF (show ¬ w.2.2.1=0 by omega),if_pos hk,Int.tmod_eq_emod_of_nonneg (show 0≤w.2.1 by omega),Int.tdiv_eq_ediv_of_nonneg (show 0≤w.2.1 by omega),Yis (w.2.1 / w.2.2.1) (by omega) (by omega),Yis (w.2.1 / w.2.2.1+1) (by omega) (by omega)];unfold winN;cases decide (w.2.1 % w.2.2.1>0) <;> rfl
 · simp only [Ym8 hk,cond_true,if_neg hk]

end Tg

/- Sums that wrap; loops in loops; sums over places. -/
namespace Tg
abbrev Wr (x:Int):Int:=Go.IntKind.wrap .i64 x
theorem wrL (a b:Int):Wr (Wr a+b)=Wr (a+b):=by simp only [Wr,Go.IntKind.wrap_i64];omega
theorem wrR (a b:Int):Wr (a+Wr b)=Wr (a+b):=by simp only [Wr,Go.IntKind.wrap_i64];omega
theorem wr0:Wr 0=0:=w64 (by omega) (by omega)
theorem wr1:Wr 1=1:=w64 (by omega) (by omega)
def sumI {α:Type}(v:Nat→α→Int):Nat→List α→Int
 | _,[]=>0
 | i,e::r=>v i e+sumI v (i+1) r
theorem drop_at {α:Type}{l:List α}{i:Nat}{e:α}{r:List α}(h:l.drop i=e::r):i<l.length∧l[i]? = some e∧l.drop (i+1)=r:=by
 have h1:i<l.length:=by have:=congrArg List.length h;simp at this;omega
 rw [List.drop_eq_getElem_cons h1] at h;injection h with a b
 exact⟨h1,by rw [List.getElem?_eq_getElem h1,a],b⟩
def sR:Nat→(Nat→Int)→Int
 | 0,_=>0
 | n+1,f=>sR n f+f n
theorem Z3s {f g:Nat→Int}:∀ {n:Nat},(∀ k,k<n→f k=g k)→sR n f=sR n g
 | 0,_=>rfl
 | n+1,h=>by rw [sR,sR,Z3s (fun k hk=>h k (by omega)),h n (by omega)]
theorem Zu6 {α:Type}{v w:Nat→α→Int}:∀ {l:List α} {i:Nat},(∀ k e,l[k]? = some e→v (i+k) e=w (i+k) e)→sumI v i l=sumI w i l
 | [],i,_=>rfl
 | e::r,i,h=>by have a:=Zu6 (v:=v) (w:=w) (l:=r) (i:=i+1) (fun k x hk=>by have:=h (k+1) x (by simpa using hk);rwa [show i+1+k=i+(k+1) by omega]);rw [sumI,sumI,a,show v i e=w i e from h 0 e rfl]
end Tg

/- Which operators can do a step: the program and the reference say the same. -/
namespace Tg
open Go
open Go.Abs (Zl Zy tmm)
end Tg

/- An operator of a right machine can do a step: the program and the reference say the same. -/
namespace Tg
open Go
open Go.Abs (Zl Zy tmm)
theorem Zes {b:Bool}{m:Mch}(h:mchB b m=true):b=true∧Tj.Zab (mG m).1 (mG m).2.1∧(mG m).1.length≤20∧(mG m).2.1.length≤100∧(mT m).length=(mG m).1.length∧(mU m).length=(mG m).2.1.length∧(∀ q∈mU m,queB q=true)∧(∀ (i:Nat) t,(mT m)[i]? = some t→fitB m.2.2.2.1 m.2.2.2.2.2.2.2.2.2.1 (mG m) i t=true):=by
 unfold mchB at h;simp only [Bool.and_eq_true,beq_iff_eq] at h;obtain⟨h1,h2,h3,h4,h5,h6⟩:=h;obtain⟨g1,g2,g3⟩:=Zuz h2;refine⟨h1,Zuu g3,g1,g2,h3,h4,fun q hq=>?_,fun i t ht=>?_⟩
 · obtain⟨i,hi⟩:=List.getElem?_of_mem hq;have:=Z0q h5 hi;unfold queI at this;split at this
   · cases this
   · rw [Bool.and_eq_true] at this;exact this.2
 · have:=Z0q h6 ht;rwa [Nat.zero_add] at this
end Tg

/- enabled.All, Left and First against the reference. -/
namespace Tg
open Go
open Go.Abs (Zl Zy tmm)
end Tg

/- enabled.First and Left against the reference. -/
namespace Tg
open Go
open Go.Abs (Zl Zy tmm)
def Zyq (s:Int×Int)(t:Tsk):Int×Int:=(Go.IntKind.wrap .i64 (s.1+Int.ofNat t.2.2.2.2.2.2.1.length),Go.IntKind.wrap .i64 (s.2+Int.ofNat t.2.2.2.1.length))
def Zoq (s:Int)(q:Que):Int:=Go.IntKind.wrap .i64 (s+Int.ofNat q.2.1.length)
def Ye6 (m:Mch):Int×Int×Int×Unit:=(((mT m).foldl Zyq (0,0)).1,((mT m).foldl Zyq (0,0)).2,(mU m).foldl Zoq 0,())
end Tg

/- Great, Twin and Same of the reference: sizes of machines, copies. -/
namespace Tg
open Go
open Go.Abs (Zl Zy tmm)
theorem Z0t (t:Tsk):∃ g,Zf0 t=some (g,())∧(g=false→t.2.2.2.1.length≤4010∧t.2.2.2.2.1.length≤20∧t.2.2.2.2.2.1.length≤100∧t.2.2.2.2.2.2.1.length≤100∧t.2.2.2.2.2.2.2.1.length≤4010∧t.2.2.2.2.2.2.2.2.1.length≤4010):=by
 rw [Zvj];have hf:=X5;have:=Zfz (f:=fun n k=>Zcj n t.2.2.2.2.1 t.2.2.2.2.2.1 t.2.2.2.2.2.2.1 ([(Int.ofNat t.2.2.2.1.length,()),(Int.ofNat t.2.2.2.2.2.2.2.1.length,()),(Int.ofNat t.2.2.2.2.2.2.2.2.1.length,())]) k)
  (l:=[(Int.ofNat t.2.2.2.1.length,()),(Int.ofNat t.2.2.2.2.2.2.2.1.length,()),(Int.ofNat t.2.2.2.2.2.2.2.2.1.length,())])
  (p:=fun e=>!(bif decide (e.1>100) then bif decide (e.1<3990) then true else decide (e.1>4010) else decide (e.1>4010))) (bad:=some (true,()))
  (fin:=bif decide (Int.ofNat t.2.2.2.2.2.1.length>100) then some (true,()) else bif decide (Int.ofNat t.2.2.2.2.2.2.1.length>100) then some (true,()) else some (decide (Int.ofNat t.2.2.2.2.1.length>20),())) (N:=1)
  (fun n i e he=>by have hk:i<3:=(List.getElem?_eq_some_iff.1 he).1;rw [Zjs];simp only [ltL he,Z2i he,cond_true,wS (show i<1000000000000 by omega)];grind)
  (fun n hn=>by obtain⟨q,rfl⟩:∃ q,n=q+1:=⟨n - 1,by omega⟩;rw [Zjs,geL,cond_false,Ztw]) fuel (by grind)
 grind
end Tg

/- Great gives short lists; Twin gives the machine; Same is reflexive. -/
namespace Tg
open Go
open Go.Abs (Zl Zy tmm)
noncomputable def g27 (t:Tsk):Bool:=Classical.choose (Z0t t)
theorem Ynd (t:Tsk):Zf0 t=some (g27 t,()):=(Classical.choose_spec (Z0t t)).1
theorem Yne {t:Tsk}(h:g27 t=false):TLen t:=by obtain⟨h1,h2,h3,h4,h5,h6⟩:=(Classical.choose_spec (Z0t t)).2 h;exact⟨by omega,by omega,by omega,by omega,by omega,by omega⟩
theorem Yhs (m:Mch):∃ g,Zjt m=some (g,())∧(g=false→MLen m):=by
 rw [Zvl];have hf:=X5;dsimp only;cases c1:decide (Int.ofNat m.2.2.2.2.2.2.2.2.2.2.1.length>30) with
 | true=>grind
 | false =>
 cases c2:decide (Int.ofNat m.2.2.2.2.2.2.2.2.2.2.2.1.length>60) with
 | true=>grind
 | false =>
 cases c3:decide (Int.ofNat m.2.2.2.2.2.2.2.2.2.2.2.2.1.length>30) with
 | true=>grind
 | false =>
 cases c4:decide (Int.ofNat m.2.2.2.2.2.2.2.2.2.2.2.2.2.1.length>60) with
 | true=>grind
 | false =>
 cases decide (Int.ofNat m.2.1.length>100) with
 | true=>grind
 | false =>
 cases decide (Int.ofNat m.2.2.2.2.1.length>100) with
 | true=>grind
 | false =>
 cases decide (Int.ofNat m.2.2.1.length>20) with
 | true=>grind
 | false =>
 have d1:=of_decide_eq_false c1;have d2:=of_decide_eq_false c2;have d3:=of_decide_eq_false c3;have d4:=of_decide_eq_false c4;clear c1 c2 c3 c4;simp only [Int.ofNat_eq_natCast] at d1 d2 d3 d4;simp only [cond_false];have e1:m.2.2.2.2.2.2.2.2.2.2.2.2.1=mT m:=rfl;have e2:m.2.2.2.2.2.2.2.2.2.2.2.2.2.1=mU m:=rfl;have e3:m.2.2.2.2.2.2.2.2.2.2.1=(mG m).1:=rfl;have e4:m.2.2.2.2.2.2.2.2.2.2.2.1=(mG m).2.1:=rfl;rw [e1] at d3;rw [e2] at d4;rw [e3] at d1;rw [e4] at d2;have:=Zfz (f:=fun n k=>Zck n (mT m) (mU m) k) (l:=mT m) (p:=fun t=>!g27 t) (bad:=some (true,()))
  (fin:=bif (mU m).all (fun q=>!decide (Int.ofNat q.2.1.length>20)) then some (false,()) else some (true,())) (N:=(mU m).length+3)
  (fun n i e he=>by have hk:=(List.getElem?_eq_some_iff.1 he).1;rw [Zjv,ltL he,ix_s he,Ynd,wS (show i<1000000000000 by omega)];grind)
  (fun n hn=>by
   obtain⟨q,rfl⟩:∃ q,n=q+1:=⟨n - 1,by omega⟩;rw [Zjv,geL,cond_false,Ztx];exact Zfz (f:=fun n k=>Zbt n (mU m) k) (l:=mU m) (p:=fun q=>!decide (Int.ofNat q.2.1.length>20)) (bad:=some (true,())) (fin:=some (false,())) (N:=0)
    (fun n i e he=>by have hk:=(List.getElem?_eq_some_iff.1 he).1;rw [Zh3,ltL he,ix_s he,Zvk,wS (show i<1000000000000 by omega)];grind)
    (fun n hn=>by rw [Zh3,geL];rfl) q (by omega)) fuel (by omega)
 refine⟨!((mT m).all (fun t=>!g27 t)&&(mU m).all (fun q=>!decide (Int.ofNat q.2.1.length>20))),this.trans ?_,fun h=>?_⟩
 · grind
 · rw [Bool.not_eq_false',Bool.and_eq_true,List.all_eq_true,List.all_eq_true] at h;refine⟨fun t ht=>Yne (by grind),fun q hq=>?_,by omega,by omega,by omega,by omega⟩;grind
section
variable {a:List (Int×Unit)} {b:List Ent} {c:List Evt} {d:List Row5} {e:List Rec3}
end
end Tg
