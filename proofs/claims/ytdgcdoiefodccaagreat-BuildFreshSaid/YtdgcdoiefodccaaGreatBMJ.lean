import Derived.Test.YtdgcdoiefodccaaGreatBMW
import Derived.Test.YtdgcdoiefodccaaGreatBVb1
/- Great, Twin and Same of the reference: sizes of machines, copies. -/
set_option linter.unusedVariables false
set_option linter.unusedSimpArgs false
namespace Tg
open Go
open Go.Abs (Zb Zj tmm)
theorem Z3o (t:Tsk):∃ g,Zhq t=some (g,())∧(g=false→t.2.2.2.1.length≤4010∧t.2.2.2.2.1.length≤20∧t.2.2.2.2.2.1.length≤100∧t.2.2.2.2.2.2.1.length≤100∧t.2.2.2.2.2.2.2.1.length≤4010∧t.2.2.2.2.2.2.2.2.1.length≤4010):=by
 rw [Zxz]
 have hf:=Yn
 have:=Ze9 (f:=fun n k=>Zdd n t.2.2.2.2.1 t.2.2.2.2.2.1 t.2.2.2.2.2.2.1 ([(Int.ofNat t.2.2.2.1.length,()),(Int.ofNat t.2.2.2.2.2.2.2.1.length,()),(Int.ofNat t.2.2.2.2.2.2.2.2.1.length,())]) k)
  (l:=[(Int.ofNat t.2.2.2.1.length,()),(Int.ofNat t.2.2.2.2.2.2.2.1.length,()),(Int.ofNat t.2.2.2.2.2.2.2.2.1.length,())])
  (p:=fun e=>!(bif decide (e.1>100) then bif decide (e.1<3990) then true else decide (e.1>4010) else decide (e.1>4010))) (bad:=some (true,()))
  (fin:=bif decide (Int.ofNat t.2.2.2.2.2.1.length>100) then some (true,()) else bif decide (Int.ofNat t.2.2.2.2.2.2.1.length>100) then some (true,()) else some (decide (Int.ofNat t.2.2.2.2.1.length>20),())) (N:=1)
  (fun n i e he=>by
   have hk:i<3:=(List.getElem?_eq_some_iff.1 he).1
   rw [Zlr]
   simp only [ltL he,Yru he,cond_true,wS (show i<1000000000000 by omega)]
   grind)
  (fun n hn=>by
   obtain⟨q,rfl⟩:∃ q,n=q+1:=⟨n - 1,by omega⟩
   rw [Zlr,geL,cond_false,Zvl]) fuel (by grind)
 grind
end Tg

/- Great gives short lists; Twin gives the machine; Same is reflexive. -/
namespace Tg
open Go
open Go.Abs (Zb Zj tmm)
noncomputable def g27 (t:Tsk):Bool:=Classical.choose (Z3o t)
theorem Ytm (t:Tsk):Zhq t=some (g27 t,()):=(Classical.choose_spec (Z3o t)).1
theorem Ytn {t:Tsk}(h:g27 t=false):TLen t:=by
 obtain⟨h1,h2,h3,h4,h5,h6⟩:=(Classical.choose_spec (Z3o t)).2 h
 exact⟨by omega,by omega,by omega,by omega,by omega,by omega⟩
theorem Yms (m:Mch):∃ g,Zls m=some (g,())∧(g=false→MLen m):=by
 rw [Zx1]
 have hf:=Yn
 dsimp only
 cases c1:decide (Int.ofNat m.2.2.2.2.2.2.2.2.2.2.1.length>30) with
 | true=>grind
 | false =>
 cases c2:decide (Int.ofNat m.2.2.2.2.2.2.2.2.2.2.2.1.length>60) with
 | true=>grind
 | false =>
 cases c3:decide (Int.ofNat m.2.2.2.2.2.2.2.2.2.2.2.2.1.length>30) with
 | true=>grind
 | false =>
 cases c4:decide (Int.ofNat m.2.2.2.2.2.2.2.2.2.2.2.2.2.1.length>60) with
 | true=>grind
 | false =>
 cases decide (Int.ofNat m.2.1.length>100) with
 | true=>grind
 | false =>
 cases decide (Int.ofNat m.2.2.2.2.1.length>100) with
 | true=>grind
 | false =>
 cases decide (Int.ofNat m.2.2.1.length>20) with
 | true=>grind
 | false =>
 have d1:=of_decide_eq_false c1
 have d2:=of_decide_eq_false c2
 have d3:=of_decide_eq_false c3
 have d4:=of_decide_eq_false c4
 clear c1 c2 c3 c4
 simp only [Int.ofNat_eq_natCast] at d1 d2 d3 d4
 simp only [cond_false]
 have e1:m.2.2.2.2.2.2.2.2.2.2.2.2.1=mT m:=rfl
 have e2:m.2.2.2.2.2.2.2.2.2.2.2.2.2.1=mU m:=rfl
 have e3:m.2.2.2.2.2.2.2.2.2.2.1=(mG m).1:=rfl
 have e4:m.2.2.2.2.2.2.2.2.2.2.2.1=(mG m).2.1:=rfl
 rw [e1] at d3
 rw [e2] at d4
 rw [e3] at d1
 rw [e4] at d2
 have:=Ze9 (f:=fun n k=>Zde n (mT m) (mU m) k) (l:=mT m) (p:=fun t=>!g27 t) (bad:=some (true,()))
  (fin:=bif (mU m).all (fun q=>!decide (Int.ofNat q.2.1.length>20)) then some (false,()) else some (true,())) (N:=(mU m).length+3)
  (fun n i e he=>by
   have hk:=(List.getElem?_eq_some_iff.1 he).1
   rw [Zlu,ltL he,ix_s he,Ytm,wS (show i<1000000000000 by omega)]
   grind)
  (fun n hn=>by
   obtain⟨q,rfl⟩:∃ q,n=q+1:=⟨n - 1,by omega⟩
   rw [Zlu,geL,cond_false,Zvm]
   exact Ze9 (f:=fun n k=>Zch n (mU m) k) (l:=mU m) (p:=fun q=>!decide (Int.ofNat q.2.1.length>20)) (bad:=some (true,())) (fin:=some (false,())) (N:=0)
    (fun n i e he=>by
     have hk:=(List.getElem?_eq_some_iff.1 he).1
     rw [Zke,ltL he,ix_s he,Zx0,wS (show i<1000000000000 by omega)]
     grind)
    (fun n hn=>by rw [Zke,geL];rfl) q (by omega)) fuel (by omega)
 refine⟨!((mT m).all (fun t=>!g27 t)&&(mU m).all (fun q=>!decide (Int.ofNat q.2.1.length>20))),this.trans ?_,fun h=>?_⟩
 · grind
 · rw [Bool.not_eq_false',Bool.and_eq_true,List.all_eq_true,List.all_eq_true] at h
   refine⟨fun t ht=>Ytn (by grind),fun q hq=>?_,by omega,by omega,by omega,by omega⟩
   grind
end Tg
