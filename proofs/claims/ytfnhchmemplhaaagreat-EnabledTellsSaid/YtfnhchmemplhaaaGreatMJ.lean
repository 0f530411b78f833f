import Derived.Test.YtfnhchmemplhaaaGreatME
/- Great, Twin and Same of the reference: sizes of machines, copies. -/
set_option linter.unusedVariables false
set_option linter.unusedSimpArgs false
namespace Tg
open Go
open Go.Abs (bigOk cloned tmm)
theorem loopT {α β:Type}{f:Nat→Int→Option β}{l:List α}{fin:Option β}{N:Nat}
    (hs:∀ n (i:Nat) e,l[i]? = some e→f (n+1) (i:Int)=f n ((i+1:Nat):Int))
    (he:∀ n,N≤n→f (n+1) (l.length:Int)=fin) (n:Nat) (hn:N+l.length+1≤n):f n 0=fin:=by
  have:=loopA (f:=f) (l:=l) (p:=fun _=>true) (bad:=none) (fin:=fin) (N:=N) (fun n i e h=>hs n i e h) he n hn
  rw [this]
  have:l.all (fun _=>true)=true:=by rw [List.all_eq_true];exact fun _ _=>rfl
  rw [this]
  rfl
theorem great27 (t:Tsk):∃ g,ref27_Great t=some (g,())∧(g=false→t.2.2.2.1.length≤4010∧t.2.2.2.2.1.length≤20∧t.2.2.2.2.2.1.length≤100∧t.2.2.2.2.2.2.1.length≤100∧t.2.2.2.2.2.2.2.1.length≤4010∧t.2.2.2.2.2.2.2.2.1.length≤4010):=by
 rw [ref27_Great_c]
 have hf:=fuel_ge
 have:=loopA (f:=fun n k=>ref27_Great_i4 n t.2.2.2.2.1 t.2.2.2.2.2.1 t.2.2.2.2.2.2.1 ([(Int.ofNat t.2.2.2.1.length,()),(Int.ofNat t.2.2.2.2.2.2.2.1.length,()),(Int.ofNat t.2.2.2.2.2.2.2.2.1.length,())]) k)
  (l:=[(Int.ofNat t.2.2.2.1.length,()),(Int.ofNat t.2.2.2.2.2.2.2.1.length,()),(Int.ofNat t.2.2.2.2.2.2.2.2.1.length,())])
  (p:=fun e=>!(bif decide (e.1>100) then bif decide (e.1<3990) then true else decide (e.1>4010) else decide (e.1>4010))) (bad:=some (true,()))
  (fin:=bif decide (Int.ofNat t.2.2.2.2.2.1.length>100) then some (true,()) else bif decide (Int.ofNat t.2.2.2.2.2.2.1.length>100) then some (true,()) else some (decide (Int.ofNat t.2.2.2.2.1.length>20),())) (N:=1)
  (fun n i e he=>by
   have hk:i<3:=(List.getElem?_eq_some_iff.1 he).1
   rw [ref27_Great_c4]
   simp only [ltL he,ixb_s he,cond_true,wS (show i<1000000000000 by omega)]
   cases decide (e.1>100) <;> cases decide (e.1<3990) <;> cases decide (e.1>4010) <;> rfl)
  (fun n hn=>by
   obtain⟨q,rfl⟩:∃ q,n=q+1:=⟨n - 1,by omega⟩
   rw [ref27_Great_c4,geL,cond_false,ref27_Great_c2]) fuel (by simp only [List.length_cons,List.length_nil];omega)
 rw [this]
 simp only [List.all_cons,List.all_nil,Bool.and_true]
 clear this
 generalize t.2.2.2.1.length=a,t.2.2.2.2.1.length=b,t.2.2.2.2.2.1.length=c,t.2.2.2.2.2.2.1.length=d,t.2.2.2.2.2.2.2.1.length=e,t.2.2.2.2.2.2.2.2.1.length=f
 by_cases h1:c>100
 · by_cases h:(!(bif decide (Int.ofNat a>100) then bif decide (Int.ofNat a<3990) then true else decide (Int.ofNat a>4010) else decide (Int.ofNat a>4010))&&(!(bif decide (Int.ofNat e>100) then bif decide (Int.ofNat e<3990) then true else decide (Int.ofNat e>4010) else decide (Int.ofNat e>4010)) && !(bif decide (Int.ofNat f>100) then bif decide (Int.ofNat f<3990) then true else decide (Int.ofNat f>4010) else decide (Int.ofNat f>4010))))=true
   · have:decide (Int.ofNat c>100)=true:=decide_eq_true (by simp only [Int.ofNat_eq_natCast];omega)
     rw [h,this]
     exact⟨_,rfl,fun h=>by cases h⟩
   · rw [Bool.not_eq_true] at h
     rw [h]
     exact⟨_,rfl,fun h=>by cases h⟩
 · by_cases h2:d>100
   · by_cases h:(!(bif decide (Int.ofNat a>100) then bif decide (Int.ofNat a<3990) then true else decide (Int.ofNat a>4010) else decide (Int.ofNat a>4010))&&(!(bif decide (Int.ofNat e>100) then bif decide (Int.ofNat e<3990) then true else decide (Int.ofNat e>4010) else decide (Int.ofNat e>4010)) && !(bif decide (Int.ofNat f>100) then bif decide (Int.ofNat f<3990) then true else decide (Int.ofNat f>4010) else decide (Int.ofNat f>4010))))=true
     · have i1:decide (Int.ofNat c>100)=false:=decide_eq_false (by simp only [Int.ofNat_eq_natCast];omega)
       have i2:decide (Int.ofNat d>100)=true:=decide_eq_true (by simp only [Int.ofNat_eq_natCast];omega)
       rw [h,i1,i2]
       exact⟨_,rfl,fun h=>by cases h⟩
     · rw [Bool.not_eq_true] at h
       rw [h]
       exact⟨_,rfl,fun h=>by cases h⟩
   · have i1:decide (Int.ofNat c>100)=false:=decide_eq_false (by simp only [Int.ofNat_eq_natCast];omega)
     have i2:decide (Int.ofNat d>100)=false:=decide_eq_false (by simp only [Int.ofNat_eq_natCast];omega)
     rw [i1,i2]
     simp only [cond_false]
     by_cases h:(!(bif decide (Int.ofNat a>100) then bif decide (Int.ofNat a<3990) then true else decide (Int.ofNat a>4010) else decide (Int.ofNat a>4010))&&(!(bif decide (Int.ofNat e>100) then bif decide (Int.ofNat e<3990) then true else decide (Int.ofNat e>4010) else decide (Int.ofNat e>4010)) && !(bif decide (Int.ofNat f>100) then bif decide (Int.ofNat f<3990) then true else decide (Int.ofNat f>4010) else decide (Int.ofNat f>4010))))=true
     · rw [h]
       refine⟨_,rfl,fun hb=>?_⟩
       have hb:=of_decide_eq_false hb
       have key:∀ x:Nat,(!(bif decide (Int.ofNat x>100) then bif decide (Int.ofNat x<3990) then true else decide (Int.ofNat x>4010) else decide (Int.ofNat x>4010)))=true→x≤4010:=by
        intro x hx
        by_cases hh:x≤4010
        · exact hh
        · have i3:decide (Int.ofNat x>4010)=true:=decide_eq_true (by simp only [Int.ofNat_eq_natCast];omega)
          rw [i3] at hx
          cases hA:decide (Int.ofNat x>100) <;> cases hB:decide (Int.ofNat x<3990) <;> rw [hA,hB] at hx <;> cases hx
       simp only [Bool.and_eq_true] at h
       refine⟨key a h.1,?_,by omega,by omega,key e h.2.1,key f h.2.2⟩
       simp only [Int.ofNat_eq_natCast] at hb
       omega
     · rw [Bool.not_eq_true] at h
       rw [h]
       exact⟨_,rfl,fun h=>by cases h⟩
end Tg

/- Great gives short lists; Twin gives the machine; Same is reflexive. -/
namespace Tg
open Go
open Go.Abs (bigOk cloned tmm)
noncomputable def g27 (t:Tsk):Bool:=Classical.choose (great27 t)
theorem g27_e (t:Tsk):ref27_Great t=some (g27 t,()):=(Classical.choose_spec (great27 t)).1
theorem g27_l {t:Tsk}(h:g27 t=false):TLen t:=by
 obtain⟨h1,h2,h3,h4,h5,h6⟩:=(Classical.choose_spec (great27 t)).2 h
 exact⟨by omega,by omega,by omega,by omega,by omega,by omega⟩
theorem great35 (m:Mch):∃ g,ref35_Great m=some (g,())∧(g=false→MLen m):=by
 rw [ref35_Great_c]
 have hf:=fuel_ge
 dsimp only
 cases c1:decide (Int.ofNat m.2.2.2.2.2.2.2.2.2.2.1.length>30) with
 | true=>exact⟨true,rfl,fun h=>by cases h⟩
 | false =>
 cases c2:decide (Int.ofNat m.2.2.2.2.2.2.2.2.2.2.2.1.length>60) with
 | true=>exact⟨true,rfl,fun h=>by cases h⟩
 | false =>
 cases c3:decide (Int.ofNat m.2.2.2.2.2.2.2.2.2.2.2.2.1.length>30) with
 | true=>exact⟨true,rfl,fun h=>by cases h⟩
 | false =>
 cases c4:decide (Int.ofNat m.2.2.2.2.2.2.2.2.2.2.2.2.2.1.length>60) with
 | true=>exact⟨true,rfl,fun h=>by cases h⟩
 | false =>
 cases decide (Int.ofNat m.2.1.length>100) with
 | true=>exact⟨true,rfl,fun h=>by cases h⟩
 | false =>
 cases decide (Int.ofNat m.2.2.2.2.1.length>100) with
 | true=>exact⟨true,rfl,fun h=>by cases h⟩
 | false =>
 cases decide (Int.ofNat m.2.2.1.length>20) with
 | true=>exact⟨true,rfl,fun h=>by cases h⟩
 | false =>
 have d1:=of_decide_eq_false c1
 have d2:=of_decide_eq_false c2
 have d3:=of_decide_eq_false c3
 have d4:=of_decide_eq_false c4
 clear c1 c2 c3 c4
 simp only [Int.ofNat_eq_natCast] at d1 d2 d3 d4
 simp only [cond_false]
 have e1:m.2.2.2.2.2.2.2.2.2.2.2.2.1=mT m:=rfl
 have e2:m.2.2.2.2.2.2.2.2.2.2.2.2.2.1=mU m:=rfl
 have e3:m.2.2.2.2.2.2.2.2.2.2.1=(mG m).1:=rfl
 have e4:m.2.2.2.2.2.2.2.2.2.2.2.1=(mG m).2.1:=rfl
 rw [e1] at d3
 rw [e2] at d4
 rw [e3] at d1
 rw [e4] at d2
 have:=loopA (f:=fun n k=>ref35_Great_i6 n (mT m) (mU m) k) (l:=mT m) (p:=fun t=>!g27 t) (bad:=some (true,()))
  (fin:=bif (mU m).all (fun q=>!decide (Int.ofNat q.2.1.length>20)) then some (false,()) else some (true,())) (N:=(mU m).length+3)
  (fun n i e he=>by
   have hk:=(List.getElem?_eq_some_iff.1 he).1
   rw [ref35_Great_c6,ltL he,ix_s he,g27_e,wS (show i<1000000000000 by omega)]
   cases g27 e <;> rfl)
  (fun n hn=>by
   obtain⟨q,rfl⟩:∃ q,n=q+1:=⟨n - 1,by omega⟩
   rw [ref35_Great_c6,geL,cond_false,ref35_Great_c4]
   exact loopA (f:=fun n k=>ref35_Great_i15 n (mU m) k) (l:=mU m) (p:=fun q=>!decide (Int.ofNat q.2.1.length>20)) (bad:=some (true,())) (fin:=some (false,())) (N:=0)
    (fun n i e he=>by
     have hk:=(List.getElem?_eq_some_iff.1 he).1
     rw [ref35_Great_c15,ltL he,ix_s he,ref26_Great_c,wS (show i<1000000000000 by omega)]
     cases decide (Int.ofNat e.2.1.length>20) <;> rfl)
    (fun n hn=>by rw [ref35_Great_c15,geL];rfl) q (by omega)) fuel (by omega)
 refine⟨!((mT m).all (fun t=>!g27 t)&&(mU m).all (fun q=>!decide (Int.ofNat q.2.1.length>20))),this.trans ?_,fun h=>?_⟩
 · cases (mT m).all (fun t=>!g27 t) <;> cases (mU m).all (fun q=>!decide (Int.ofNat q.2.1.length>20)) <;> rfl
 · rw [Bool.not_eq_false',Bool.and_eq_true,List.all_eq_true,List.all_eq_true] at h
   refine⟨fun t ht=>g27_l (by simpa using h.1 t ht),fun q hq=>?_,by omega,by omega,by omega,by omega⟩
   have:=h.2 q hq
   simp only [Bool.not_eq_true',decide_eq_false_iff_not,Int.ofNat_eq_natCast] at this
   omega
theorem fold_app {α:Type}(l s:List α):l.foldl (fun s t=>s++[t]) s=s++l:=by
 induction l generalizing s with
 | nil=>simp
 | cons a l ih=>rw [List.foldl_cons,ih];simp
theorem twin27 {t:Tsk}(h:TLen t):ref27_Twin t=some (t,()):=by
 have h1:=h.h1;have h2:=h.h2;have h3:=h.h3;have h4:=h.h4;have h5:=h.h5;have h6:=h.h6
 rw [ref27_Twin_c,big_ok (show 0+t.2.2.2.1.length≤1000000 by omega) (show 88≤1000 by omega),big_ok (show 0+t.2.2.2.2.1.length≤1000000 by omega) (show 8≤1000 by omega),
  big_ok (show 0+t.2.2.2.2.2.1.length≤1000000 by omega) (show 88≤1000 by omega),big_ok (show 0+t.2.2.2.2.2.2.1.length≤1000000 by omega) (show 40≤1000 by omega),
  big_ok (show 0+t.2.2.2.2.2.2.2.1.length≤1000000 by omega) (show 40≤1000 by omega),big_ok (show 0+t.2.2.2.2.2.2.2.2.1.length≤1000000 by omega) (show 24≤1000 by omega)]
 rfl
theorem twin26 {q:Que}(h:q.2.1.length≤100000):ref26_Twin q=some (q,()):=by
 rw [ref26_Twin_c,big_ok (show 0+q.2.1.length≤1000000 by omega) (show 80≤1000 by omega)]
 rfl
theorem twinAll {us:List Que}(h:∀ q∈us,q.2.1.length≤100000)(hl:us.length≤100000):ref27_TwinAll us=some (us,()):=by
 rw [ref27_TwinAll_c]
 have hf:=fuel_ge
 have:=loopF (f:=fun n s k=>ref27_TwinAll_i4 n us s k) (l:=us) (g:=fun s t=>s++[t]) (fin:=fun s=>some (s,())) (N:=1) (fun i s=>s.length=i)
  (fun n s i e he hp=>⟨by
   have hk:=(List.getElem?_eq_some_iff.1 he).1
   rw [ref27_TwinAll_c4,ltL he,ix_s he,twin26 (h e (List.mem_of_getElem? he)),wS (show i<1000000000000 by omega)]
   simp only [Option.bind_some,cond_true]
   rw [big_ok (show s.length+List.length [e]≤1000000 by simp only [List.length_cons,List.length_nil];omega) (show 32≤1000 by omega)]
   rfl,by simp [hp]⟩)
  (fun n s hn hp=>by
   rw [ref27_TwinAll_c4,geL]
   rfl) fuel [] rfl (by omega)
 rw [this,fold_app]
 rfl
theorem twin35 {m:Mch}(h:MLen m):ref35_Twin m=some (m,()):=by
 rw [ref35_Twin_c]
 have hf:=fuel_ge
 have htl:=h.tl
 have hul:=h.ul
 have:=loopF (f:=fun n s k=>ref35_Twin_i4 n m.1 m.2.1 m.2.2.1 m.2.2.2.1 m.2.2.2.2.1 m.2.2.2.2.2.1 m.2.2.2.2.2.2.1 m.2.2.2.2.2.2.2.1 m.2.2.2.2.2.2.2.2.1 m.2.2.2.2.2.2.2.2.2.1 m.2.2.2.2.2.2.2.2.2.2.1 m.2.2.2.2.2.2.2.2.2.2.2.1 (mT m) (mU m) s k) (l:=mT m) (g:=fun s t=>s++[t])
  (fin:=fun s=>some ((m.1,m.2.1,m.2.2.1,m.2.2.2.1,m.2.2.2.2.1,m.2.2.2.2.2.1,m.2.2.2.2.2.2.1,m.2.2.2.2.2.2.2.1,m.2.2.2.2.2.2.2.2.1,m.2.2.2.2.2.2.2.2.2.1,m.2.2.2.2.2.2.2.2.2.2.1,m.2.2.2.2.2.2.2.2.2.2.2.1,s,mU m,()),())) (N:=1) (fun i s=>s.length=i)
  (fun n s i e he hp=>⟨by
   have hk:=(List.getElem?_eq_some_iff.1 he).1
   rw [ref35_Twin_c4,ltL he,ix_s he,twin27 (h.t e (List.mem_of_getElem? he)),wS (show i<1000000000000 by omega)]
   simp only [Option.bind_some,cond_true]
   rw [big_ok (show s.length+List.length [e]≤1000000 by simp only [List.length_cons,List.length_nil];omega) (show 168≤1000 by omega)]
   rfl,by simp [hp]⟩)
  (fun n s hn hp=>by
   rw [ref35_Twin_c4,geL,twinAll h.u hul]
   rfl) fuel [] rfl (by omega)
 refine this.trans ?_
 rw [fold_app]
 rfl
theorem sends_r {l:List Snd}(h:l.length≤100000):ref27_SameSends l l=some (true,()):=by
 rw [ref27_SameSends_c,bne_self_eq_false,cond_false]
 have hf:=fuel_ge
 exact loopT (f:=fun n k=>ref27_SameSends_i6 n l l k) (l:=l) (fin:=some (true,())) (N:=0)
  (fun n i e he=>by
   have hk:=(List.getElem?_eq_some_iff.1 he).1
   rw [ref27_SameSends_c6,ltL he,ix_s he,ix_s he,wS (show i<1000000000000 by omega)]
   simp only [beq_self_eq_true,Bool.and_true,Bool.not_true,cond_false,cond_true])
  (fun n hn=>by rw [ref27_SameSends_c6,geL];rfl) fuel (by omega)
theorem slist_r {l:List Msg}(h:l.length≤100000):ref26_SameList l l=some (true,()):=by
 rw [ref26_SameList_c,bne_self_eq_false,cond_false]
 have hf:=fuel_ge
 exact loopT (f:=fun n k=>ref26_SameList_i6 n l l k) (l:=l) (fin:=some (true,())) (N:=0)
  (fun n i e he=>by
   have hk:=(List.getElem?_eq_some_iff.1 he).1
   rw [ref26_SameList_c6,ltL he,ix_s he,ix_s he,wS (show i<1000000000000 by omega)]
   simp only [beq_self_eq_true,Bool.and_true,Bool.not_true,cond_false,cond_true])
  (fun n hn=>by rw [ref26_SameList_c6,geL];rfl) fuel (by omega)
theorem same26 {q:Que}(h:q.2.1.length≤100000):ref26_Same q q=some (true,()):=by
 rw [ref26_Same_c,slist_r h,beq_self_eq_true]
 rfl
theorem sall_r {us:List Que}(h:∀ q∈us,q.2.1.length≤100000)(hl:us.length≤100000):ref26_SameAll us us=some (true,()):=by
 rw [ref26_SameAll_c,bne_self_eq_false,cond_false]
 have hf:=fuel_ge
 exact loopT (f:=fun n k=>ref26_SameAll_i6 n us us k) (l:=us) (fin:=some (true,())) (N:=0)
  (fun n i e he=>by
   have hk:=(List.getElem?_eq_some_iff.1 he).1
   rw [ref26_SameAll_c6,ltL he,ix_s he,ix_s he,same26 (h e (List.mem_of_getElem? he)),wS (show i<1000000000000 by omega)]
   rfl)
  (fun n hn=>by rw [ref26_SameAll_c6,geL];rfl) fuel (by omega)
section
variable {a:List (Int×Unit)} {b:List Ent} {c:List Evt} {d:List Row5} {e:List Rec3}
theorem same_39 (hl:e.length≤100000)(n:Nat)(hn:e.length+1≤n):ref27_Same_i39 n e e 0=some (true,()) :=
 loopT (f:=fun n k=>ref27_Same_i39 n e e k) (l:=e) (fin:=some (true,())) (N:=0)
  (fun n i x he=>by
   have hk:=(List.getElem?_eq_some_iff.1 he).1
   rw [ref27_Same_c39,ltL he,ix_s he,ix_s he,wS (show i<1000000000000 by omega)]
   simp only [beq_self_eq_true,Bool.and_true,Bool.not_true,cond_false,cond_true])
  (fun n hn=>by rw [ref27_Same_c39,geL];rfl) n (by omega)
theorem same_31 (h1:d.length≤100000)(h2:e.length≤100000)(n:Nat)(hn:d.length+e.length+10≤n):ref27_Same_i31 n d e d e 0=some (true,()) :=
 loopT (f:=fun n k=>ref27_Same_i31 n d e d e k) (l:=d) (fin:=some (true,())) (N:=e.length+5)
  (fun n i x he=>by
   have hk:=(List.getElem?_eq_some_iff.1 he).1
   rw [ref27_Same_c31,ltL he,ix_s he,ix_s he,wS (show i<1000000000000 by omega)]
   simp only [bne_self_eq_false,beq_self_eq_true,Bool.and_true,Bool.not_true,cond_false,cond_true])
  (fun n hn=>by
   obtain⟨q,rfl⟩:∃ q,n=q+1:=⟨n - 1,by omega⟩
   rw [ref27_Same_c31,geL,cond_false,ref27_Same_c29]
   exact same_39 h2 q (by omega)) n (by omega)
theorem same_23 (h0:c.length≤100000)(h1:d.length≤100000)(h2:e.length≤100000)(n:Nat)(hn:c.length+d.length+e.length+20≤n):ref27_Same_i23 n c d e c d e 0=some (true,()) :=
 loopT (f:=fun n k=>ref27_Same_i23 n c d e c d e k) (l:=c) (fin:=some (true,())) (N:=d.length+e.length+15)
  (fun n i x he=>by
   have hk:=(List.getElem?_eq_some_iff.1 he).1
   rw [ref27_Same_c23,ltL he,ix_s he,ix_s he,wS (show i<1000000000000 by omega)]
   simp only [bne_self_eq_false,beq_self_eq_true,Bool.and_true,Bool.not_true,cond_false,cond_true])
  (fun n hn=>by
   obtain⟨q,rfl⟩:∃ q,n=q+1:=⟨n - 1,by omega⟩
   rw [ref27_Same_c23,geL,cond_false,ref27_Same_c21]
   exact same_31 h1 h2 q (by omega)) n (by omega)
theorem same_15 (h:b.length≤100000)(h0:c.length≤100000)(h1:d.length≤100000)(h2:e.length≤100000)(n:Nat)(hn:b.length+c.length+d.length+e.length+30≤n):ref27_Same_i15 n b c d e b c d e 0=some (true,()) :=
 loopT (f:=fun n k=>ref27_Same_i15 n b c d e b c d e k) (l:=b) (fin:=some (true,())) (N:=c.length+d.length+e.length+25)
  (fun n i x he=>by
   have hk:=(List.getElem?_eq_some_iff.1 he).1
   rw [ref27_Same_c15,ltL he,ix_s he,ix_s he,wS (show i<1000000000000 by omega)]
   simp only [bne_self_eq_false,beq_self_eq_true,Bool.and_true,Bool.not_true,cond_false,cond_true])
  (fun n hn=>by
   obtain⟨q,rfl⟩:∃ q,n=q+1:=⟨n - 1,by omega⟩
   rw [ref27_Same_c15,geL,cond_false,ref27_Same_c13]
   exact same_23 h0 h1 h2 q (by omega)) n (by omega)
theorem same_7 (hh:a.length≤100000)(h:b.length≤100000)(h0:c.length≤100000)(h1:d.length≤100000)(h2:e.length≤100000)(n:Nat)(hn:a.length+b.length+c.length+d.length+e.length+40≤n):ref27_Same_i7 n a b c d e a b c d e 0=some (true,()) :=
 loopT (f:=fun n k=>ref27_Same_i7 n a b c d e a b c d e k) (l:=a) (fin:=some (true,())) (N:=b.length+c.length+d.length+e.length+35)
  (fun n i x he=>by
   have hk:=(List.getElem?_eq_some_iff.1 he).1
   rw [ref27_Same_c7,ltL he,ix_s he,ix_s he,wS (show i<1000000000000 by omega)]
   simp only [bne_self_eq_false,beq_self_eq_true,Bool.and_true,Bool.not_true,cond_false,cond_true])
  (fun n hn=>by
   obtain⟨q,rfl⟩:∃ q,n=q+1:=⟨n - 1,by omega⟩
   rw [ref27_Same_c7,geL,cond_false,ref27_Same_c5]
   exact same_15 h h0 h1 h2 q (by omega)) n (by omega)
end
theorem same27 {t:Tsk}(h:TLen t):ref27_Same t t=some (true,()):=by
 have hf:=fuel_ge
 have h1:=h.h1;have h2:=h.h2;have h3:=h.h3;have h4:=h.h4;have h5:=h.h5;have h6:=h.h6
 rw [ref27_Same_c,sends_r h1]
 simp only [bne_self_eq_false,beq_self_eq_true,Bool.and_true,Bool.not_true,cond_false,Option.bind_some]
 exact same_7 h2 h3 h4 h5 h6 fuel (by omega)
theorem same35 {m:Mch}(h:MLen m):ref35_Same m m=some (true,()):=by
 have hf:=fuel_ge
 have hl:=h.tl
 have hs:ref26_SameAll m.2.2.2.2.2.2.2.2.2.2.2.2.2.1 m.2.2.2.2.2.2.2.2.2.2.2.2.2.1=some (true,()):=sall_r h.u h.ul
 rw [ref35_Same_c,bne_self_eq_false,cond_false,hs]
 simp only [Bool.not_true,cond_false,Option.bind_some]
 exact loopT (f:=fun n k=>ref35_Same_i7 n (mT m) (mT m) k) (l:=mT m) (fin:=some (true,())) (N:=0)
  (fun n i e he=>by
   have hk:=(List.getElem?_eq_some_iff.1 he).1
   rw [ref35_Same_c7,ltL he,ix_s he,ix_s he,same27 (h.t e (List.mem_of_getElem? he)),wS (show i<1000000000000 by omega)]
   rfl)
  (fun n hn=>by rw [ref35_Same_c7,geL];rfl) fuel (by omega)
theorem ints_r {l:List (Int×Unit)}(h:l.length≤1000000):law38_same l l=some (true,()):=by
 have hf:=fuel_ge
 rw [law38_same_c,ref24_SameInts_c,bne_self_eq_false,cond_false]
 have:=loopT (f:=fun n k=>ref24_SameInts_i6 n l l k) (l:=l) (fin:=some (true,())) (N:=0)
  (fun n i e he=>by
   have hk:=(List.getElem?_eq_some_iff.1 he).1
   rw [ref24_SameInts_c6,ltL he,ix_s he,ix_s he,wS (show i<1000000000000 by omega)]
   simp only [bne_self_eq_false,cond_false,cond_true])
  (fun n hn=>by rw [ref24_SameInts_c6,geL];rfl) fuel (by omega)
 rw [this]
 rfl
end Tg
