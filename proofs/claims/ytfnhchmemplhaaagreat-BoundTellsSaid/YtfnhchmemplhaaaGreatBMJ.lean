import Derived.Test.YtfnhchmemplhaaaGreatBME
/- Great, Twin and Same of the reference: sizes of machines, copies. -/
set_option linter.unusedVariables false
set_option linter.unusedSimpArgs false
namespace Tg
open Go
open Go.Abs (Zg Zz tmm)
theorem Zm2 {α β:Type}{f:Nat→Int→Option β}{l:List α}{fin:Option β}{N:Nat}
    (hs:∀ n (i:Nat) e,l[i]? = some e→f (n+1) (i:Int)=f n ((i+1:Nat):Int))
    (he:∀ n,N≤n→f (n+1) (l.length:Int)=fin) (n:Nat) (hn:N+l.length+1≤n):f n 0=fin:=by
  have:=loopA (f:=f) (l:=l) (p:=fun _=>true) (bad:=none) (fin:=fin) (N:=N) (fun n i e h=>hs n i e h) he n hn
  rw [this]
  have:l.all (fun _=>true)=true:=by rw [List.all_eq_true];exact fun _ _=>rfl
  rw [this]
  rfl
theorem Z0g (t:Tsk):∃ g,Zgb t=some (g,())∧(g=false→t.2.2.2.1.length≤4010∧t.2.2.2.2.1.length≤20∧t.2.2.2.2.2.1.length≤100∧t.2.2.2.2.2.2.1.length≤100∧t.2.2.2.2.2.2.2.1.length≤4010∧t.2.2.2.2.2.2.2.2.1.length≤4010):=by
 rw [Zvl]
 have hf:=Ya
 have:=loopA (f:=fun n k=>Zcu n t.2.2.2.2.1 t.2.2.2.2.2.1 t.2.2.2.2.2.2.1 ([(Int.ofNat t.2.2.2.1.length,()),(Int.ofNat t.2.2.2.2.2.2.2.1.length,()),(Int.ofNat t.2.2.2.2.2.2.2.2.1.length,())]) k)
  (l:=[(Int.ofNat t.2.2.2.1.length,()),(Int.ofNat t.2.2.2.2.2.2.2.1.length,()),(Int.ofNat t.2.2.2.2.2.2.2.2.1.length,())])
  (p:=fun e=>!(bif decide (e.1>100) then bif decide (e.1<3990) then true else decide (e.1>4010) else decide (e.1>4010))) (bad:=some (true,()))
  (fin:=bif decide (Int.ofNat t.2.2.2.2.2.1.length>100) then some (true,()) else bif decide (Int.ofNat t.2.2.2.2.2.2.1.length>100) then some (true,()) else some (decide (Int.ofNat t.2.2.2.2.1.length>20),())) (N:=1)
  (fun n i e he=>by
   have hk:i<3:=(List.getElem?_eq_some_iff.1 he).1
   rw [Zjz]
   simp only [ltL he,Z1x he,cond_true,wS (show i<1000000000000 by omega)]
   cases decide (e.1>100) <;> cases decide (e.1<3990) <;> cases decide (e.1>4010) <;> rfl)
  (fun n hn=>by
   obtain⟨q,rfl⟩:∃ q,n=q+1:=⟨n - 1,by omega⟩
   rw [Zjz,geL,cond_false,Ztk]) fuel (by simp only [List.length_cons,List.length_nil];omega)
 rw [this]
 simp only [List.all_cons,List.all_nil,Bool.and_true]
 clear this
 generalize t.2.2.2.1.length=a,t.2.2.2.2.1.length=b,t.2.2.2.2.2.1.length=c,t.2.2.2.2.2.2.1.length=d,t.2.2.2.2.2.2.2.1.length=e,t.2.2.2.2.2.2.2.2.1.length=f
 by_cases h1:c>100
 · by_cases h:(!(bif decide (Int.ofNat a>100) then bif decide (Int.ofNat a<3990) then true else decide (Int.ofNat a>4010) else decide (Int.ofNat a>4010))&&(!(bif decide (Int.ofNat e>100) then bif decide (Int.ofNat e<3990) then true else decide (Int.ofNat e>4010) else decide (Int.ofNat e>4010)) && !(bif decide (Int.ofNat f>100) then bif decide (Int.ofNat f<3990) then true else decide (Int.ofNat f>4010) else decide (Int.ofNat f>4010))))=true
   · have:decide (Int.ofNat c>100)=true:=decide_eq_true (by simp only [Int.ofNat_eq_natCast];omega)
     rw [h,this]
     exact⟨_,rfl,fun h=>by cases h⟩
   · rw [Bool.not_eq_true] at h
     rw [h]
     exact⟨_,rfl,fun h=>by cases h⟩
 · by_cases h2:d>100
   · by_cases h:(!(bif decide (Int.ofNat a>100) then bif decide (Int.ofNat a<3990) then true else decide (Int.ofNat a>4010) else decide (Int.ofNat a>4010))&&(!(bif decide (Int.ofNat e>100) then bif decide (Int.ofNat e<3990) then true else decide (Int.ofNat e>4010) else decide (Int.ofNat e>4010)) && !(bif decide (Int.ofNat f>100) then bif decide (Int.ofNat f<3990) then true else decide (Int.ofNat f>4010) else decide (Int.ofNat f>4010))))=true
     · have i1:decide (Int.ofNat c>100)=false:=decide_eq_false (by simp only [Int.ofNat_eq_natCast];omega)
       have i2:decide (Int.ofNat d>100)=true:=decide_eq_true (by simp only [Int.ofNat_eq_natCast];omega)
       rw [h,i1,i2]
       exact⟨_,rfl,fun h=>by cases h⟩
     · rw [Bool.not_eq_true] at h
       rw [h]
       exact⟨_,rfl,fun h=>by cases h⟩
   · have i1:decide (Int.ofNat c>100)=false:=decide_eq_false (by simp only [Int.ofNat_eq_natCast];omega)
     have i2:decide (Int.ofNat d>100)=false:=decide_eq_false (by simp only [Int.ofNat_eq_natCast];omega)
     rw [i1,i2]
     simp only [cond_false]
     by_cases h:(!(bif decide (Int.ofNat a>100) then bif decide (Int.ofNat a<3990) then true else decide (Int.ofNat a>4010) else decide (Int.ofNat a>4010))&&(!(bif decide (Int.ofNat e>100) then bif decide (Int.ofNat e<3990) then true else decide (Int.ofNat e>4010) else decide (Int.ofNat e>4010)) && !(bif decide (Int.ofNat f>100) then bif decide (Int.ofNat f<3990) then true else decide (Int.ofNat f>4010) else decide (Int.ofNat f>4010))))=true
     · rw [h]
       refine⟨_,rfl,fun hb=>?_⟩
       have hb:=of_decide_eq_false hb
       have key:∀ x:Nat,(!(bif decide (Int.ofNat x>100) then bif decide (Int.ofNat x<3990) then true else decide (Int.ofNat x>4010) else decide (Int.ofNat x>4010)))=true→x≤4010:=by
        intro x hx
        by_cases hh:x≤4010
        · exact hh
        · have i3:decide (Int.ofNat x>4010)=true:=decide_eq_true (by simp only [Int.ofNat_eq_natCast];omega)
          rw [i3] at hx
          cases hA:decide (Int.ofNat x>100) <;> cases hB:decide (Int.ofNat x<3990) <;> rw [hA,hB] at hx <;> cases hx
       simp only [Bool.and_eq_true] at h
       refine⟨key a h.1,?_,by omega,by omega,key e h.2.1,key f h.2.2⟩
       simp only [Int.ofNat_eq_natCast] at hb
       omega
     · rw [Bool.not_eq_true] at h
       rw [h]
       exact⟨_,rfl,fun h=>by cases h⟩
end Tg

/- Great gives short lists; Twin gives the machine; Same is reflexive. -/
namespace Tg
open Go
open Go.Abs (Zg Zz tmm)
noncomputable def g27 (t:Tsk):Bool:=Classical.choose (Z0g t)
theorem Ylz (t:Tsk):Zgb t=some (g27 t,()):=(Classical.choose_spec (Z0g t)).1
theorem Yl0 {t:Tsk}(h:g27 t=false):TLen t:=by
 obtain⟨h1,h2,h3,h4,h5,h6⟩:=(Classical.choose_spec (Z0g t)).2 h
 exact⟨by omega,by omega,by omega,by omega,by omega,by omega⟩
theorem Yfr (m:Mch):∃ g,Zj0 m=some (g,())∧(g=false→MLen m):=by
 rw [Zvn]
 have hf:=Ya
 dsimp only
 cases c1:decide (Int.ofNat m.2.2.2.2.2.2.2.2.2.2.1.length>30) with
 | true=>exact⟨true,rfl,fun h=>by cases h⟩
 | false =>
 cases c2:decide (Int.ofNat m.2.2.2.2.2.2.2.2.2.2.2.1.length>60) with
 | true=>exact⟨true,rfl,fun h=>by cases h⟩
 | false =>
 cases c3:decide (Int.ofNat m.2.2.2.2.2.2.2.2.2.2.2.2.1.length>30) with
 | true=>exact⟨true,rfl,fun h=>by cases h⟩
 | false =>
 cases c4:decide (Int.ofNat m.2.2.2.2.2.2.2.2.2.2.2.2.2.1.length>60) with
 | true=>exact⟨true,rfl,fun h=>by cases h⟩
 | false =>
 cases decide (Int.ofNat m.2.1.length>100) with
 | true=>exact⟨true,rfl,fun h=>by cases h⟩
 | false =>
 cases decide (Int.ofNat m.2.2.2.2.1.length>100) with
 | true=>exact⟨true,rfl,fun h=>by cases h⟩
 | false =>
 cases decide (Int.ofNat m.2.2.1.length>20) with
 | true=>exact⟨true,rfl,fun h=>by cases h⟩
 | false =>
 have d1:=of_decide_eq_false c1
 have d2:=of_decide_eq_false c2
 have d3:=of_decide_eq_false c3
 have d4:=of_decide_eq_false c4
 clear c1 c2 c3 c4
 simp only [Int.ofNat_eq_natCast] at d1 d2 d3 d4
 simp only [cond_false]
 have e1:m.2.2.2.2.2.2.2.2.2.2.2.2.1=mT m:=rfl
 have e2:m.2.2.2.2.2.2.2.2.2.2.2.2.2.1=mU m:=rfl
 have e3:m.2.2.2.2.2.2.2.2.2.2.1=(mG m).1:=rfl
 have e4:m.2.2.2.2.2.2.2.2.2.2.2.1=(mG m).2.1:=rfl
 rw [e1] at d3
 rw [e2] at d4
 rw [e3] at d1
 rw [e4] at d2
 have:=loopA (f:=fun n k=>Zcv n (mT m) (mU m) k) (l:=mT m) (p:=fun t=>!g27 t) (bad:=some (true,()))
  (fin:=bif (mU m).all (fun q=>!decide (Int.ofNat q.2.1.length>20)) then some (false,()) else some (true,())) (N:=(mU m).length+3)
  (fun n i e he=>by
   have hk:=(List.getElem?_eq_some_iff.1 he).1
   rw [Zj2,ltL he,ix_s he,Ylz,wS (show i<1000000000000 by omega)]
   cases g27 e <;> rfl)
  (fun n hn=>by
   obtain⟨q,rfl⟩:∃ q,n=q+1:=⟨n - 1,by omega⟩
   rw [Zj2,geL,cond_false,Ztl]
   exact loopA (f:=fun n k=>Zbz n (mU m) k) (l:=mU m) (p:=fun q=>!decide (Int.ofNat q.2.1.length>20)) (bad:=some (true,())) (fin:=some (false,())) (N:=0)
    (fun n i e he=>by
     have hk:=(List.getElem?_eq_some_iff.1 he).1
     rw [Zih,ltL he,ix_s he,Zvm,wS (show i<1000000000000 by omega)]
     cases decide (Int.ofNat e.2.1.length>20) <;> rfl)
    (fun n hn=>by rw [Zih,geL];rfl) q (by omega)) fuel (by omega)
 refine⟨!((mT m).all (fun t=>!g27 t)&&(mU m).all (fun q=>!decide (Int.ofNat q.2.1.length>20))),this.trans ?_,fun h=>?_⟩
 · cases (mT m).all (fun t=>!g27 t) <;> cases (mU m).all (fun q=>!decide (Int.ofNat q.2.1.length>20)) <;> rfl
 · rw [Bool.not_eq_false',Bool.and_eq_true,List.all_eq_true,List.all_eq_true] at h
   refine⟨fun t ht=>Yl0 (by simpa using h.1 t ht),fun q hq=>?_,by omega,by omega,by omega,by omega⟩
   have:=h.2 q hq
   simp only [Bool.not_eq_true',decide_eq_false_iff_not,Int.ofNat_eq_natCast] at this
   omega
theorem Z2v {α:Type}(l s:List α):l.foldl (fun s t=>s++[t]) s=s++l:=by
 induction l generalizing s with
 | nil=>simp
 | cons a l ih=>rw [List.foldl_cons,ih];simp
theorem Yjb {t:Tsk}(h:TLen t):Znn t=some (t,()):=by
 have h1:=h.h1;have h2:=h.h2;have h3:=h.h3;have h4:=h.h4;have h5:=h.h5;have h6:=h.h6
 rw [Zzq,Zav (show 0+t.2.2.2.1.length≤1000000 by omega) (show 88≤1000 by omega),Zav (show 0+t.2.2.2.2.1.length≤1000000 by omega) (show 8≤1000 by omega),
  Zav (show 0+t.2.2.2.2.2.1.length≤1000000 by omega) (show 88≤1000 by omega),Zav (show 0+t.2.2.2.2.2.2.1.length≤1000000 by omega) (show 40≤1000 by omega),
  Zav (show 0+t.2.2.2.2.2.2.2.1.length≤1000000 by omega) (show 40≤1000 by omega),Zav (show 0+t.2.2.2.2.2.2.2.2.1.length≤1000000 by omega) (show 24≤1000 by omega)]
 rfl
theorem Yjc {q:Que}(h:q.2.1.length≤100000):Znm q=some (q,()):=by
 rw [Zzp,Zav (show 0+q.2.1.length≤1000000 by omega) (show 80≤1000 by omega)]
 rfl
theorem Yfs {us:List Que}(h:∀ q∈us,q.2.1.length≤100000)(hl:us.length≤100000):Zgz us=some (us,()):=by
 rw [Zra]
 have hf:=Ya
 have:=Zx0 (f:=fun n s k=>Zbj n us s k) (l:=us) (g:=fun s t=>s++[t]) (fin:=fun s=>some (s,())) (N:=1) (fun i s=>s.length=i)
  (fun n s i e he hp=>⟨by
   have hk:=(List.getElem?_eq_some_iff.1 he).1
   rw [Zhc,ltL he,ix_s he,Yjc (h e (List.mem_of_getElem? he)),wS (show i<1000000000000 by omega)]
   simp only [Option.bind_some,cond_true]
   rw [Zav (show s.length+List.length [e]≤1000000 by simp only [List.length_cons,List.length_nil];omega) (show 32≤1000 by omega)]
   rfl,by simp [hp]⟩)
  (fun n s hn hp=>by
   rw [Zhc,geL]
   rfl) fuel [] rfl (by omega)
 rw [this,Z2v]
 rfl
theorem Yjd {m:Mch}(h:MLen m):Zno m=some (m,()):=by
 rw [Zzr]
 have hf:=Ya
 have htl:=h.tl
 have hul:=h.ul
 have:=Zx0 (f:=fun n s k=>Zd1 n m.1 m.2.1 m.2.2.1 m.2.2.2.1 m.2.2.2.2.1 m.2.2.2.2.2.1 m.2.2.2.2.2.2.1 m.2.2.2.2.2.2.2.1 m.2.2.2.2.2.2.2.2.1 m.2.2.2.2.2.2.2.2.2.1 m.2.2.2.2.2.2.2.2.2.2.1 m.2.2.2.2.2.2.2.2.2.2.2.1 (mT m) (mU m) s k) (l:=mT m) (g:=fun s t=>s++[t])
  (fin:=fun s=>some ((m.1,m.2.1,m.2.2.1,m.2.2.2.1,m.2.2.2.2.1,m.2.2.2.2.2.1,m.2.2.2.2.2.2.1,m.2.2.2.2.2.2.2.1,m.2.2.2.2.2.2.2.2.1,m.2.2.2.2.2.2.2.2.2.1,m.2.2.2.2.2.2.2.2.2.2.1,m.2.2.2.2.2.2.2.2.2.2.2.1,s,mU m,()),())) (N:=1) (fun i s=>s.length=i)
  (fun n s i e he hp=>⟨by
   have hk:=(List.getElem?_eq_some_iff.1 he).1
   rw [Zmu,ltL he,ix_s he,Yjb (h.t e (List.mem_of_getElem? he)),wS (show i<1000000000000 by omega)]
   simp only [Option.bind_some,cond_true]
   rw [Zav (show s.length+List.length [e]≤1000000 by simp only [List.length_cons,List.length_nil];omega) (show 168≤1000 by omega)]
   rfl,by simp [hp]⟩)
  (fun n s hn hp=>by
   rw [Zmu,geL,Yfs h.u hul]
   rfl) fuel [] rfl (by omega)
 refine this.trans ?_
 rw [Z2v]
 rfl
theorem Yft {l:List Snd}(h:l.length≤100000):Zem l l=some (true,()):=by
 rw [Zon,bne_self_eq_false,cond_false]
 have hf:=Ya
 exact Zm2 (f:=fun n k=>Zai n l l k) (l:=l) (fin:=some (true,())) (N:=0)
  (fun n i e he=>by
   have hk:=(List.getElem?_eq_some_iff.1 he).1
   rw [Zfs,ltL he,ix_s he,ix_s he,wS (show i<1000000000000 by omega)]
   simp only [beq_self_eq_true,Bool.and_true,Bool.not_true,cond_false,cond_true])
  (fun n hn=>by rw [Zfs,geL];rfl) fuel (by omega)
theorem Yfu {l:List Msg}(h:l.length≤100000):Zft l l=some (true,()):=by
 rw [Zps,bne_self_eq_false,cond_false]
 have hf:=Ya
 exact Zm2 (f:=fun n k=>Zaw n l l k) (l:=l) (fin:=some (true,())) (N:=0)
  (fun n i e he=>by
   have hk:=(List.getElem?_eq_some_iff.1 he).1
   rw [Zgc,ltL he,ix_s he,ix_s he,wS (show i<1000000000000 by omega)]
   simp only [beq_self_eq_true,Bool.and_true,Bool.not_true,cond_false,cond_true])
  (fun n hn=>by rw [Zgc,geL];rfl) fuel (by omega)
theorem Yje {q:Que}(h:q.2.1.length≤100000):Znk q q=some (true,()):=by
 rw [Zzn,Yfu h,beq_self_eq_true]
 rfl
theorem Yjf {us:List Que}(h:∀ q∈us,q.2.1.length≤100000)(hl:us.length≤100000):Zdz us us=some (true,()):=by
 rw [Zq9,bne_self_eq_false,cond_false]
 have hf:=Ya
 exact Zm2 (f:=fun n k=>Zbi n us us k) (l:=us) (fin:=some (true,())) (N:=0)
  (fun n i e he=>by
   have hk:=(List.getElem?_eq_some_iff.1 he).1
   rw [Zhb,ltL he,ix_s he,ix_s he,Yje (h e (List.mem_of_getElem? he)),wS (show i<1000000000000 by omega)]
   rfl)
  (fun n hn=>by rw [Zhb,geL];rfl) fuel (by omega)
section
variable {a:List (Int×Unit)} {b:List Ent} {c:List Evt} {d:List Row5} {e:List Rec3}
theorem Yfv (hl:e.length≤100000)(n:Nat)(hn:e.length+1≤n):Za7 n e e 0=some (true,()) :=
 Zm2 (f:=fun n k=>Za7 n e e k) (l:=e) (fin:=some (true,())) (N:=0)
  (fun n i x he=>by
   have hk:=(List.getElem?_eq_some_iff.1 he).1
   rw [Zj9,ltL he,ix_s he,ix_s he,wS (show i<1000000000000 by omega)]
   simp only [beq_self_eq_true,Bool.and_true,Bool.not_true,cond_false,cond_true])
  (fun n hn=>by rw [Zj9,geL];rfl) n (by omega)
theorem Yfw (h1:d.length≤100000)(h2:e.length≤100000)(n:Nat)(hn:d.length+e.length+10≤n):Za6 n d e d e 0=some (true,()) :=
 Zm2 (f:=fun n k=>Za6 n d e d e k) (l:=d) (fin:=some (true,())) (N:=e.length+5)
  (fun n i x he=>by
   have hk:=(List.getElem?_eq_some_iff.1 he).1
   rw [Zj8,ltL he,ix_s he,ix_s he,wS (show i<1000000000000 by omega)]
   simp only [bne_self_eq_false,beq_self_eq_true,Bool.and_true,Bool.not_true,cond_false,cond_true])
  (fun n hn=>by
   obtain⟨q,rfl⟩:∃ q,n=q+1:=⟨n - 1,by omega⟩
   rw [Zj8,geL,cond_false,Zto]
   exact Yfv h2 q (by omega)) n (by omega)
theorem Yfx (h0:c.length≤100000)(h1:d.length≤100000)(h2:e.length≤100000)(n:Nat)(hn:c.length+d.length+e.length+20≤n):Za5 n c d e c d e 0=some (true,()) :=
 Zm2 (f:=fun n k=>Za5 n c d e c d e k) (l:=c) (fin:=some (true,())) (N:=d.length+e.length+15)
  (fun n i x he=>by
   have hk:=(List.getElem?_eq_some_iff.1 he).1
   rw [Zj7,ltL he,ix_s he,ix_s he,wS (show i<1000000000000 by omega)]
   simp only [bne_self_eq_false,beq_self_eq_true,Bool.and_true,Bool.not_true,cond_false,cond_true])
  (fun n hn=>by
   obtain⟨q,rfl⟩:∃ q,n=q+1:=⟨n - 1,by omega⟩
   rw [Zj7,geL,cond_false,Ztn]
   exact Yfw h1 h2 q (by omega)) n (by omega)
theorem Yfy (h:b.length≤100000)(h0:c.length≤100000)(h1:d.length≤100000)(h2:e.length≤100000)(n:Nat)(hn:b.length+c.length+d.length+e.length+30≤n):Za4 n b c d e b c d e 0=some (true,()) :=
 Zm2 (f:=fun n k=>Za4 n b c d e b c d e k) (l:=b) (fin:=some (true,())) (N:=c.length+d.length+e.length+25)
  (fun n i x he=>by
   have hk:=(List.getElem?_eq_some_iff.1 he).1
   rw [Zj6,ltL he,ix_s he,ix_s he,wS (show i<1000000000000 by omega)]
   simp only [bne_self_eq_false,beq_self_eq_true,Bool.and_true,Bool.not_true,cond_false,cond_true])
  (fun n hn=>by
   obtain⟨q,rfl⟩:∃ q,n=q+1:=⟨n - 1,by omega⟩
   rw [Zj6,geL,cond_false,Ztm]
   exact Yfx h0 h1 h2 q (by omega)) n (by omega)
theorem Yjg (hh:a.length≤100000)(h:b.length≤100000)(h0:c.length≤100000)(h1:d.length≤100000)(h2:e.length≤100000)(n:Nat)(hn:a.length+b.length+c.length+d.length+e.length+40≤n):Zbs n a b c d e a b c d e 0=some (true,()) :=
 Zm2 (f:=fun n k=>Zbs n a b c d e a b c d e k) (l:=a) (fin:=some (true,())) (N:=b.length+c.length+d.length+e.length+35)
  (fun n i x he=>by
   have hk:=(List.getElem?_eq_some_iff.1 he).1
   rw [Zms,ltL he,ix_s he,ix_s he,wS (show i<1000000000000 by omega)]
   simp only [bne_self_eq_false,beq_self_eq_true,Bool.and_true,Bool.not_true,cond_false,cond_true])
  (fun n hn=>by
   obtain⟨q,rfl⟩:∃ q,n=q+1:=⟨n - 1,by omega⟩
   rw [Zms,geL,cond_false,Zvo]
   exact Yfy h h0 h1 h2 q (by omega)) n (by omega)
end
theorem Yjh {t:Tsk}(h:TLen t):Znj t t=some (true,()):=by
 have hf:=Ya
 have h1:=h.h1;have h2:=h.h2;have h3:=h.h3;have h4:=h.h4;have h5:=h.h5;have h6:=h.h6
 rw [Zzm,Yft h1]
 simp only [bne_self_eq_false,beq_self_eq_true,Bool.and_true,Bool.not_true,cond_false,Option.bind_some]
 exact Yjg h2 h3 h4 h5 h6 fuel (by omega)
theorem Ydf {m:Mch}(h:MLen m):Znl m m=some (true,()):=by
 have hf:=Ya
 have hl:=h.tl
 have hs:Zdz m.2.2.2.2.2.2.2.2.2.2.2.2.2.1 m.2.2.2.2.2.2.2.2.2.2.2.2.2.1=some (true,()):=Yjf h.u h.ul
 rw [Zzo,bne_self_eq_false,cond_false,hs]
 simp only [Bool.not_true,cond_false,Option.bind_some]
 exact Zm2 (f:=fun n k=>Zd0 n (mT m) (mT m) k) (l:=mT m) (fin:=some (true,())) (N:=0)
  (fun n i e he=>by
   have hk:=(List.getElem?_eq_some_iff.1 he).1
   rw [Zmt,ltL he,ix_s he,ix_s he,Yjh (h.t e (List.mem_of_getElem? he)),wS (show i<1000000000000 by omega)]
   rfl)
  (fun n hn=>by rw [Zmt,geL];rfl) fuel (by omega)
theorem Yji {l:List (Int×Unit)}(h:l.length≤1000000):Ztp l l=some (true,()):=by
 have hf:=Ya
 rw [Zoo,Zpt,bne_self_eq_false,cond_false]
 have:=Zm2 (f:=fun n k=>Zax n l l k) (l:=l) (fin:=some (true,())) (N:=0)
  (fun n i e he=>by
   have hk:=(List.getElem?_eq_some_iff.1 he).1
   rw [Zgd,ltL he,ix_s he,ix_s he,wS (show i<1000000000000 by omega)]
   simp only [bne_self_eq_false,cond_false,cond_true])
  (fun n hn=>by rw [Zgd,geL];rfl) fuel (by omega)
 rw [this]
 rfl
end Tg
