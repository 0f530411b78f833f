import Derived.Test.YtijadjbnapojfaaGreatDoorAMW
import Derived.Test.YtijadjbnapojfaaGreatDoorAYb10
import Derived.Test.YtijadjbnapojfaaGreatDoorAVb1
/- Which operators can do a step: the program and the reference say the same. -/
set_option linter.unusedVariables false
set_option linter.unusedSimpArgs false
namespace Tg
open Go
open Go.Abs (Zl Z8 tmm)
def Zgg:Nat→List Que→Int
 | _,[]=>-1
 | i,q::l=>bif decide (0<q.2.1.length) then (i:Int) else Zgg (i+1) l
theorem Z6p {i n:Nat}(h:i<n):Int.tmod (i:Int) (n:Int)=(i:Int):=by rw [Int.tmod_eq_emod_of_nonneg (by omega)];exact Int.emod_eq_of_lt (by omega) (by omega)
theorem Yla (l:List Que)(hl:l.length≤100000):Zmx 0 l=some (Zgg 0 l,()):=by
 have hf:=Y0;have key:∀ (f:Nat→Int→Option (Int×Unit)),(∀ n (i:Nat) q,l[i]? = some q→f (n+1) (i:Int)=bif decide (0<q.2.1.length) then some ((i:Int),()) else f n ((i+1:Nat):Int))→(∀ n,f (n+1) (l.length:Int)=some (-1,())) →
     ∀ (r:List Que) (i n:Nat),l.drop i=r→i≤l.length→r.length+1≤n→f n (i:Int)=some (Zgg i r,()):=by
   intro f h1 h2 r
   induction r with
   | nil=>intro i n h hi hn;obtain⟨m,rfl⟩:∃ m,n=m+1:=⟨n - 1,by omega⟩;have:=Zbb h hi;subst this;exact h2 m
   | cons q r ih=>intro i n h hi hn;obtain⟨m,rfl⟩:∃ m,n=m+1:=⟨n - 1,by omega⟩;obtain⟨g1,g2,g3⟩:=Zar h;rw [h1 m i q g2,Zgg,ih (i+1) m g3 (by omega) (by grind)];grind
 have hd:∀ q:Que,decide (Int.ofNat q.2.1.length>0)=decide (0<q.2.1.length):=fun q=>by grind
 have ha:∀ (i:Nat) (q:Que),l[i]? = some q→Int.tmod (Go.IntKind.wrap .i64 ((0:Int)+(i:Int))) (Int.ofNat l.length)=(i:Int):=fun i q h=>by have hi:=(List.getElem?_eq_some_iff.1 h).1;rw [Int.zero_add,w64 (by omega) (by omega)];exact Z6p hi
 have hz:∀ (i:Nat) (q:Que),l[i]? = some q→decide (Int.ofNat l.length=0)=false:=fun i q h=>by grind
 obtain⟨m,hm⟩:∃ m,fuel=m+1:=⟨fuel - 1,by omega⟩
 · have h5:=key (fun n k=>Zdn n 0 l (Int.ofNat l.length) k) (fun n i q h=>by have hi:=(List.getElem?_eq_some_iff.1 h).1;rw [Zl8];simp only [ltL h,cond_true,hz i q h,cond_false,ha i q h,ix_s h,hd,wS (show i<1000000000000 by omega)]) (fun n=>by rw [Zl8];grind) l 0 m rfl (by omega) (by omega);rw [Z0o,hm];have:(bif decide ((0:Int)≥Int.ofNat l.length) then Zac (m+1) 0 l else Zac (m+1) 0 l)=Zac (m+1) 0 l:=by grind
   rw [this,Zwc];exact h5
def qsAt (u:List Que)(l:List (Int×Unit)):List Que:=l.filterMap fun y=>u[y.1.toNat]?
theorem Zn3 {u:List Que}:∀ {l:List (Int×Unit)},(∀ y∈l,∃ i:Nat,i<u.length∧y=((i:Int),()))→(qsAt u l).length=l.length
 | [],_=>rfl
 | y::l,h=>by obtain⟨i,hi,rfl⟩:=h y (by simp);have ih:=Zn3 (l:=l) (fun z hz=>h z (by simp [hz]));unfold qsAt at ih ⊢;grind
theorem Z3j (m:Mch)(l:List (Int×Unit))(hl:l.length≤1000)(hu:∀ y∈l,∃ i:Nat,i<(mU m).length∧y=((i:Int),())):Zf1 m l=some (qsAt (mU m) l,()):=by
 have hf:=Y0;have fold:∀ (l:List (Int×Unit)) (a:List Que),l.foldl (fun s e=>s++((mU m)[e.1.toNat]?).toList) a=a++qsAt (mU m) l:=by
  intro l
  induction l with
  | nil=>intro a;simp [qsAt]
  | cons y l ih=>intro a;rw [List.foldl_cons,ih];unfold qsAt;grind
 have step:∀ (i:Nat) (e:Int×Unit),l[i]? = some e → ∃ (k:Nat) (q:Que),e=((k:Int),())∧(mU m)[k]? = some q:=fun i e h=>by obtain⟨k,hk,rfl⟩:=hu e (List.mem_of_getElem? h);exact⟨k,_,rfl,List.getElem?_eq_getElem hk⟩
 · have:=Zxm (f:=fun n s k=>Zcs n (mU m) s l (Int.ofNat l.length) k) (l:=l) (g:=fun s e=>s++((mU m)[e.1.toNat]?).toList) (fin:=fun s=>some (s,())) (N:=0) (fun i s=>s.length≤i)
    (fun n s i e h hp=>by
     have hi:=(List.getElem?_eq_some_iff.1 h).1;obtain⟨k,q,rfl,hq⟩:=step i e h;have hb:Zl (s.length+[q].length) 32=true:=Zgc (by grind) (by omega);constructor
     · rw [Zkt];simp only [ltL h,cond_true,ix_s h,ix_s hq,hb,wS (show i<1000000000000 by omega),Int.toNat_natCast,hq,Option.toList_some]
     grind)
    (fun n s _ _=>by rw [Zkt];grind) fuel [] (Nat.le_refl _) (by omega)
   rw [Zwa];rw [fold,List.nil_append] at this;exact this
end Tg

/- An operator of a right machine can do a step: the program and the reference say the same. -/
namespace Tg
open Go
open Go.Abs (Zl Z8 tmm)
def Zkw (t:Tsk)(ins outs:List Que):Bool:=match t.2.2.2.1 with
 | []=>bif t.1==1 then decide (0<t.2.2.2.2.2.2.1.length) else decide (0≤Zgg 0 ins)
 | s::_=>match outs[s.1.toNat]? with
  | none=>false
  | some q=>decide ((q.2.1.length:Int)<q.1)
theorem Ylb {t:Tsk}{ins outs:List Que}(h1:Zcz t=true)(h2:ins.length≤4)(h3:outs.length≤3)(h4:ins.all queB=true)(h5:outs.all queB=true)(h6:t.2.2.2.1.all (fun s=>decide (s.1<(outs.length:Int)))=true) :
    Zhq t ins outs=some (Zkw t ins outs,0,()):=by
  have hf:=Y0;have hl:=(Zx2 h1).1;have hf0:=Yla ins (by omega);have hsn:∀ s∈t.2.2.2.1,0≤s.1∧s.1<(outs.length:Int):=fun s hs=>by have a:=List.all_eq_true.1 h6 s hs;unfold Zcz at h1;simp only [Bool.and_eq_true] at h1;have b:=List.all_eq_true.1 h1.2.2.2.1 s hs;unfold sndB at b;grind
  have hq:∀ q∈outs,Zhp q=some (q.1 - (q.2.1.length:Int),0,()):=fun q hq=>by have hb:=List.all_eq_true.1 h5 q hq;rw [Zui,Zmv hb];unfold queB at hb;simp only [Bool.and_eq_true,decide_eq_true_eq] at hb;simp only [Option.bind_some,Int.ofNat_eq_natCast,bne_self_eq_false,cond_false];rw [w64 (by omega) (by omega)]
  have i6:∀ n,Zd5 (n+1) ins outs t.1 t.2.2.2.1 t.2.2.2.2.2.2.1=some (Zkw t ins outs,0,()):=fun n=>by
   rw [Zqs];unfold Zkw;cases hp:t.2.2.2.1 with
   | nil =>
    simp only [List.length_nil,hf0,Option.bind_some];have:decide (Int.ofNat t.2.2.2.2.2.2.1.length>0)=decide (0<t.2.2.2.2.2.2.1.length):=by grind
    grind
   | cons s r=>have hs:=hsn s (by grind);obtain⟨k,hk⟩:∃ k:Nat,s.1=(k:Int):=⟨s.1.toNat,by omega⟩;obtain⟨q,hqk⟩:∃ q,outs[k]? = some q:=⟨_,List.getElem?_eq_getElem (by omega)⟩;have:decide (Int.ofNat (s::r).length>0)=true:=decide_eq_true (by simp);simp only [this,cond_true,List.getElem?_cons_zero,Option.bind_some,hk,ix_s hqk,hq q (List.mem_of_getElem? hqk),Int.toNat_natCast,hqk];grind
  · rw [Zuj,Z0d h1 h2 h3 h4 h5];simp only [Option.bind_some,bne_self_eq_false,cond_false];have:=Ze4 (f:=fun n k=>Zbn n ins outs t.1 t.2.2.2.1 t.2.2.2.2.2.2.1 t.2.2.2.1 (Int.ofNat t.2.2.2.1.length) k) (l:=t.2.2.2.1) (p:=fun s=>decide (s.1<(outs.length:Int))) (bad:=some (false,2,())) (fin:=some (Zkw t ins outs,0,())) (N:=1)
     (fun n k e he=>by
      have hk:=(List.getElem?_eq_some_iff.1 he).1;have hd:decide (e.1≥Int.ofNat outs.length) = !decide (e.1<(outs.length:Int)):=by grind
      rw [Zie];simp only [ltL he,ix_s he,cond_true,wS (show k<1000000000000 by omega),hd];grind)
     (fun n hn=>by obtain⟨q,rfl⟩:∃ q,n=q+1:=⟨n - 1,by omega⟩;rw [Zie];grind) fuel (by omega)
    grind
def Qj (m:Mch)(i:Nat):Bool:=match (mT m)[i]? with
 | none=>false
 | some t=>Zkw t (qsAt (mU m) (joinL true (mG m) (i:Int))) (qsAt (mU m) (joinL false (mG m) (i:Int)))
theorem Zdd {b:Bool}{m:Mch}(h:mchB b m=true):b=true∧Tj.Zd8 (mG m).1 (mG m).2.1∧(mG m).1.length≤20∧(mG m).2.1.length≤100∧(mT m).length=(mG m).1.length∧(mU m).length=(mG m).2.1.length∧(∀ q∈mU m,queB q=true)∧(∀ (i:Nat) t,(mT m)[i]? = some t→fitB m.2.2.2.1 m.2.2.2.2.2.2.2.2.2.1 (mG m) i t=true):=by
 unfold mchB at h;simp only [Bool.and_eq_true,beq_iff_eq] at h;obtain⟨h1,h2,h3,h4,h5,h6⟩:=h;obtain⟨g1,g2,g3⟩:=Z0m h2;refine⟨h1,Z6n g3,g1,g2,h3,h4,fun q hq=>?_,fun i t ht=>?_⟩
 · obtain⟨i,hi⟩:=List.getElem?_of_mem hq;have:=Z0l h5 hi;unfold queI at this;grind
 · have:=Z0l h6 ht;grind
theorem Yac {b:Bool}{m:Mch}(h:mchB b m=true){i:Nat}(hi:i<(mT m).length):Zhr m (i:Int)=some (Qj m i,()):=by
 obtain⟨_,hr,g1,g2,ht,hu,hqs,hts⟩:=Zdd h;obtain⟨t,htt⟩:∃ t,(mT m)[i]? = some t:=⟨_,List.getElem?_eq_getElem hi⟩;have hfit:=hts i t htt;unfold fitB at hfit;obtain⟨o,ho⟩:∃ o,(mG m).1[i]? = some o:=⟨_,List.getElem?_eq_getElem (by omega)⟩;rw [ho] at hfit;simp only [Bool.and_eq_true] at hfit;obtain⟨_,htask,hpend,_⟩:=hfit;have hc:=Zn0 hr (i:=i) (by omega);have hj:∀ b,∀ y∈joinL b (mG m) (i:Int),∃ k:Nat,k<(mU m).length∧y=((k:Int),()):=fun b y hy=>by rw [hu];exact Zx4 hr hy
 have n1:=Zn3 (hj true);have n2:=Zn3 (hj false);have j1:=Zbz hr true (i:Int);have j2:=Zbz hr false (i:Int);have qall:∀ l:List (Int×Unit),(qsAt (mU m) l).all queB=true:=fun l=>by rw [List.all_eq_true];intro q hq;unfold qsAt at hq;grind
 have hab:=Ylb (t:=t) (ins:=qsAt (mU m) (joinL true (mG m) (i:Int))) (outs:=qsAt (mU m) (joinL false (mG m) (i:Int))) htask (by omega) (by omega) (qall _) (qall _) (by grind);have q1:=Z3j m (joinL true (mG m) (i:Int)) (by omega) (hj true);have q2:=Z3j m (joinL false (mG m) (i:Int)) (by omega) (hj false);have htt' : m.2.2.2.2.2.2.2.2.2.2.2.2.1[i]? = some t:=htt;have hm:Qj m i=Zkw t (qsAt (mU m) (joinL true (mG m) (i:Int))) (qsAt (mU m) (joinL false (mG m) (i:Int))):=by unfold Qj;rw [htt]
 · rw [Zuk,ix_s htt',show Xm (m.2.2.2.2.2.2.2.2.2.2.1,m.2.2.2.2.2.2.2.2.2.2.2.1,()) (i:Int)=some (joinL true (mG m) (i:Int),()) from Z3b hr g2 (by omega),show Yu (m.2.2.2.2.2.2.2.2.2.2.1,m.2.2.2.2.2.2.2.2.2.2.2.1,()) (i:Int)=some (joinL false (mG m) (i:Int),()) from Zx5 hr g2 (by omega)];simp only [Option.bind_some,q1,q2,hab,hm]
end Tg

/- enabled.All, Left and First against the reference. -/
namespace Tg
open Go
open Go.Abs (Zl Z8 tmm)
theorem Ynv {α β:Type}{f:Nat→Int→Option β}{l:List α}{p:α→Bool}{hit:α→Option β}{fin:Option β}{N:Nat}
    (hs:∀ n (i:Nat) e,l[i]? = some e→f (n+1) (i:Int)=bif p e then hit e else f n ((i+1:Nat):Int))
    (he:∀ n,N≤n→f (n+1) (l.length:Int)=fin) (n:Nat) (hn:N+l.length+1≤n):f n 0=match l.find? p with | some e=>hit e | none=>fin:=by
  have:=Z79 (f:=fun n (_:Unit) i=>f n i) (l:=l) (step:=fun _ e=>bif p e then .inr (hit e) else .inl ()) (fin:=fun _=>fin) (N:=N) (fun _ _=>True)
   (fun n s i e h _=>⟨by grind,fun _ _=>trivial⟩) (fun n s h _=>he n h) l 0 n () rfl (by omega) trivial (by omega)
  refine this.trans ?_;clear this hs he hn
  induction l with
  | nil=>rfl
  | cons e l ih=>rw [runL,List.find?_cons];grind
def Zfh (m:Mch)(s:List (Int×Unit)×Nat):List (Int×Unit)×Nat:=(bif Qj m s.2 then s.1++[((s.2:Int),())] else s.1,s.2+1)
def Xf (m:Mch):List (Int×Unit):=((mT m).foldl (fun s _=>Zfh m s) ([],0)).1
theorem Yad (m:Mch)(s:List (Int×Unit)×Nat)(h:∀ e∈s.1,0≤e.1):∀ e∈(Zfh m s).1,0≤e.1:=by
 have e0:(Zfh m s).1=bif Qj m s.2 then s.1++[((s.2:Int),())] else s.1:=rfl
 grind
theorem Yae (m:Mch)(l:List Tsk):∀ s:List (Int×Unit)×Nat,(∀ e∈s.1,0≤e.1) → ∀ e∈(l.foldl (fun s _=>Zfh m s) s).1,0≤e.1:=by
 induction l with
 | nil=>grind
 | cons t l ih=>exact fun s h=>ih _ (Yad m s h)
theorem Yfd (m:Mch):∀ e∈Xf m,0≤e.1:=Yae m _ _ (fun e he=>by cases he)
theorem Zpd {b:Bool}{m:Mch}(hq:QOk (mQ m) b)(hm:MLen m)(h:mchB b m=true){i:Nat}(hi:i<(mT m).length):Q5 m (i:Int)=some (Qj m i,0,()):=by
 rw [Zul,Z0k,Z0n m b hq hm,Yac h hi,h];have e1:decide ((i:Int)<0)=false:=decide_eq_false (by omega);have e2:decide ((i:Int)≥Int.ofNat m.2.2.2.2.2.2.2.2.2.2.2.2.1.length)=false:=decide_eq_false (by
  have:i<m.2.2.2.2.2.2.2.2.2.2.2.2.1.length:=hi;grind)
 grind
theorem Yfe {b:Bool}{m:Mch}(hq:QOk (mQ m) b)(hm:MLen m):Zax m=some (bif mchB b m then Xf m else [],bif mchB b m then 0 else 8,()):=by
 rw [Zwd,Z0n m b hq hm];cases h:mchB b m with
 | false=>rfl
 | true =>
  have hf:=Y0;have hl:=hm.tl;simp only [cond_true,Option.bind_some,bne_self_eq_false,cond_false];have:=Zxm (f:=fun n (s:List (Int×Unit)×Nat) k=>Zay n m.1 m.2.1 m.2.2.1 m.2.2.2.1 m.2.2.2.2.1 m.2.2.2.2.2.1 m.2.2.2.2.2.2.1 m.2.2.2.2.2.2.2.1 m.2.2.2.2.2.2.2.2.1 m.2.2.2.2.2.2.2.2.2.1 m.2.2.2.2.2.2.2.2.2.2.1 m.2.2.2.2.2.2.2.2.2.2.2.1 m.2.2.2.2.2.2.2.2.2.2.2.2.1 m.2.2.2.2.2.2.2.2.2.2.2.2.2.1 s.1 (Int.ofNat m.2.2.2.2.2.2.2.2.2.2.2.2.1.length) k)
   (l:=mT m) (g:=fun s _=>Zfh m s) (fin:=fun s=>some (s.1,0,())) (N:=1) (fun i s=>s.2=i∧s.1.length≤i)
   (fun n s i e he hp=>by
    have hk:=(List.getElem?_eq_some_iff.1 he).1;obtain⟨hp1,hp2⟩:=hp;subst hp1;have e0:Q5 (m.1,m.2.1,m.2.2.1,m.2.2.2.1,m.2.2.2.2.1,m.2.2.2.2.2.1,m.2.2.2.2.2.2.1,m.2.2.2.2.2.2.2.1,m.2.2.2.2.2.2.2.2.1,m.2.2.2.2.2.2.2.2.2.1,m.2.2.2.2.2.2.2.2.2.2.1,m.2.2.2.2.2.2.2.2.2.2.2.1,m.2.2.2.2.2.2.2.2.2.2.2.2.1,m.2.2.2.2.2.2.2.2.2.2.2.2.2.1,()) (s.2:Int)=some (Qj m s.2,0,()):=Zpd hq hm h hk;have e1:decide ((s.2:Int)<Int.ofNat m.2.2.2.2.2.2.2.2.2.2.2.2.1.length)=true:=ltL he;have e2:Zl (s.1.length+List.length [((s.2:Int),())]) 8=true:=Zgc (by grind) (by omega);refine⟨?_,rfl,?_⟩
    · rw [Zkv,e1,e0,wS (show s.2<1000000000000 by omega)];simp only [cond_true,Option.bind_some,bne_self_eq_false,cond_false,e2];unfold Zfh;grind
    · unfold Zfh;grind)
   (fun n s hn hp=>by have:decide (((mT m).length:Int)<Int.ofNat m.2.2.2.2.2.2.2.2.2.2.2.2.1.length)=false:=geL;rw [Zkv,this];rfl) fuel ([],0) ⟨rfl,Nat.le_refl _⟩ (by omega)
  exact this
end Tg

/- enabled.First and Left against the reference. -/
namespace Tg
open Go
open Go.Abs (Zl Z8 tmm)
theorem Yaf {m:Mch}:(Xf m).length≤(mT m).length:=by
 have:∀ (l:List Tsk) (s:List (Int×Unit)×Nat),(l.foldl (fun s _=>Zfh m s) s).1.length≤s.1.length+l.length:=by
  intro l
  induction l with
  | nil=>grind
  | cons t l ih =>
   intro s;refine Nat.le_trans (ih _) ?_;have e0:(Zfh m s).1=bif Qj m s.2 then s.1++[((s.2:Int),())] else s.1:=rfl
   grind
 have:=this (mT m) ([],0);simpa [Xf] using this
def Zx6 (s:Int×Int)(t:Tsk):Int×Int:=(Go.IntKind.wrap .i64 (s.1+Int.ofNat t.2.2.2.2.2.2.1.length),Go.IntKind.wrap .i64 (s.2+Int.ofNat t.2.2.2.1.length))
def Zn4 (s:Int)(q:Que):Int:=Go.IntKind.wrap .i64 (s+Int.ofNat q.2.1.length)
def Yff (m:Mch):Int×Int×Int×Unit:=(((mT m).foldl Zx6 (0,0)).1,((mT m).foldl Zx6 (0,0)).2,(mU m).foldl Zn4 0,())
end Tg

/- Great, Twin and Same of the reference: sizes of machines, copies. -/
namespace Tg
open Go
open Go.Abs (Zl Z8 tmm)
theorem Z0p (t:Tsk):∃ g,Zfs t=some (g,())∧(g=false→t.2.2.2.1.length≤4010∧t.2.2.2.2.1.length≤20∧t.2.2.2.2.2.1.length≤100∧t.2.2.2.2.2.2.1.length≤100∧t.2.2.2.2.2.2.2.1.length≤4010∧t.2.2.2.2.2.2.2.2.1.length≤4010):=by
 rw [Zu2];have hf:=Y0;have:=Ze4 (f:=fun n k=>Zcd n t.2.2.2.2.1 t.2.2.2.2.2.1 t.2.2.2.2.2.2.1 ([(Int.ofNat t.2.2.2.1.length,()),(Int.ofNat t.2.2.2.2.2.2.2.1.length,()),(Int.ofNat t.2.2.2.2.2.2.2.2.1.length,())]) k)
  (l:=[(Int.ofNat t.2.2.2.1.length,()),(Int.ofNat t.2.2.2.2.2.2.2.1.length,()),(Int.ofNat t.2.2.2.2.2.2.2.2.1.length,())])
  (p:=fun e=>!(bif decide (e.1>100) then bif decide (e.1<3990) then true else decide (e.1>4010) else decide (e.1>4010))) (bad:=some (true,()))
  (fin:=bif decide (Int.ofNat t.2.2.2.2.2.1.length>100) then some (true,()) else bif decide (Int.ofNat t.2.2.2.2.2.2.1.length>100) then some (true,()) else some (decide (Int.ofNat t.2.2.2.2.1.length>20),())) (N:=1)
  (fun n i e he=>by have hk:i<3:=(List.getElem?_eq_some_iff.1 he).1;rw [Zjc];simp only [ltL he,Ylx he,cond_true,wS (show i<1000000000000 by omega)];grind)
  (fun n hn=>by obtain⟨q,rfl⟩:∃ q,n=q+1:=⟨n - 1,by omega⟩;rw [Zjc,geL,cond_false,Zta]) fuel (by grind)
 grind
end Tg

/- Great gives short lists; Twin gives the machine; Same is reflexive. -/
namespace Tg
open Go
open Go.Abs (Zl Z8 tmm)
noncomputable def g27 (t:Tsk):Bool:=Classical.choose (Z0p t)
theorem Ynw (t:Tsk):Zfs t=some (g27 t,()):=(Classical.choose_spec (Z0p t)).1
theorem Ynx {t:Tsk}(h:g27 t=false):TLen t:=by obtain⟨h1,h2,h3,h4,h5,h6⟩:=(Classical.choose_spec (Z0p t)).2 h;exact⟨by omega,by omega,by omega,by omega,by omega,by omega⟩
theorem Yhr (m:Mch):∃ g,Zjd m=some (g,())∧(g=false→MLen m):=by
 rw [Zu4];have hf:=Y0;dsimp only;cases c1:decide (Int.ofNat m.2.2.2.2.2.2.2.2.2.2.1.length>30) with
 | true=>grind
 | false =>
 cases c2:decide (Int.ofNat m.2.2.2.2.2.2.2.2.2.2.2.1.length>60) with
 | true=>grind
 | false =>
 cases c3:decide (Int.ofNat m.2.2.2.2.2.2.2.2.2.2.2.2.1.length>30) with
 | true=>grind
 | false =>
 cases c4:decide (Int.ofNat m.2.2.2.2.2.2.2.2.2.2.2.2.2.1.length>60) with
 | true=>grind
 | false =>
 cases decide (Int.ofNat m.2.1.length>100) with
 | true=>grind
 | false =>
 cases decide (Int.ofNat m.2.2.2.2.1.length>100) with
 | true=>grind
 | false =>
 cases decide (Int.ofNat m.2.2.1.length>20) with
 | true=>grind
 | false =>
 have d1:=of_decide_eq_false c1;have d2:=of_decide_eq_false c2;have d3:=of_decide_eq_false c3;have d4:=of_decide_eq_false c4;clear c1 c2 c3 c4;simp only [Int.ofNat_eq_natCast] at d1 d2 d3 d4;simp only [cond_false];have e1:m.2.2.2.2.2.2.2.2.2.2.2.2.1=mT m:=rfl;have e2:m.2.2.2.2.2.2.2.2.2.2.2.2.2.1=mU m:=rfl;have e3:m.2.2.2.2.2.2.2.2.2.2.1=(mG m).1:=rfl;have e4:m.2.2.2.2.2.2.2.2.2.2.2.1=(mG m).2.1:=rfl;rw [e1] at d3;rw [e2] at d4;rw [e3] at d1;rw [e4] at d2;have:=Ze4 (f:=fun n k=>Zce n (mT m) (mU m) k) (l:=mT m) (p:=fun t=>!g27 t) (bad:=some (true,()))
  (fin:=bif (mU m).all (fun q=>!decide (Int.ofNat q.2.1.length>20)) then some (false,()) else some (true,())) (N:=(mU m).length+3)
  (fun n i e he=>by have hk:=(List.getElem?_eq_some_iff.1 he).1;rw [Zjf,ltL he,ix_s he,Ynw,wS (show i<1000000000000 by omega)];grind)
  (fun n hn=>by
   obtain⟨q,rfl⟩:∃ q,n=q+1:=⟨n - 1,by omega⟩;rw [Zjf,geL,cond_false,Ztb];exact Ze4 (f:=fun n k=>Zbg n (mU m) k) (l:=mU m) (p:=fun q=>!decide (Int.ofNat q.2.1.length>20)) (bad:=some (true,())) (fin:=some (false,())) (N:=0)
    (fun n i e he=>by have hk:=(List.getElem?_eq_some_iff.1 he).1;rw [Zhw,ltL he,ix_s he,Zu3,wS (show i<1000000000000 by omega)];grind)
    (fun n hn=>by rw [Zhw,geL];rfl) q (by omega)) fuel (by omega)
 refine⟨!((mT m).all (fun t=>!g27 t)&&(mU m).all (fun q=>!decide (Int.ofNat q.2.1.length>20))),this.trans ?_,fun h=>?_⟩
 · grind
 · rw [Bool.not_eq_false',Bool.and_eq_true,List.all_eq_true,List.all_eq_true] at h;refine⟨fun t ht=>Ynx (by grind),fun q hq=>?_,by omega,by omega,by omega,by omega⟩;grind
section
variable {a:List (Int×Unit)} {b:List Ent} {c:List Evt} {d:List Row5} {e:List Rec3}
end
end Tg
