import Derived.Test.YtmkhomfchbmkfaaGreatDoorVMW
import Derived.Test.YtmkhomfchbmkfaaGreatDoorVYb10
/- Which operators can do a step: the program and the reference say the same. -/
set_option linter.unusedVariables false
set_option linter.unusedSimpArgs false
namespace Tg
open Go
open Go.Abs (Zb Zf tmm)
def Znb:Nat->List Que->Int
 | _,[]=>-1
 | i,q::l=>bif decide (0<q.2.1.length) then (i:Int) else Znb (i+1) l
theorem Ybs {i n:Nat}(h:i<n):Int.tmod (i:Int) (n:Int)=(i:Int):=by rw [Int.tmod_eq_emod_of_nonneg (by omega)];exact Int.emod_eq_of_lt (by omega) (by omega)
theorem Ysw (l:List Que)(hl:l.length<=100000):Zps 0 l=some (Znb 0 l,()):=by
 have hf:=Yu;have key:∀ (f:Nat->Int->Option (Int×Unit)),(∀ n (i:Nat) q,l[i]? = some q->f (n+1) (i:Int)=bif decide (0<q.2.1.length) then some ((i:Int),()) else f n ((i+1:Nat):Int))->(∀ n,f (n+1) (l.length:Int)=some (-1,())) ->
     ∀ (r:List Que) (i n:Nat),l.drop i=r->i<=l.length->r.length+1<=n->f n (i:Int)=some (Znb i r,()):=by
   intro f h1 h2 r
   induction r with
   | nil=>intro i n h hi hn;obtain⟨m,rfl⟩:∃ m,n=m+1:=⟨n - 1,by omega⟩;have:=Xn h hi;subst this;exact h2 m
   | cons q r ih=>intro i n h hi hn;obtain⟨m,rfl⟩:∃ m,n=m+1:=⟨n - 1,by omega⟩;obtain⟨g1,g2,g3⟩:=Xg h;rw [h1 m i q g2,Znb,ih (i+1) m g3 (by omega) (by grind)];grind
 have hd:∀ q:Que,decide (Int.ofNat q.2.1.length>0)=decide (0<q.2.1.length):=fun q=>by grind
 have ha:∀ (i:Nat) (q:Que),l[i]? = some q->Int.tmod (Go.IntKind.wrap .i64 ((0:Int)+(i:Int))) (Int.ofNat l.length)=(i:Int):=fun i q h=>by have hi:=(J0d.1 h).1;rw [Int.zero_add,w64 (by omega) (by omega)];exact Ybs hi
 have hz:∀ (i:Nat) (q:Que),l[i]? = some q->decide (Int.ofNat l.length=0)=false:=fun i q h=>by grind
 obtain⟨m,hm⟩:∃ m,fuel=m+1:=⟨fuel - 1,by omega⟩
 . have h5:=key (fun n k=>Ze0 n 0 l (Int.ofNat l.length) k) (fun n i q h=>by have hi:=(J0d.1 h).1;rw [Zo1];simp only [ltL h,cond_true,hz i q h,cond_false,ha i q h,ix_s h,hd,wS (show i<1000000000000 by omega)]) (fun n=>by rw [Zo1];grind) l 0 m rfl (by omega) (by omega);rw [Z4o,hm];have:(bif decide ((0:Int)>=Int.ofNat l.length) then Zbd (m+1) 0 l else Zbd (m+1) 0 l)=Zbd (m+1) 0 l:=by grind
   rw [this,Zzu];exact h5
def qsAt (u:List Que)(l:List (Int×Unit)):List Que:=l.filterMap fun y=>u[y.1.toNat]?
theorem Zxo {u:List Que}:∀ {l:List (Int×Unit)},(∀ y∈l,∃ i:Nat,i<u.length/\y=((i:Int),()))->(qsAt u l).length=l.length
 | [],_=>rfl
 | y::l,h=>by obtain⟨i,hi,rfl⟩:=h y (by simp);have ih:=Zxo (l:=l) (fun z hz=>h z (by simp [hz]));unfold qsAt at ih ⊢;grind
theorem Z77 (m:Mch)(l:List (Int×Unit))(hl:l.length<=1000)(hu:∀ y∈l,∃ i:Nat,i<(mU m).length/\y=((i:Int),())):Zhz m l=some (qsAt (mU m) l,()):=by
 have hf:=Yu;have fold:∀ (l:List (Int×Unit)) (a:List Que),l.foldl (fun s e=>s++((mU m)[e.1.toNat]?).toList) a=a++qsAt (mU m) l:=by
  intro l
  induction l with
  | nil=>intro a;simp [qsAt]
  | cons y l ih=>intro a;rw [List.foldl_cons,ih];unfold qsAt;grind
 have step:∀ (i:Nat) (e:Int×Unit),l[i]? = some e -> ∃ (k:Nat) (q:Que),e=((k:Int),())/\(mU m)[k]? = some q:=fun i e h=>by obtain⟨k,hk,rfl⟩:=hu e (J0j h);exact⟨k,_,rfl,J0c hk⟩
 . have:=Yih (f:=fun n s k=>Zdw n (mU m) s l (Int.ofNat l.length) k) (l:=l) (g:=fun s e=>s++((mU m)[e.1.toNat]?).toList) (fin:=fun s=>some (s,())) (N:=0) (fun i s=>s.length<=i)
    (fun n s i e h hp=>by
     have hi:=(J0d.1 h).1;obtain⟨k,q,rfl,hq⟩:=step i e h;have hb:Zb (s.length+[q].length) 32=true:=Zej (by grind) (by omega);constructor
     . rw [Zm9];simp only [ltL h,cond_true,ix_s h,ix_s hq,hb,wS (show i<1000000000000 by omega),J0l,hq,Option.toList_some]
     grind)
    (fun n s _ _=>by rw [Zm9];grind) fuel [] (Nat.le_refl _) (by omega)
   rw [Zzs];rw [fold,List.nil_append] at this;exact this
end Tg

/- An operator of a right machine can do a step: the program and the reference say the same. -/
namespace Tg
open Go
open Go.Abs (Zb Zf tmm)
def Zq4 (t:Tsk)(ins outs:List Que):Bool:=match t.2.2.2.1 with
 | []=>bif t.1==1 then decide (0<t.2.2.2.2.2.2.1.length) else decide (0<=Znb 0 ins)
 | s::_=>match outs[s.1.toNat]? with
  | none=>false
  | some q=>decide ((q.2.1.length:Int)<q.1)
theorem Ysx {t:Tsk}{ins outs:List Que}(h1:Zc1 t=true)(h2:ins.length<=4)(h3:outs.length<=3)(h4:ins.all queB=true)(h5:outs.all queB=true)(h6:t.2.2.2.1.all (fun s=>decide (s.1<(outs.length:Int)))=true) :
    Zjs t ins outs=some (Zq4 t ins outs,0,()):=by
  have hf:=Yu;have hl:=(Z14 h1).1;have hf0:=Ysw ins (by omega);have hsn:∀ s∈t.2.2.2.1,0<=s.1/\s.1<(outs.length:Int):=fun s hs=>by have a:=List.all_eq_true.1 h6 s hs;unfold Zc1 at h1;simp only [J0e] at h1;have b:=List.all_eq_true.1 h1.2.2.2.1 s hs;unfold sndB at b;grind
  have hq:∀ q∈outs,Zjr q=some (q.1 - (q.2.1.length:Int),0,()):=fun q hq=>by have hb:=List.all_eq_true.1 h5 q hq;rw [Zxk,Zpq hb];unfold queB at hb;simp only [J0e,J0h] at hb;simp only [J0k,J0g,bne_self_eq_false,cond_false];rw [w64 (by omega) (by omega)]
  have i6:∀ n,Zfp (n+1) ins outs t.1 t.2.2.2.1 t.2.2.2.2.2.2.1=some (Zq4 t ins outs,0,()):=fun n=>by
   rw [Ztv];unfold Zq4;cases hp:t.2.2.2.1 with
   | nil =>
    simp only [List.length_nil,hf0,J0k];have:decide (Int.ofNat t.2.2.2.2.2.2.1.length>0)=decide (0<t.2.2.2.2.2.2.1.length):=by grind
    grind
   | cons s r=>have hs:=hsn s (by grind);obtain⟨k,hk⟩:∃ k:Nat,s.1=(k:Int):=⟨s.1.toNat,by omega⟩;obtain⟨q,hqk⟩:∃ q,outs[k]? = some q:=⟨_,J0c (by omega)⟩;have:decide (Int.ofNat (s::r).length>0)=true:=decide_eq_true (by simp);simp only [this,cond_true,J0q,J0k,hk,ix_s hqk,hq q (J0j hqk),J0l,hqk];grind
  . rw [Zxl,Z4f h1 h2 h3 h4 h5];simp only [J0k,bne_self_eq_false,cond_false];have:=Zeb (f:=fun n k=>Zcn n ins outs t.1 t.2.2.2.1 t.2.2.2.2.2.2.1 t.2.2.2.1 (Int.ofNat t.2.2.2.1.length) k) (l:=t.2.2.2.1) (p:=fun s=>decide (s.1<(outs.length:Int))) (bad:=some (false,2,())) (fin:=some (Zq4 t ins outs,0,())) (N:=1)
     (fun n k e he=>by
      have hk:=(J0d.1 he).1;have hd:decide (e.1>=Int.ofNat outs.length) = !decide (e.1<(outs.length:Int)):=by grind
      rw [Zkt];simp only [ltL he,ix_s he,cond_true,wS (show k<1000000000000 by omega),hd];grind)
     (fun n hn=>by obtain⟨q,rfl⟩:∃ q,n=q+1:=⟨n - 1,by omega⟩;rw [Zkt];grind) fuel (by omega)
    grind
def Zxp (m:Mch)(i:Nat):Bool:=match (mT m)[i]? with
 | none=>false
 | some t=>Zq4 t (qsAt (mU m) (joinL true (mG m) (i:Int))) (qsAt (mU m) (joinL false (mG m) (i:Int)))
theorem Yga {b:Bool}{m:Mch}(h:mchB b m=true):b=true/\Tj.Zhy (mG m).1 (mG m).2.1/\(mG m).1.length<=20/\(mG m).2.1.length<=100/\(mT m).length=(mG m).1.length/\(mU m).length=(mG m).2.1.length/\(∀ q∈mU m,queB q=true)/\(∀ (i:Nat) t,(mT m)[i]? = some t->fitB m.2.2.2.1 m.2.2.2.2.2.2.2.2.2.1 (mG m) i t=true):=by
 unfold mchB at h;simp only [J0e,beq_iff_eq] at h;obtain⟨h1,h2,h3,h4,h5,h6⟩:=h;obtain⟨g1,g2,g3⟩:=Z4n h2;refine⟨h1,Ybn g3,g1,g2,h3,h4,fun q hq=>?_,fun i t ht=>?_⟩
 . obtain⟨i,hi⟩:=List.getElem?_of_mem hq;have:=Zod h5 hi;unfold queI at this;grind
 . have:=Zod h6 ht;grind
theorem Ygb {b:Bool}{m:Mch}(h:mchB b m=true){i:Nat}(hi:i<(mT m).length):Zjt m (i:Int)=some (Zxp m i,()):=by
 obtain⟨_,hr,g1,g2,ht,hu,hqs,hts⟩:=Yga h;obtain⟨t,htt⟩:∃ t,(mT m)[i]? = some t:=⟨_,J0c hi⟩;have hfit:=hts i t htt;unfold fitB at hfit;obtain⟨o,ho⟩:∃ o,(mG m).1[i]? = some o:=⟨_,J0c (by omega)⟩;rw [ho] at hfit;simp only [J0e] at hfit;obtain⟨_,htask,hpend,_⟩:=hfit;have hc:=Zq1 hr (i:=i) (by omega);have hj:∀ b,∀ y∈joinL b (mG m) (i:Int),∃ k:Nat,k<(mU m).length/\y=((k:Int),()):=fun b y hy=>by rw [hu];exact Yf9 hr hy
 have n1:=Zxo (hj true);have n2:=Zxo (hj false);have j1:=Zgc hr true (i:Int);have j2:=Zgc hr false (i:Int);have qall:∀ l:List (Int×Unit),(qsAt (mU m) l).all queB=true:=fun l=>by rw [List.all_eq_true];intro q hq;unfold qsAt at hq;grind
 have hab:=Ysx (t:=t) (ins:=qsAt (mU m) (joinL true (mG m) (i:Int))) (outs:=qsAt (mU m) (joinL false (mG m) (i:Int))) htask (by omega) (by omega) (qall _) (qall _) (by grind);have q1:=Z77 m (joinL true (mG m) (i:Int)) (by omega) (hj true);have q2:=Z77 m (joinL false (mG m) (i:Int)) (by omega) (hj false);have htt' : m.2.2.2.2.2.2.2.2.2.2.2.2.1[i]? = some t:=htt;have hm:Zxp m i=Zq4 t (qsAt (mU m) (joinL true (mG m) (i:Int))) (qsAt (mU m) (joinL false (mG m) (i:Int))):=by unfold Zxp;rw [htt]
 . rw [Zxm,ix_s htt',show Qe (m.2.2.2.2.2.2.2.2.2.2.1,m.2.2.2.2.2.2.2.2.2.2.2.1,()) (i:Int)=some (joinL true (mG m) (i:Int),()) from Z71 hr g2 (by omega),show Xj (m.2.2.2.2.2.2.2.2.2.2.1,m.2.2.2.2.2.2.2.2.2.2.2.1,()) (i:Int)=some (joinL false (mG m) (i:Int),()) from Z16 hr g2 (by omega)];simp only [J0k,q1,q2,hab,hm]
end Tg

/- enabled.All, Left and First against the reference. -/
namespace Tg
open Go
open Go.Abs (Zb Zf tmm)
theorem Ygc {b:Bool}{m:Mch}(hq:QOk (mQ m) b)(hm:MLen m)(h:mchB b m=true){i:Nat}(hi:i<(mT m).length):Zb4 m (i:Int)=some (Zxp m i,0,()):=by
 rw [Zxn,Z4m,Yem m b hq hm,Ygb h hi,h];have e1:decide ((i:Int)<0)=false:=decide_eq_false (by omega);have e2:decide ((i:Int)>=Int.ofNat m.2.2.2.2.2.2.2.2.2.2.2.2.1.length)=false:=decide_eq_false (by
  have:i<m.2.2.2.2.2.2.2.2.2.2.2.2.1.length:=hi;grind)
 grind
end Tg

/- enabled.First and Left against the reference. -/
namespace Tg
open Go
open Go.Abs (Zb Zf tmm)
end Tg

/- Great, Twin and Same of the reference: sizes of machines, copies. -/
namespace Tg
open Go
open Go.Abs (Zb Zf tmm)
end Tg

/- Great gives short lists; Twin gives the machine; Same is reflexive. -/
namespace Tg
open Go
open Go.Abs (Zb Zf tmm)
section
variable {a:List (Int×Unit)} {b:List Ent} {c:List Evt} {d:List Row5} {e:List Rec3}
end
end Tg
