import Derived.Test.YtenldcjkpgmpnaaGreatDoorTWv3
import Derived.Test.YtenldcjkpgmpnaaGreatDoorTBF
import Derived.Test.YtenldcjkpgmpnaaGreatDoorTAL
/- What the functions of tasks answer, in plain words. -/
set_option linter.unusedVariables false
set_option linter.unusedSimpArgs false
namespace Tg
open Go
open Go.Abs (Zb Zf tmm)
theorem Yob {α:Type}{l:List α}{b:Nat}(h:l.length<=1000000)(hb:b<=1000):Zf b l=some (l,()):=by unfold Zf;rw [Qi h hb];rfl
theorem Ymv {t:Tsk}(h:TLen t):Zop t=some (t,()):=by have h1:=h.h1;have h2:=h.h2;have h3:=h.h3;have h4:=h.h4;have h5:=h.h5;have h6:=h.h6;rw [Z3o,Qi (show t.2.2.2.1.length<=1000000 by omega) (show 88<=1000 by omega),Qi (show t.2.2.2.2.1.length<=1000000 by omega) (show 8<=1000 by omega),Qi (show t.2.2.2.2.2.1.length<=1000000 by omega) (show 88<=1000 by omega),Qi (show t.2.2.2.2.2.2.1.length<=1000000 by omega) (show 40<=1000 by omega),Qi (show t.2.2.2.2.2.2.2.1.length<=1000000 by omega) (show 40<=1000 by omega),Qi (show t.2.2.2.2.2.2.2.2.1.length<=1000000 by omega) (show 24<=1000 by omega)];rfl
theorem tlen {t:Tsk}(h:X3 t=true):TLen t:=by obtain⟨h1,h2,h3,h4,h5,h6⟩:=Zh1 h;exact⟨by omega,by omega,by omega,by omega,by omega,by omega⟩
def zT:Tsk:=(0,0,0,[],[],[],[],[],[],())
def Z0q (t:Tsk)(l:List Snd):Tsk:=(t.1,t.2.1,t.2.2.1,t.2.2.2.1++l,t.2.2.2.2)
theorem Ykc {t:Tsk}{l:List Snd}(h:TLen t)(hl:l.length<=100000):Zfu t l=some (bif X3 t then bif l.all sndB then bif decide (t.2.2.2.1.length+l.length<=4000) then (Z0q t l,0,()) else (zT,4,()) else (zT,8,()) else (zT,8,())):=by
 have h1:=h.h1;rw [Z62,h.chk,Yb1 l (by omega),Ymv h];simp only [J0k];cases X3 t with
 | false=>rfl
 | true =>
  rw [cond_true,bne_self_eq_false,cond_false,cond_true];cases l.all sndB with
  | false=>rfl
  | true =>
   rw [Bool.not_true,cond_false,cond_true,w64 (x:=4000 - Int.ofNat t.2.2.2.1.length) (by simp only [J0g];omega) (by simp only [J0g];omega)];by_cases e:t.2.2.2.1.length+l.length<=4000
   . rw [decide_eq_true e,cond_true,decide_eq_false (by simp only [J0g];omega),cond_false,Qi (show t.2.2.2.1.length+l.length<=1000000 by omega) (show 88<=1000 by omega)];rfl
   . rw [decide_eq_false e,cond_false,decide_eq_true (by simp only [J0g];omega)];rfl
theorem Yq8 {t:Tsk}(h:X3 t=true):Zfu t []=some (t,0,()):=by have:=(Zh1 h).1;rw [Ykc (tlen h) (Nat.zero_le _),h,List.all_nil,decide_eq_true (show t.2.2.2.1.length+([]:List Snd).length<=4000 from this)];unfold Z0q;rw [List.append_nil];rfl
theorem Yq9 {t:Tsk}{l:List Snd}(h:X3 t=true)(hl:l.all sndB=true)(hn:t.2.2.2.1.length+l.length<=4000):X3 (Z0q t l)=true:=by unfold X3 at h ⊢;unfold Z0q;simp only [J0e,J0h,List.all_append,J0s] at h ⊢;obtain⟨a,b,c,d,e⟩:=h;exact⟨a,hn,c,⟨d,hl⟩,e⟩
theorem of_w {e:Evt}(h:evtB e=true):∃ x,Ziq e=some (x,0,())/\msgB x=true:=by
 rw [Zpp];simp only [Zpr,Zvr,J0k];unfold evtB at h;obtain⟨k,a,b,c,d,u⟩:=e;dsimp only at h ⊢;cases k with
 | true =>
  simp only [cond_true,J0e,beq_iff_eq] at h;obtain⟨h1,rfl,rfl,rfl⟩:=h;refine⟨(2,0,0,0,a,0,0,0,0,0,()),?_,?_⟩
  . rw [h1];rfl
  . unfold msgB;rw [show Zpn ((2,0,0,0,a,0,0,0,0,0,()):Msg).2.2.2.2.1=true from h1];rfl
 | false =>
  simp only [cond_false,J0e,beq_iff_eq] at h;obtain⟨rfl,h1⟩:=h;refine⟨(1,b,c,d,0,0,0,0,0,0,()),?_,?_⟩
  . rw [h1];rfl
  . unfold msgB;rw [show Zcm ((1,b,c,d,0,0,0,0,0,0,()):Msg).2.2.1=true from h1];rfl
def srcT (t:Tsk)(x:Msg)(l:List Evt):Tsk:=(t.1,t.2.1,t.2.2.1,[(0,x)],t.2.2.2.2.1,t.2.2.2.2.2.1,l,t.2.2.2.2.2.2.2)
theorem Ymw {t:Tsk}{e:Evt}{l:List Evt}(h:X3 t=true)(h1:t.1=1)(hp:t.2.2.2.1=[])(he:t.2.2.2.2.2.2.1=e::l):∃ x,msgB x=true/\X3 (srcT t x l)=true/\Zmf t=some (srcT t x l,0,()):=by
 obtain⟨z1,z2,z3,z4,z5,z6⟩:=Zh1 h;have hu:=h;unfold X3 at h;simp only [J0e,J0h] at h;obtain⟨a,b,c,d,f,g,i,j⟩:=h;have hev:evtB e=true/\l.all evtB=true:=by rw [he,List.all_cons,J0e] at i;exact i
 obtain⟨x,x1,x2⟩:=of_w hev.1;have hB0:X3 (t.1,t.2.1,t.2.2.1,t.2.2.2.1,t.2.2.2.2.1,t.2.2.2.2.2.1,l,t.2.2.2.2.2.2.2)=true:=by
  unfold X3;simp only [J0e,J0h];refine⟨a,b,?_,d,f,g,hev.2,j⟩;unfold Zu7 at c ⊢;have e1:(t.1==1)=true:=by rw [h1];rfl
  rw [he] at c;simp only [e1,cond_true,J0e,J0h,J0p] at c ⊢;obtain⟨c1,c2,c3,c4⟩:=c;exact⟨c1,c2,by omega,c4⟩
 have hs:([(0,x)]:List Snd).all sndB=true:=by rw [List.all_cons,List.all_nil,Bool.and_true];unfold sndB;rw [x2];rfl
 have hn:t.2.2.2.1.length+([(0,x)]:List Snd).length<=4000:=by rw [hp];exact Nat.le_of_ble_eq_true rfl
 have hP:=Ykc (t:=(t.1,t.2.1,t.2.2.1,t.2.2.2.1,t.2.2.2.2.1,t.2.2.2.2.2.1,l,t.2.2.2.2.2.2.2)) (l:=[(0,x)]) (tlen hB0) (Nat.le_of_ble_eq_true rfl);rw [hB0,hs,decide_eq_true hn,cond_true,cond_true,cond_true] at hP;have hT:Z0q (t.1,t.2.1,t.2.2.1,t.2.2.2.1,t.2.2.2.2.1,t.2.2.2.2.2.1,l,t.2.2.2.2.2.2.2) [(0,x)]=srcT t x l:=by unfold Z0q srcT;rw [hp];rfl
 refine⟨x,x2,?_,?_⟩
 . rw [<- hT];exact Yq9 hB0 hs hn
 . rw [Zyr,Zws,Zsd hu];rw [hT] at hP;clear hT hB0 hs hn a b c d f g i j hu hev;obtain⟨k,N,u,pe,mk,st,ev,ro,la,w⟩:=t;dsimp only at *;subst h1 hp he;rw [J0k,bne_self_eq_false,cond_false,bne_self_eq_false,cond_false,J0k,bne_self_eq_false,cond_false,show decide (Int.ofNat ([]:List Snd).length>0)=false from rfl,cond_false,show (Int.ofNat (e::l).length==0)=false from beq_eq_false_iff_ne.2 (by simp only [J0g,J0p];omega),cond_false,J0q,J0k,x1,J0k,Yob (show (e::l).length<=1000000 by omega) (show 40<=1000 by omega),J0k];rw [decide_eq_true (rfl:Int.toNat (Int.ofNat (e::l).length)=Int.toNat (Int.ofNat (e::l).length)),cond_true,show (decide (1<=Int.toNat (Int.ofNat (e::l).length))&&decide (Int.toNat (Int.ofNat (e::l).length)<=(e::l).length))=true from Bool.and_eq_true_iff.2 ⟨decide_eq_true (Nat.le_add_left 1 l.length),decide_eq_true (Nat.le_refl _)⟩,cond_true];cases l with
   | nil=>rw [show decide (1=Int.toNat (Int.ofNat ([e]:List Evt).length))=true from rfl,cond_true,hP];rfl
   | cons e' l=>rw [show decide (1=Int.toNat (Int.ofNat (e::e' :: l).length))=false from rfl,cond_false,show List.drop 1 (List.take (Int.toNat (Int.ofNat (e::e' :: l).length)) (e::e' :: l))=e' :: l from congrArg (List.drop 1) (List.take_length (l:=e::e' :: l)),hP];rfl
end Tg

/- A machine is copied; a step of a source. -/
namespace Tg
open Go
open Go.Abs (Zb Zf tmm)
theorem set_self {α:Type}{l:List α}{i:Nat}{e:α}(h:l[i]? = some e):l.set i e=l:=by obtain⟨h1,rfl⟩:=J0d.1 h;exact List.set_getElem_self h1
def mW (m:Mch)(t:List Tsk)(u:List Que):Mch:=(m.1,m.2.1,m.2.2.1,m.2.2.2.1,m.2.2.2.2.1,m.2.2.2.2.2.1,m.2.2.2.2.2.2.1,m.2.2.2.2.2.2.2.1,m.2.2.2.2.2.2.2.2.1,m.2.2.2.2.2.2.2.2.2.1,m.2.2.2.2.2.2.2.2.2.2.1,m.2.2.2.2.2.2.2.2.2.2.2.1,t,u,())
theorem Ykd {m:Mch}(ht:∀ t∈mT m,X3 t=true)(hu:∀ u∈mU m,queB u=true)(h1:(mT m).length<=1000)(h2:(mU m).length<=1000):Zjj m=some (m,()):=by
 have hf:=Yp;have e11:∀ n,1001<=n->Zbp n m.1 m.2.1 m.2.2.1 m.2.2.2.1 m.2.2.2.2.1 m.2.2.2.2.2.1 m.2.2.2.2.2.2.1 m.2.2.2.2.2.2.2.1 m.2.2.2.2.2.2.2.2.1 m.2.2.2.2.2.2.2.2.2.1 m.2.2.2.2.2.2.2.2.2.2.1 m.2.2.2.2.2.2.2.2.2.2.2.1 (mT m) (mU m) (Int.ofNat (mU m).length) 0=some (m,()):=fun n hn=>by
  refine (Zkp (f:=fun n k=>Zbp n m.1 m.2.1 m.2.2.1 m.2.2.2.1 m.2.2.2.2.1 m.2.2.2.2.2.1 m.2.2.2.2.2.2.1 m.2.2.2.2.2.2.2.1 m.2.2.2.2.2.2.2.2.1 m.2.2.2.2.2.2.2.2.2.1 m.2.2.2.2.2.2.2.2.2.2.1 m.2.2.2.2.2.2.2.2.2.2.2.1 (mT m) (mU m) (Int.ofNat (mU m).length) k) (l:=mU m) (p:=fun _=>true) (bad:=none) (fin:=some (m,())) (N:=0)
   (fun n i u hi=>?_) (fun n _=>by rw [Zme,geL,cond_false];rfl) n (by omega)).trans (by rw [List.all_eq_true.2 fun _ _=>rfl];rfl)
  have hl:=(J0d.1 hi).1;have hq:=Zv6 (hu u (J0j hi));rw [Zme,ltL hi,cond_true,Z5e hi,Yob (show u.2.1.length<=1000000 by omega) (show 80<=1000 by omega),J0k,Z5e hi,wS (show i<1000000000000 by omega),J0l,show (mU m).set i (u.1,u.2.1,u.2.2)=mU m from set_self hi];rfl
 have e4:=Zkp (f:=fun n k=>Zeq n m.1 m.2.1 m.2.2.1 m.2.2.2.1 m.2.2.2.2.1 m.2.2.2.2.2.1 m.2.2.2.2.2.2.1 m.2.2.2.2.2.2.2.1 m.2.2.2.2.2.2.2.2.1 m.2.2.2.2.2.2.2.2.2.1 m.2.2.2.2.2.2.2.2.2.2.1 m.2.2.2.2.2.2.2.2.2.2.2.1 (mT m) (mU m) (Int.ofNat (mT m).length) k) (l:=mT m) (p:=fun _=>true) (bad:=none) (fin:=some (m,())) (N:=1100)
  (fun n i t hi=>by have hl:=(J0d.1 hi).1;rw [Zn0,ltL hi,cond_true,Z5e hi,Yq8 (ht t (J0j hi)),J0k,Z5e hi,wS (show i<1000000000000 by omega),J0l];rw [show (mT m).set i (t.1,t.2.1,t.2.2.1,t.2.2.2.1,t.2.2.2.2.1,t.2.2.2.2.2.1,t.2.2.2.2.2.2.1,t.2.2.2.2.2.2.2.1,t.2.2.2.2.2.2.2.2.1,t.2.2.2.2.2.2.2.2.2)=mT m from set_self hi];rfl)
  (fun n hn=>by obtain⟨k,rfl⟩:∃ k,n=k+1:=⟨n - 1,by omega⟩;rw [Zn0,geL,cond_false,Zyq];exact e11 k (by omega)) fuel (by omega)
 rw [List.all_eq_true.2 fun _ _=>rfl,cond_true] at e4;rw [Z3p,Qi (show m.2.2.2.2.2.2.2.2.2.2.2.2.1.length<=1000000 from Nat.le_trans h1 (Nat.le_of_ble_eq_true rfl)) (show 168<=1000 by omega),Qi (show m.2.2.2.2.2.2.2.2.2.2.2.2.2.1.length<=1000000 from Nat.le_trans h2 (Nat.le_of_ble_eq_true rfl)) (show 32<=1000 by omega)];exact e4
theorem Yea {m:Mch}{i:Nat}{t:Tsk}{e:Evt}{l:List Evt}(ht:∀ t∈mT m,X3 t=true)(hu:∀ u∈mU m,queB u=true)(h1:(mT m).length<=1000)(h2:(mU m).length<=1000)
    (hi:(mT m)[i]? = some t) (h0:t.1=1) (hp:t.2.2.2.1=[]) (he:t.2.2.2.2.2.2.1=e::l):∃ x,msgB x=true/\X3 (srcT t x l)=true/\Zjk m (i:Int)=some (mW m ((mT m).set i (srcT t x l)) (mU m),true,()):=by
  obtain⟨x,x1,x2,x3⟩:=Ymw (ht t (J0j hi)) h0 hp he;refine⟨x,x1,x2,?_⟩;have hi' : m.2.2.2.2.2.2.2.2.2.2.2.2.1[i]? = some t:=hi;rw [Z3q,ix_s hi',hp,List.length_nil,show decide (Int.ofNat 0>0)=false from rfl,cond_false,h0,bne_self_eq_false,cond_false,x3,J0k,Ykd ht hu h1 h2,J0k,Z5e hi',J0l];rfl
theorem Z66 {α:Type}{p:Nat->α->Bool}:∀ {l:List α} {k i:Nat} {e:α},allI p k l=true->p (k+i) e=true->allI p k (l.set i e)=true
 | [],_,_,_,_,_=>rfl
 | a::l,k,0,e,h,he=>by rw [allI,J0e] at h;rw [List.set_cons_zero,allI,J0e];exact⟨he,h.2⟩
 | a::l,k,i+1,e,h,he=>by rw [allI,J0e] at h;rw [List.set_cons_succ,allI,J0e];exact⟨h.1,Z66 h.2 (by rwa [show k+(i+1)=k+1+i by omega] at he)⟩
theorem Yae {b:Bool}{m:Mch}(h:mchB b m=true){i:Nat}{t:Tsk}(ht:fitB m.2.2.2.1 m.2.2.2.2.2.2.2.2.2.1 (mG m) i t=true):mchB b (mW m ((mT m).set i t) (mU m))=true:=by
 unfold mchB at h ⊢;simp only [J0e] at h ⊢;obtain⟨h1,h2,h3,h4,h5,h6⟩:=h;refine⟨h1,h2,?_,h4,h5,?_⟩
 . show (((mT m).set i t).length==(mG m).1.length)=true;rw [List.length_set];exact h3
 . exact Z66 h6 (by rw [Nat.zero_add];exact ht)
end Tg

/- A step by turns: who may do it. -/
namespace Tg
open Go
open Go.Abs (Zb Zf tmm)
def zMch:Mch:=(0,[],[],false,[],0,0,0,false,0,[],[],[],[],())
section
variable {b:Bool} {m:Mch} (hq:QOk (mQ m) b) (hm:MLen m) (h:mchB b m=true)
include hq hm h
theorem Z67 {i:Nat}(hi:i<(mT m).length):Ziz m (i:Int)=some (0,()):=by rw [Zp3,Ztd m b hq hm,h,cond_true,J0k,bne_self_eq_false,cond_false,decide_eq_false (show ¬ (i:Int)<0 by omega),cond_false,decide_eq_false (show ¬ (i:Int)>=Int.ofNat m.2.2.2.2.2.2.2.2.2.2.2.2.1.length from by have:i<m.2.2.2.2.2.2.2.2.2.2.2.2.1.length:=hi;simp only [J0g];omega)];rfl
theorem Yeb {op:Int}(ho:op<0∨((mT m).length:Int)<=op):Ziz m op=some (51,()):=by
 rw [Zp3,Ztd m b hq hm,h,cond_true,J0k,bne_self_eq_false,cond_false];rcases ho with ho | ho
 . rw [decide_eq_true ho];rfl
 . rw [decide_eq_true (show op>=Int.ofNat m.2.2.2.2.2.2.2.2.2.2.2.2.1.length from ho)];cases decide (op<0) <;> rfl
theorem Yke {op:Int}(ho:op<0∨((mT m).length:Int)<=op):Zd9 m op=some (zMch,51,()):=by rw [Zmg,Yeb hq hm h ho];rfl
theorem Ymx {i:Nat}(hi:i<(mT m).length)(ha:Znu m i=false):Zd9 m (i:Int)=some (zMch,6,()):=by rw [Zmg,Z67 hq hm h hi,J0k,bne_self_eq_false,cond_false,Z0b h hi,ha];rfl
theorem Yaf {i:Nat}(hi:i<(mT m).length)(ha:Znu m i=true){x:Mch}(hb:Zjk m (i:Int)=some (x,true,())):Zd9 m (i:Int)=some (x,0,()):=by rw [Zmg,Z67 hq hm h hi,J0k,bne_self_eq_false,cond_false,Z0b h hi,ha,J0k,Bool.not_true,cond_false,hb];rfl
end
theorem Ycu {b:Bool}{m:Mch}(h:mchB b m=true):∀ t∈mT m,X3 t=true:=fun t ht=>by
 obtain⟨_,_,_,_,_,_,_,hts⟩:=Zh2 h;obtain⟨i,hi⟩:=List.getElem?_of_mem ht;have:=hts i t hi;unfold fitB at this;split at this
 . cases this
 . simp only [J0e] at this;exact this.2.1
theorem mlen {b:Bool}{m:Mch}(h:mchB b m=true):MLen m:=by obtain⟨_,_,h1,h2,h3,h4,h5,_⟩:=Zh2 h;exact⟨fun t ht=>tlen (Ycu h t ht),fun q hq=>by have:=Zv6 (h5 q hq);omega,by omega,by omega,by omega,by omega⟩
theorem Ykf {b:Bool}{m:Mch}(hq:QOk (mQ m) b)(h:mchB b m=true){i:Nat}{t:Tsk}{e:Evt}{l:List Evt}(hi:(mT m)[i]? = some t)(h0:t.1=1)(hp:t.2.2.2.1=[])(he:t.2.2.2.2.2.2.1=e::l) :
    ∃ t',t'.2.2.2.1≠[]/\Zd9 m (i:Int)=some (mW m ((mT m).set i t') (mU m),0,())/\mchB b (mW m ((mT m).set i t') (mU m))=true:=by
  obtain⟨_,hr,g1,g2,h3,h4,h5,hts⟩:=Zh2 h;have hl:=(J0d.1 hi).1;obtain⟨x,x1,x2,x3⟩:=Yea (Ycu h) h5 (by omega) (by omega) hi h0 hp he;have ha:Znu m i=true:=by rw [Yct hi];unfold Znt;rw [hp];dsimp only;rw [h0,he];rfl
  refine⟨srcT t x l,by simp [srcT],Yaf hq (mlen h) h hl ha x3,Yae h ?_⟩;have hf:=hts i t hi;obtain⟨o,ho⟩:∃ o,(mG m).1[i]? = some o:=⟨_,J0c (by omega)⟩;have hb:=(hr.2.2 i o ho).2;unfold fitB at hf ⊢;rw [ho] at hf ⊢;simp only [J0e] at hf ⊢;obtain⟨f1,f2,f3,f4⟩:=hf;have k1:o.1=1:=by have:=f1.1;rw [h0] at this;exact (by simpa using this:(1:Int)=o.1).symm
  refine⟨f1,x2,?_,?_⟩
  . rw [show (srcT t x l).2.2.2.1=[(0,x)] from rfl,List.all_cons,List.all_nil,Bool.and_true,J0h];unfold Zkr bnd at hb;rw [k1] at hb;simp only [J0e,J0h,if_true] at hb;show (0:Int)<(cnt false (i:Int) (mG m).2.1:Int);omega
  . show (bif t.1==2 then _ else bif t.1==4 then _ else bif t.1==5 then _ else true)=true;rw [h0];rfl
end Tg

/- Functions of the code, told plainly and checked by the kernel. -/
set_option maxRecDepth 100000
namespace Tg
open Go.Abs hiding fuel
open Go.Proofs.Tryz (prog)
open Int (ofNat toNat)
open Go.IntKind (wrap)
noncomputable def tab3:Tb:=[(4,con4),(5,con5),(6,Yi2),(7,con7),(8,con8),(9,con9),(10,Yje)]
def F3:TFun:=⟨[],[],[.a [.int .u8,.sl Wq3,.sl Wq15,.bool,.sl Wq3,.int .u8,.int .i64,.int .i64,.bool,.int .u8],.c (.sl [.sl Wq9]),.c di,.c di,.c di],[.c (.p db)],qc [qn 10,qb,qn 92],[],[],0⟩
noncomputable def con3:=mkC tab3 prog 3 F3
theorem ok3:con3.ok prog 3:=mkO ⟨ok4,ok5,ok6p,ok7,ok8,ok9,ok10,trivial⟩
noncomputable def Zh5 (a0:(Int×List (Int×Int×Int×Int×Int×Unit)×List (Int×Unit)×Bool×List (Int×Int×Int×Int×Int×Unit)×Int×Int×Int×Bool×Int×Unit))(a1:(List (List (Bool×Int×Int×Int×Int×Unit)×Unit)))(a2 a3 a4:Int):Option (Bool×Unit):=con3.fn (a0,a1,a2,a3,a4,())
theorem Zos a0 a1 a2 a3 a4:Eq (Zh5 a0 a1 a2 a3 a4) <| (Zrj a0 a1 a2 a3).bind fun e0=>bif !e0.1 then some (true,()) else (Zan a0 a1 a2 a3).bind fun e1=>(Zl3 e1.1).bind fun e2=>(Zan (e1.1.1,e1.1.2.1,e1.1.2.2.1,e1.1.2.2.2.1,e1.1.2.2.2.2.1,e1.1.2.2.2.2.2.1,e1.1.2.2.2.2.2.2.1,e1.1.2.2.2.2.2.2.2.1,e1.1.2.2.2.2.2.2.2.2.1,e1.1.2.2.2.2.2.2.2.2.2.1,()) e2.1 a2 a3).bind fun e3=>(Zd9 e1.1 a4).bind fun e4=>let k1:=some (false,());bif e1.2.1 !=0 then k1 else bif e2.2.1 !=0 then k1 else bif e3.2.1 !=0 then k1 else (Zji e1.1 e3.1).bind fun e5=>bif !e5.1 then k1 else bif e4.2.1 !=0 then bif e4.2.1==6 then some (true,()) else some (e4.2.1==51,()) else (Zha e4.1).bind fun e6=>bif e6.2.1==0 then some (!e6.1,()) else k1:=mkE
end Tg

/- The law BuildTwice in plain words. -/
namespace Tg
open Go
open Go.Abs (Zb Zf tmm)
theorem Yra (q:Qr)(inp:Inp)(p r:Int):∃ b,Zrj q inp p r=some (b,())/\(b=true->askE q inp p r=0/\inp.length<=6/\q.2.1.length<=70/\q.2.2.1.length<=10/\q.2.2.2.2.1.length<=70):=by
 obtain⟨g,h1,h2⟩:=Yj5 q inp;rw [Z61,h1,J0k];cases g with
 | true=>exact⟨false,rfl,fun h=>by cases h⟩
 | false=>obtain⟨l,hl⟩:=h2 rfl;refine⟨askE q inp p r==0,?_,fun h=>⟨by simpa using h,l,hl⟩⟩;rw [Yj4 q inp (by omega) p r];rfl
theorem Yec {b:Bool}{x:Mch}(hx:mchB b x=true){i:Nat}{t:Tsk}(ht:(mT x)[i]? = some t)(hp:t.2.2.2.1≠[]):Zwu x=false:=by
 obtain⟨_,_,_,_,htl,_⟩:=Zh2 hx;unfold Zwu;cases he:((givL (mT x)).length==(mQ x).2.2.1.length) with
 | false=>rfl
 | true =>
  have he' : (givL (mT x)).length=(mQ x).2.2.1.length:=by simpa using he
  rw [cond_true];rcases Zor (hitR x) prs with ⟨y,_,hh,k⟩ | k
  . rw [k];unfold Yab;rw [Bool.and_eq_false_iff];refine .inr ?_;rw [Bool.eq_false_iff];intro hz;have hl:(mT (mkM x y)).length=(mT x).length:=by unfold hitR at hh;dsimp only at hh;rw [J0e] at hh;have:=hh.1;unfold eqL at this;rw [J0e,beq_iff_eq] at this;show (List.map _ _).length=_;rw [List.length_map,he',htl];exact this.1
    obtain⟨t',ht'⟩:∃ t',(mT (mkM x y))[i]? = some t' := ⟨_,J0c (by rw [hl];exact (J0d.1 ht).1)⟩;have:=Yqx hz ht ht';unfold Zoq at this;simp only [J0e,beq_iff_eq] at this;exact hp (List.length_eq_zero_iff.1 this.2.2.1.1)
  . rw [k]
theorem Yrb {m:Mch}(h:MLen m)(h1:(mQ m).2.1.length<=100000)(h2:(mQ m).2.2.1.length<=100000)(h3:(mQ m).2.2.2.2.1.length<=100000):Zji m m=some (true,()):=by rw [Z3n];rw [show Zhd (m.1,m.2.1,m.2.2.1,m.2.2.2.1,m.2.2.2.2.1,m.2.2.2.2.2.1,m.2.2.2.2.2.2.1,m.2.2.2.2.2.2.2.1,m.2.2.2.2.2.2.2.2.1,m.2.2.2.2.2.2.2.2.2.1,()) (m.1,m.2.1,m.2.2.1,m.2.2.2.1,m.2.2.2.2.1,m.2.2.2.2.2.1,m.2.2.2.2.2.2.1,m.2.2.2.2.2.2.2.1,m.2.2.2.2.2.2.2.2.1,m.2.2.2.2.2.2.2.2.2.1,())=some (true,()) from Ymt (q:=mQ m) h1 h2 h3];have hg:=Yqw (mG m) (mG m) h.ops h.chs;rw [Zmi (fun e=>by simp [opQ]),Zmi (fun e=>by simp [chQ])] at hg;rw [show Zjb (m.2.2.2.2.2.2.2.2.2.2.1,m.2.2.2.2.2.2.2.2.2.2.2.1,()) (m.2.2.2.2.2.2.2.2.2.2.1,m.2.2.2.2.2.2.2.2.2.2.2.1,())=some (true,()) from hg,show Zis m m=some (true,()) from Yqc h];rfl
theorem Yed (q:Qr)(inp:Inp)(p r op:Int):Zh5 q inp p r op=some (true,()):=by
 obtain⟨g,h1,h2⟩:=Yra q inp p r;rw [Zos,h1,J0k];cases g with
 | false=>rfl
 | true =>
  obtain⟨a0,l1,l2,l3,l4⟩:=h2 rfl;obtain⟨e1,e2,e3,_,⟨p1,p2,r1,r2⟩,n1,n2⟩:=Yi7 a0;have hb:Zan q inp p r=some (mOf q inp p r,0,()):=by rw [Z6z q inp p r (by omega) (by omega) (by omega) (by omega),a0];rfl
  have hm:=Yms a0;have hl:=Yka a0;have F:=fine hl hm;have hq:QOk (mQ (mOf q inp p r)) ((chkQ q).2.1==0):=⟨⟨(chkQ q).1,(chkQ q).2.1,Zm0 q,rfl⟩⟩;have hc:=Ztd (mOf q inp p r) _ hq hl;rw [hm,cond_true] at hc;have t1:(mT (mOf q inp p r)).length=(mG (mOf q inp p r)).1.length:=F.tl;have t2:=F.ops;have hi:Zl3 (mOf q inp p r)=some (inp,0,()):=by rw [Zyg,hc,J0k,Zaw,cond_false,Yj2 hl (by omega),Ykb];rfl
  have hs:Zji (mOf q inp p r) (mOf q inp p r)=some (true,()):=Yrb hl (by show q.2.1.length<=_;omega) (by show q.2.2.1.length<=_;omega) (by show q.2.2.2.2.1.length<=_;omega);rw [Bool.not_true,cond_false,hb,J0k,hi,J0k];rw [show Zan ((mOf q inp p r).1,(mOf q inp p r).2.1,(mOf q inp p r).2.2.1,(mOf q inp p r).2.2.2.1,(mOf q inp p r).2.2.2.2.1,(mOf q inp p r).2.2.2.2.2.1,(mOf q inp p r).2.2.2.2.2.2.1,(mOf q inp p r).2.2.2.2.2.2.2.1,(mOf q inp p r).2.2.2.2.2.2.2.2.1,(mOf q inp p r).2.2.2.2.2.2.2.2.2.1,()) inp p r=some (mOf q inp p r,0,()) from hb,J0k];have key:∃ x e,Zd9 (mOf q inp p r) op=some (x,e,())/\(e=6∨e=51∨e=0/\Zha x=some (false,0,())):=by
   by_cases ho:op<0∨((mT (mOf q inp p r)).length:Int)<=op
   . exact⟨_,_,Yke hq hl hm ho,.inr (.inl rfl)⟩
   . obtain⟨i,rfl⟩:∃ i:Nat,op=(i:Int):=⟨op.toNat,by omega⟩;have hi:i<(mT (mOf q inp p r)).length:=by omega
     obtain⟨t,ht⟩:∃ t,(mT (mOf q inp p r))[i]? = some t:=⟨_,J0c hi⟩;cases ha:Znu (mOf q inp p r) i with
     | false=>exact⟨_,_,Ymx hq hl hm hi ha,.inl rfl⟩
     | true =>
      rw [Yd9 ht,J0e,beq_iff_eq,J0h] at ha;obtain⟨ev,el,he⟩:∃ e l,t.2.2.2.2.2.2.1=e::l:=by
       cases h:t.2.2.2.2.2.2.1 with
       | nil=>rw [h] at ha;exact absurd ha.2 (by simp)
       | cons e l=>exact⟨e,l,rfl⟩
      have hp:t.2.2.2.1=[]:=by obtain⟨o,_,rfl⟩:=List.mem_map.1 (show t∈(opsG inp.length (partsOf q p) q.2.2.2.2.2.2.2.2.1 q.2.2.2.1 (q.2.2.2.2.2.2.2.2.2.1==2)).map (Zy inp.length inp) from J0j ht);exact (Ycr _ _ _).2
      obtain⟨t',k1,k2,k3⟩:=Ykf hq hm ht ha.1 hp he;refine⟨_,_,k2,.inr (.inr ⟨rfl,?_⟩)⟩;have hxl:=mlen k3;have hqx:QOk (mQ (mW (mOf q inp p r) ((mT (mOf q inp p r)).set i t') (mU (mOf q inp p r)))) ((chkQ q).2.1==0):=hq;have hcx:=Ztd _ _ hqx hxl;rw [k3,cond_true] at hcx;rw [Yqy (fine hxl k3) hcx,Yec k3 (i:=i) (t:=t') (by
       show ((mT (mOf q inp p r)).set i t')[i]? = some t';rw [List.getElem?_set_self hi]) k1]
  obtain⟨x,e,k1,k2⟩:=key;rw [k1,J0k,hs];rcases k2 with rfl | rfl | ⟨rfl,k2⟩
  . rfl
  . rfl
  . simp only [J0k,Zaw,cond_false,Bool.not_true,k2,beq_self_eq_true,cond_true,Bool.not_false]
end Tg

/- The law BuildTwice from the contract of its function. -/
namespace Tg
open Go.Abs
theorem Yrc:∀ pas,POKAs con3.args pas->Spec Go.Proofs.Tryz.prog 3 pas [.c (.c (.bool true))]:=Yoz ok3 fun a _=>Yed a.1 a.2.1 a.2.2.1 a.2.2.2.1 a.2.2.2.2.1
end Tg
