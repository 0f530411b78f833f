import Derived.Test.YtmkkpgcecpnejaaGreatDoorESI
/- The channels of an operator in order: sorted, and place by place. -/
set_option linter.unusedVariables false
set_option linter.unusedSimpArgs false
namespace Tj
open Go Go.Sort Go.Proofs
def keyO (b:Bool)(chs:List Chn)(i:Nat):Int:=((chs[i]?).map (keyF b)).getD 0
def Zp9 (b:Bool)(op:Int)(chs:List Chn):List Nat:=(List.range 20).flatMap fun pl:Nat=>(List.range chs.length).filter fun i=>(chs[i]?).any fun c=>decide (selF b c=op)&&decide (keyF b c=(pl:Int))
theorem Zty (b:Bool)(op:Int)(chs:List Chn):(sorF b op chs).Perm (idxN b op chs chs.length):=by
 by_cases h:0<chs.length
 . obtain⟨I,hI⟩:∃ I:Inhabited (Fin chs.length),I=⟨⟨0,h⟩⟩:=⟨_,rfl⟩;rw [Zns h hI];have hp:=(insertionSort_holds (swoF b chs) (idxD b op chs) 0 (idxD b op chs).size (Nat.zero_le _) (Nat.le_refl _)).1;obtain⟨h1,_,h3⟩:=hp;generalize Sort.insertionSort (ltOf (cfF b chs)) (idxD b op chs) 0 (idxD b op chs).size=d' at h1 h3 ⊢;have e1:(d'.extract 0 (idxD b op chs).size).toList=d'.toList:=by rw [<- h1];simp
   have e3:((idxD b op chs).extract 0 (idxD b op chs).size).toList=(idxD b op chs).toList:=by simp
   rw [e1,e3] at h3;have h4:=h3.map Fin.val;have e2:(idxD b op chs).toList.map Fin.val=idxN b op chs chs.length:=by unfold idxD;rw [List.map_pmap];simp
   grind
 . have:chs=[]:=List.length_eq_zero_iff.1 (by omega);subst this;exact List.Perm.refl _
theorem Z54 (b:Bool)(op:Int)(chs:List Chn):(sorF b op chs).Pairwise fun i j=>keyO b chs i<=keyO b chs j:=by
 by_cases h:0<chs.length
 . obtain⟨I,hI⟩:∃ I:Inhabited (Fin chs.length),I=⟨⟨0,h⟩⟩:=⟨_,rfl⟩;rw [Zns h hI];have hh:=insertionSort_holds (swoF b chs) (idxD b op chs) 0 (idxD b op chs).size (Nat.zero_le _) (Nat.le_refl _);have hs:=hh.2;have hz:=hh.1.1;generalize Sort.insertionSort (ltOf (cfF b chs)) (idxD b op chs) 0 (idxD b op chs).size=d' at hs hz ⊢;rw [List.pairwise_map,List.pairwise_iff_getElem];intro i j hi hj hij;have:=hs i j (Nat.zero_le _) hij (by grind);have e:∀ x y,ltOf (cfF b chs) x y=decide (keyF b (chs.get x)<keyF b (chs.get y)):=fun x y=>Z23 _ _;rw [e,decide_eq_false_iff_not] at this;have hi2:i<d'.size:=by grind
   have hj2:j<d'.size:=by grind
   simp only [hi2,hj2,getElem!_pos] at this;have k:∀ z:Fin chs.length,keyO b chs z.val=keyF b (chs.get z):=fun z=>by simp [keyO]
   grind
 . have:chs=[]:=List.length_eq_zero_iff.1 (by omega);subst this;exact List.Pairwise.nil
structure KeysOk (b:Bool) (op:Int) (chs:List Chn):Prop where
 low:∀ (i:Nat) (c:Chn),chs[i]? = some c->selF b c=op->0<=keyF b c/\keyF b c<20
 inj:∀ (i j:Nat) (c d:Chn),chs[i]? = some c->chs[j]? = some d->selF b c=op->selF b d=op->keyF b c=keyF b d->i=j
theorem Zq9 {b:Bool}{op:Int}{chs:List Chn}{i:Nat}:i∈idxN b op chs chs.length ↔ ∃ c,chs[i]? = some c/\selF b c=op:=by unfold idxN;grind
theorem Znu {b:Bool}{op:Int}{chs:List Chn}{i pl:Nat}:(i∈(List.range chs.length).filter fun i=>(chs[i]?).any fun c=>decide (selF b c=op)&&decide (keyF b c=(pl:Int))) ↔ ∃ c,chs[i]? = some c/\selF b c=op/\keyF b c=(pl:Int):=by grind
theorem Ztz {b:Bool}{op:Int}{chs:List Chn}{i:Nat}(hk:KeysOk b op chs):i∈Zp9 b op chs↔i∈idxN b op chs chs.length:=by
 unfold Zp9;rw [List.mem_flatMap,Zq9];constructor
 . grind
 . rintro⟨c,hc,hs⟩;have:=hk.low i c hc hs;exact⟨(keyF b c).toNat,by grind,Znu.2 ⟨c,hc,hs,by omega⟩⟩
theorem Zzs {b:Bool}{chs:List Chn}{i:Nat}{c:Chn}(h:chs[i]? = some c):keyO b chs i=keyF b c:=by simp [keyO,h]
theorem Z27 {b:Bool}{op:Int}{chs:List Chn}(hk:KeysOk b op chs):(Zp9 b op chs).Pairwise fun i j=>keyO b chs i<keyO b chs j:=by
 unfold Zp9;rw [List.pairwise_flatMap];refine⟨fun pl _=>?_,?_⟩
 . refine List.Pairwise.imp_of_mem (R:=fun i j=>i<j) (fun {i j} hi hj hij=>?_) ((List.pairwise_lt_range).filter _);obtain⟨c,hc,hs,h1⟩:=Znu.1 hi;obtain⟨d,hd,ht,h2⟩:=Znu.1 hj;have:=hk.inj i j c d hc hd hs ht (by grind);omega
 . refine List.Pairwise.imp (fun {p q} hpq i hi j hj=>?_) (List.pairwise_lt_range (n:=20));obtain⟨c,hc,hs,h1⟩:=Znu.1 hi;obtain⟨d,hd,ht,h2⟩:=Znu.1 hj;rw [Zzs hc,Zzs hd,h1,h2];omega
theorem Znv {b:Bool}{op:Int}{chs:List Chn}(hk:KeysOk b op chs):sorF b op chs=Zp9 b op chs:=by
 have hj:=Z27 hk;have nd1:(Zp9 b op chs).Nodup:=hj.imp fun h e=>by grind
 have nd2:(idxN b op chs chs.length).Nodup:=by unfold idxN;exact (List.nodup_range).filter _
 have hp:(sorF b op chs).Perm (Zp9 b op chs):=(Zty b op chs).trans ((List.perm_ext_iff_of_nodup nd2 nd1).2 fun i=>(Ztz hk).symm);refine List.Perm.eq_of_pairwise (le:=fun i j=>keyO b chs i<=keyO b chs j) (fun i j hi hj h1 h2=>?_) (Z54 b op chs) (hj.imp fun h=>by omega) hp;obtain⟨c,hc,hs⟩:=Zq9.1 ((Zty b op chs).mem_iff.1 hi);obtain⟨d,hd,ht⟩:=Zq9.1 ((Ztz hk).1 hj);exact hk.inj i j c d hc hd hs ht (by rw [Zzs hc,Zzs hd] at h1 h2;omega)
end Tj

/- The reference's check of a graph, told plainly. -/
namespace Tg
open Go
open Go.Abs (Zc)
theorem Zzr (f:Int)(R:List Bool)(c:Cn):(rlx f R c).length=R.length:=by unfold rlx;grind
theorem Yd4 (f:Int)(c:Cn)(l:List Cn)(R:List Bool):rnd f (c::l) R=rnd f l (rlx f R c):=rfl
theorem Znp (f:Int):∀ (chs:List Cn) (R:List Bool),(rnd f chs R).length=R.length
 | [],_=>rfl
 | c::l,R=>by rw [Yd4,Znp f l,Zzr]
end Tg

/- The reference's check of a graph is the plain one. -/
namespace Tg
open Go
open Go.Abs (Zc)
theorem Znq (f:Int)(chs:List Cn):∀ (k:Nat) (R:List Bool),(rnds f chs k R).length=R.length
 | 0,_=>rfl
 | k+1,R=>by rw [rnds,Znq f chs k,Znp]
end Tg

/- The channels of an operator of a right graph. -/
namespace Tg
open Go
theorem Zzt {x:Gr}(h:gOkB x=true):Tj.Zat x.1 x.2.1:=by obtain⟨ops,chs,u⟩:=x;have:=(Tj.Znr ops chs).2 h;exact (Tj.Zzq ops chs).2 ⟨this.1,this.2.1⟩
theorem Znw {x:Gr}(h:Tj.Zat x.1 x.2.1){i:Nat}(hi:i<x.1.length):cnt true i x.2.1<=4/\cnt false i x.2.1<=3:=by have:=(h.2.2 i _ (J0c hi)).2;unfold Zjk bnd at this;grind
theorem Znx {x:Gr}(h:Tj.Zat x.1 x.2.1)(b:Bool)(op:Int):Tj.KeysOk b op x.2.1:=by
 refine⟨fun i c hc hs=>?_,fun i j c d hc hd hs ht hk=>?_⟩
 . have hm:=J0j hc;have h1:=h.1 c hm;have h2:=h.2.1.2 c hm;simp only [okC,Tj.okC,J0e,J0h] at h1;simp only [Zjj,J0e,J0h] at h2;have l1:=Znw h (i:=c.2.2.1.toNat) (by omega);have l2:=Znw h (i:=c.1.toNat) (by omega);rw [Int.toNat_of_nonneg (by omega)] at l1 l2;cases b <;> simp only [Tj.keyF,cond_true,cond_false] <;> omega
 . have hp:=h.2.1.1;rw [List.pairwise_iff_getElem] at hp;obtain⟨hi,rfl⟩:=J0d.1 hc;obtain⟨hj,rfl⟩:=J0d.1 hd;rcases Nat.lt_trichotomy i j with hlt | rfl | hlt
   . have:=hp i j hi hj hlt;simp only [apart,inc,J0e,Bool.or_eq_true,Bool.not_eq_true',Bool.and_eq_false_iff,J0h,decide_eq_false_iff_not] at this;exfalso;cases b <;> simp only [Tj.keyF,Tj.selF,cond_true,cond_false] at hk hs ht <;> omega
   . rfl
   . have:=hp j i hj hi hlt;simp only [apart,inc,J0e,Bool.or_eq_true,Bool.not_eq_true',Bool.and_eq_false_iff,J0h,decide_eq_false_iff_not] at this;exfalso;cases b <;> simp only [Tj.keyF,Tj.selF,cond_true,cond_false] at hk hs ht <;> omega
theorem Zra (b:Bool)(op:Int)(chs:List Cn):∀ k,k<=chs.length->(Tj.idxN b op chs k).length=cnt b op (chs.take k)
 | 0,_=>rfl
 | k+1,h=>by
  obtain⟨c,hc⟩:∃ c,chs[k]? = some c:=⟨_,J0c (by omega)⟩;have ih:=Zra b op chs k (by omega);have e:chs.take (k+1)=chs.take k++[c]:=by rw [List.take_add_one,hc];rfl
  unfold cnt at ih ⊢;rw [e,List.filter_append];by_cases hs:Tj.selF b c=op
  . rw [Tj.Ztu hc hs,J0s,J0s,ih];have:decide (cond b c.2.2.1 c.1=op)=true:=decide_eq_true hs;grind
  . rw [Tj.Zo9 hc hs,J0s,ih];have:decide (cond b c.2.2.1 c.1=op)=false:=decide_eq_false hs;grind
def joinL (b:Bool)(x:Gr)(op:Int):List (Int×Unit):=(Tj.Zp9 b op x.2.1).map fun i:Nat=>((i:Int),())
theorem Zpb {x:Gr}(h:Tj.Zat x.1 x.2.1)(b:Bool)(op:Int):(joinL b x op).length=cnt b op x.2.1:=by unfold joinL;have:=Zra b op x.2.1 x.2.1.length (Nat.le_refl _);rw [List.take_length] at this;rw [List.length_map,<- Tj.Znv (Znx h b op),Tj.Znt,this]
theorem Yd5 {x:Gr}(h:Tj.Zat x.1 x.2.1)(hl:x.2.1.length<=100){i:Nat}(hi:i<x.1.length):Zag x (i:Int)=some (joinL true x (i:Int),()):=by have hc:=Zra true (i:Int) x.2.1 x.2.1.length (Nat.le_refl _);rw [List.take_length] at hc;have:=Znw h hi;rw [Zvo x _ (by omega) (by omega),Tj.Znv (Znx h true _)];rfl
theorem Yaa {x:Gr}(h:Tj.Zat x.1 x.2.1)(hl:x.2.1.length<=100){i:Nat}(hi:i<x.1.length):Qq x (i:Int)=some (joinL false x (i:Int),()):=by have hc:=Zra false (i:Int) x.2.1 x.2.1.length (Nat.le_refl _);rw [List.take_length] at hc;have:=Znw h hi;rw [Ztx x _ (by omega) (by omega),Tj.Znv (Znx h false _)];rfl
end Tg
