import Derived.Test.YtenldcjkpgmpnaaGreatDoorTSI
/- The channels of an operator in order: sorted, and place by place. -/
set_option linter.unusedVariables false
set_option linter.unusedSimpArgs false
namespace Tj
open Go Go.Sort Go.Proofs
def keyO (b:Bool)(chs:List Chn)(i:Nat):Int:=((chs[i]?).map (keyF b)).getD 0
def Zse (b:Bool)(op:Int)(chs:List Chn):List Nat:=(List.range 20).flatMap fun pl:Nat=>(List.range chs.length).filter fun i=>(chs[i]?).any fun c=>decide (selF b c=op)&&decide (keyF b c=(pl:Int))
theorem Z57 (b:Bool)(op:Int)(chs:List Chn):(sorF b op chs).Perm (idxN b op chs chs.length):=by
 by_cases h:0<chs.length
 . obtain⟨I,hI⟩:∃ I:Inhabited (Fin chs.length),I=⟨⟨0,h⟩⟩:=⟨_,rfl⟩;rw [Zpx h hI];have hp:=(insertionSort_holds (swoF b chs) (idxD b op chs) 0 (idxD b op chs).size (Nat.zero_le _) (Nat.le_refl _)).1;obtain⟨h1,_,h3⟩:=hp;generalize Sort.insertionSort (ltOf (cfF b chs)) (idxD b op chs) 0 (idxD b op chs).size=d' at h1 h3 ⊢;have e1:(d'.extract 0 (idxD b op chs).size).toList=d'.toList:=by rw [<- h1];simp
   have e3:((idxD b op chs).extract 0 (idxD b op chs).size).toList=(idxD b op chs).toList:=by simp
   rw [e1,e3] at h3;have h4:=h3.map Fin.val;have e2:(idxD b op chs).toList.map Fin.val=idxN b op chs chs.length:=by unfold idxD;rw [List.map_pmap];simp
   grind
 . have:chs=[]:=List.length_eq_zero_iff.1 (by omega);subst this;exact List.Perm.refl _
theorem Z9h (b:Bool)(op:Int)(chs:List Chn):(sorF b op chs).Pairwise fun i j=>keyO b chs i<=keyO b chs j:=by
 by_cases h:0<chs.length
 . obtain⟨I,hI⟩:∃ I:Inhabited (Fin chs.length),I=⟨⟨0,h⟩⟩:=⟨_,rfl⟩;rw [Zpx h hI];have hh:=insertionSort_holds (swoF b chs) (idxD b op chs) 0 (idxD b op chs).size (Nat.zero_le _) (Nat.le_refl _);have hs:=hh.2;have hz:=hh.1.1;generalize Sort.insertionSort (ltOf (cfF b chs)) (idxD b op chs) 0 (idxD b op chs).size=d' at hs hz ⊢;rw [List.pairwise_map,List.pairwise_iff_getElem];intro i j hi hj hij;have:=hs i j (Nat.zero_le _) hij (by grind);have e:∀ x y,ltOf (cfF b chs) x y=decide (keyF b (chs.get x)<keyF b (chs.get y)):=fun x y=>Z51 _ _;rw [e,decide_eq_false_iff_not] at this;have hi2:i<d'.size:=by grind
   have hj2:j<d'.size:=by grind
   simp only [hi2,hj2,getElem!_pos] at this;have k:∀ z:Fin chs.length,keyO b chs z.val=keyF b (chs.get z):=fun z=>by simp [keyO]
   grind
 . have:chs=[]:=List.length_eq_zero_iff.1 (by omega);subst this;exact List.Pairwise.nil
structure KeysOk (b:Bool) (op:Int) (chs:List Chn):Prop where
 low:∀ (i:Nat) (c:Chn),chs[i]? = some c->selF b c=op->0<=keyF b c/\keyF b c<20
 inj:∀ (i j:Nat) (c d:Chn),chs[i]? = some c->chs[j]? = some d->selF b c=op->selF b d=op->keyF b c=keyF b d->i=j
theorem Z2o {b:Bool}{op:Int}{chs:List Chn}{i:Nat}:i∈idxN b op chs chs.length ↔ ∃ c,chs[i]? = some c/\selF b c=op:=by unfold idxN;grind
theorem Zpz {b:Bool}{op:Int}{chs:List Chn}{i pl:Nat}:(i∈(List.range chs.length).filter fun i=>(chs[i]?).any fun c=>decide (selF b c=op)&&decide (keyF b c=(pl:Int))) ↔ ∃ c,chs[i]? = some c/\selF b c=op/\keyF b c=(pl:Int):=by grind
theorem Zv7 {b:Bool}{op:Int}{chs:List Chn}{i:Nat}(hk:KeysOk b op chs):i∈Zse b op chs↔i∈idxN b op chs chs.length:=by
 unfold Zse;rw [List.mem_flatMap,Z2o];constructor
 . grind
 . rintro⟨c,hc,hs⟩;have:=hk.low i c hc hs;exact⟨(keyF b c).toNat,by grind,Zpz.2 ⟨c,hc,hs,by omega⟩⟩
theorem Z2p {b:Bool}{chs:List Chn}{i:Nat}{c:Chn}(h:chs[i]? = some c):keyO b chs i=keyF b c:=by simp [keyO,h]
theorem Z58 {b:Bool}{op:Int}{chs:List Chn}(hk:KeysOk b op chs):(Zse b op chs).Pairwise fun i j=>keyO b chs i<keyO b chs j:=by
 unfold Zse;rw [List.pairwise_flatMap];refine⟨fun pl _=>?_,?_⟩
 . refine List.Pairwise.imp_of_mem (R:=fun i j=>i<j) (fun {i j} hi hj hij=>?_) ((List.pairwise_lt_range).filter _);obtain⟨c,hc,hs,h1⟩:=Zpz.1 hi;obtain⟨d,hd,ht,h2⟩:=Zpz.1 hj;have:=hk.inj i j c d hc hd hs ht (by grind);omega
 . refine List.Pairwise.imp (fun {p q} hpq i hi j hj=>?_) (List.pairwise_lt_range (n:=20));obtain⟨c,hc,hs,h1⟩:=Zpz.1 hi;obtain⟨d,hd,ht,h2⟩:=Zpz.1 hj;rw [Z2p hc,Z2p hd,h1,h2];omega
theorem Zv8 {b:Bool}{op:Int}{chs:List Chn}(hk:KeysOk b op chs):sorF b op chs=Zse b op chs:=by
 have hj:=Z58 hk;have nd1:(Zse b op chs).Nodup:=hj.imp fun h e=>by grind
 have nd2:(idxN b op chs chs.length).Nodup:=by unfold idxN;exact (List.nodup_range).filter _
 have hp:(sorF b op chs).Perm (Zse b op chs):=(Z57 b op chs).trans ((List.perm_ext_iff_of_nodup nd2 nd1).2 fun i=>(Zv7 hk).symm);refine List.Perm.eq_of_pairwise (le:=fun i j=>keyO b chs i<=keyO b chs j) (fun i j hi hj h1 h2=>?_) (Z9h b op chs) (hj.imp fun h=>by omega) hp;obtain⟨c,hc,hs⟩:=Z2o.1 ((Z57 b op chs).mem_iff.1 hi);obtain⟨d,hd,ht⟩:=Z2o.1 ((Zv7 hk).1 hj);exact hk.inj i j c d hc hd hs ht (by rw [Z2p hc,Z2p hd] at h1 h2;omega)
end Tj

/- The reference's check of a graph, told plainly. -/
namespace Tg
open Go
open Go.Abs (Zb)
theorem Z2j (f:Int)(R:List Bool)(c:Cn):(rlx f R c).length=R.length:=by unfold rlx;grind
theorem Yhw (f:Int)(c:Cn)(l:List Cn)(R:List Bool):rnd f (c::l) R=rnd f l (rlx f R c):=rfl
theorem Zpv (f:Int):∀ (chs:List Cn) (R:List Bool),(rnd f chs R).length=R.length
 | [],_=>rfl
 | c::l,R=>by rw [Yhw,Zpv f l,Z2j]
end Tg

/- The reference's check of a graph is the plain one. -/
namespace Tg
open Go
open Go.Abs (Zb)
theorem Zpw (f:Int)(chs:List Cn):∀ (k:Nat) (R:List Bool),(rnds f chs k R).length=R.length
 | 0,_=>rfl
 | k+1,R=>by rw [rnds,Zpw f chs k,Zpv]
end Tg

/- The channels of an operator of a right graph. -/
namespace Tg
open Go
theorem Yhx {x:Gr}(h:gOkB x=true):Tj.Zh0 x.1 x.2.1:=by obtain⟨ops,chs,u⟩:=x;have:=(Tj.Zs9 ops chs).2 h;exact (Tj.Z2i ops chs).2 ⟨this.1,this.2.1⟩
theorem Zp0 {x:Gr}(h:Tj.Zh0 x.1 x.2.1){i:Nat}(hi:i<x.1.length):cnt true i x.2.1<=4/\cnt false i x.2.1<=3:=by have:=(h.2.2 i _ (J0c hi)).2;unfold Zkr bnd at this;grind
theorem Ztb {x:Gr}(h:Tj.Zh0 x.1 x.2.1)(b:Bool)(op:Int):Tj.KeysOk b op x.2.1:=by
 refine⟨fun i c hc hs=>?_,fun i j c d hc hd hs ht hk=>?_⟩
 . have hm:=J0j hc;have h1:=h.1 c hm;have h2:=h.2.1.2 c hm;simp only [okC,Tj.okC,J0e,J0h] at h1;simp only [Zkq,J0e,J0h] at h2;have l1:=Zp0 h (i:=c.2.2.1.toNat) (by omega);have l2:=Zp0 h (i:=c.1.toNat) (by omega);rw [Int.toNat_of_nonneg (by omega)] at l1 l2;cases b <;> simp only [Tj.keyF,cond_true,cond_false] <;> omega
 . have hp:=h.2.1.1;rw [List.pairwise_iff_getElem] at hp;obtain⟨hi,rfl⟩:=J0d.1 hc;obtain⟨hj,rfl⟩:=J0d.1 hd;rcases Nat.lt_trichotomy i j with hlt | rfl | hlt
   . have:=hp i j hi hj hlt;simp only [apart,inc,J0e,Bool.or_eq_true,Bool.not_eq_true',Bool.and_eq_false_iff,J0h,decide_eq_false_iff_not] at this;exfalso;cases b <;> simp only [Tj.keyF,Tj.selF,cond_true,cond_false] at hk hs ht <;> omega
   . rfl
   . have:=hp j i hj hi hlt;simp only [apart,inc,J0e,Bool.or_eq_true,Bool.not_eq_true',Bool.and_eq_false_iff,J0h,decide_eq_false_iff_not] at this;exfalso;cases b <;> simp only [Tj.keyF,Tj.selF,cond_true,cond_false] at hk hs ht <;> omega
theorem Ztc (b:Bool)(op:Int)(chs:List Cn):∀ k,k<=chs.length->(Tj.idxN b op chs k).length=cnt b op (chs.take k)
 | 0,_=>rfl
 | k+1,h=>by
  obtain⟨c,hc⟩:∃ c,chs[k]? = some c:=⟨_,J0c (by omega)⟩;have ih:=Ztc b op chs k (by omega);have e:chs.take (k+1)=chs.take k++[c]:=by rw [List.take_add_one,hc];rfl
  unfold cnt at ih ⊢;rw [e,List.filter_append];by_cases hs:Tj.selF b c=op
  . rw [Tj.Zv2 hc hs,J0s,J0s,ih];have:decide (cond b c.2.2.1 c.1=op)=true:=decide_eq_true hs;grind
  . rw [Tj.Zrd hc hs,J0s,ih];have:decide (cond b c.2.2.1 c.1=op)=false:=decide_eq_false hs;grind
def joinL (b:Bool)(x:Gr)(op:Int):List (Int×Unit):=(Tj.Zse b op x.2.1).map fun i:Nat=>((i:Int),())
theorem Zmy {x:Gr}(h:Tj.Zh0 x.1 x.2.1)(b:Bool)(op:Int):(joinL b x op).length=cnt b op x.2.1:=by unfold joinL;have:=Ztc b op x.2.1 x.2.1.length (Nat.le_refl _);rw [List.take_length] at this;rw [List.length_map,<- Tj.Zv8 (Ztb h b op),Tj.Zpy,this]
theorem Ydz {x:Gr}(h:Tj.Zh0 x.1 x.2.1){b:Bool}{op:Int}{y:Int×Unit}(hy:y∈joinL b x op):∃ i:Nat,i<x.2.1.length/\y=((i:Int),()):=by unfold joinL at hy;rw [List.mem_map] at hy;obtain⟨i,hi,rfl⟩:=hy;have:=(Tj.Zv7 (Ztb h b op)).1 hi;exact⟨i,(Tj.Yb9 this).1,rfl⟩
theorem Z59 {x:Gr}(h:Tj.Zh0 x.1 x.2.1)(hl:x.2.1.length<=100){i:Nat}(hi:i<x.1.length):Xl x (i:Int)=some (joinL true x (i:Int),()):=by have hc:=Ztc true (i:Int) x.2.1 x.2.1.length (Nat.le_refl _);rw [List.take_length] at hc;have:=Zp0 h hi;rw [Zxy x _ (by omega) (by omega),Tj.Zv8 (Ztb h true _)];rfl
theorem Z0a {x:Gr}(h:Tj.Zh0 x.1 x.2.1)(hl:x.2.1.length<=100){i:Nat}(hi:i<x.1.length):Yy x (i:Int)=some (joinL false x (i:Int),()):=by have hc:=Ztc false (i:Int) x.2.1 x.2.1.length (Nat.le_refl _);rw [List.take_length] at hc;have:=Zp0 h hi;rw [Zv5 x _ (by omega) (by omega),Tj.Zv8 (Ztb h false _)];rfl
end Tg
