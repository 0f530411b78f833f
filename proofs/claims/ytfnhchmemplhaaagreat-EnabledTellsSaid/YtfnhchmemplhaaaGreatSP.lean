import Derived.Test.YtfnhchmemplhaaaGreatSI
import Derived.Test.YtfnhchmemplhaaaGreatVb5
/- The channels of an operator in order: sorted, and place by place. -/
set_option linter.unusedVariables false
set_option linter.unusedSimpArgs false
namespace Tj
open Go Go.Sort Go.Proofs
def keyO (b:Bool)(chs:List Chn)(i:Nat):Int:=((chs[i]?).map (keyF b)).getD 0
def joinW (b:Bool)(op:Int)(chs:List Chn):List Nat:=(List.range 20).flatMap fun pl:Nat=>(List.range chs.length).filter fun i=>(chs[i]?).any fun c=>decide (selF b c=op)&&decide (keyF b c=(pl:Int))
theorem sor_perm (b:Bool)(op:Int)(chs:List Chn):(sorF b op chs).Perm (idxN b op chs chs.length):=by
 by_cases h:0<chs.length
 · obtain⟨I,hI⟩:∃ I:Inhabited (Fin chs.length),I=⟨⟨0,h⟩⟩:=⟨_,rfl⟩
   rw [sorF_pos h hI]
   have hp:=(insertionSort_holds (swoF b chs) (idxD b op chs) 0 (idxD b op chs).size (Nat.zero_le _) (Nat.le_refl _)).1
   obtain⟨h1,_,h3⟩:=hp
   generalize Sort.insertionSort (ltOf (cfF b chs)) (idxD b op chs) 0 (idxD b op chs).size=d' at h1 h3 ⊢
   have e1:(d'.extract 0 (idxD b op chs).size).toList=d'.toList:=by
    rw [← h1]
    simp
   have e3:((idxD b op chs).extract 0 (idxD b op chs).size).toList=(idxD b op chs).toList:=by simp
   rw [e1,e3] at h3
   have h4:=h3.map Fin.val
   have e2:(idxD b op chs).toList.map Fin.val=idxN b op chs chs.length:=by
    unfold idxD
    rw [List.map_pmap]
    simp
   rw [e2] at h4
   exact h4
 · have:chs=[]:=List.length_eq_zero_iff.1 (by omega)
   subst this
   exact List.Perm.refl _
theorem sor_sorted (b:Bool)(op:Int)(chs:List Chn):(sorF b op chs).Pairwise fun i j=>keyO b chs i≤keyO b chs j:=by
 by_cases h:0<chs.length
 · obtain⟨I,hI⟩:∃ I:Inhabited (Fin chs.length),I=⟨⟨0,h⟩⟩:=⟨_,rfl⟩
   rw [sorF_pos h hI]
   have hh:=insertionSort_holds (swoF b chs) (idxD b op chs) 0 (idxD b op chs).size (Nat.zero_le _) (Nat.le_refl _)
   have hs:=hh.2
   have hz:=hh.1.1
   generalize Sort.insertionSort (ltOf (cfF b chs)) (idxD b op chs) 0 (idxD b op chs).size=d' at hs hz ⊢
   rw [List.pairwise_map,List.pairwise_iff_getElem]
   intro i j hi hj hij
   have:=hs i j (Nat.zero_le _) hij (by rw [← hz];simpa using hj)
   have e:∀ x y,ltOf (cfF b chs) x y=decide (keyF b (chs.get x)<keyF b (chs.get y)):=fun x y=>cmpI_neg _ _
   rw [e,decide_eq_false_iff_not] at this
   have hi2:i<d'.size:=by simpa using hi
   have hj2:j<d'.size:=by simpa using hj
   simp only [hi2,hj2,getElem!_pos] at this
   have k:∀ z:Fin chs.length,keyO b chs z.val=keyF b (chs.get z):=fun z=>by simp [keyO]
   rw [k,k]
   simp only [Array.getElem_toList]
   omega
 · have:chs=[]:=List.length_eq_zero_iff.1 (by omega)
   subst this
   exact List.Pairwise.nil
structure KeysOk (b:Bool) (op:Int) (chs:List Chn):Prop where
 low:∀ (i:Nat) (c:Chn),chs[i]? = some c→selF b c=op→0≤keyF b c∧keyF b c<20
 inj:∀ (i j:Nat) (c d:Chn),chs[i]? = some c→chs[j]? = some d→selF b c=op→selF b d=op→keyF b c=keyF b d→i=j
theorem mem_idx {b:Bool}{op:Int}{chs:List Chn}{i:Nat}:i∈idxN b op chs chs.length ↔ ∃ c,chs[i]? = some c∧selF b c=op:=by
 unfold idxN
 rw [List.mem_filter,List.mem_range]
 constructor
 · rintro⟨h1,h2⟩
   obtain⟨c,hc⟩:∃ c,chs[i]? = some c:=⟨_,List.getElem?_eq_getElem h1⟩
   rw [hc] at h2
   exact⟨c,hc,by simpa using h2⟩
 · rintro⟨c,hc,hs⟩
   exact⟨(List.getElem?_eq_some_iff.1 hc).1,by simp [hc,hs]⟩
theorem mem_blk {b:Bool}{op:Int}{chs:List Chn}{i pl:Nat}:(i∈(List.range chs.length).filter fun i=>(chs[i]?).any fun c=>decide (selF b c=op)&&decide (keyF b c=(pl:Int))) ↔ ∃ c,chs[i]? = some c∧selF b c=op∧keyF b c=(pl:Int):=by
 rw [List.mem_filter,List.mem_range]
 constructor
 · rintro⟨h1,h2⟩
   obtain⟨c,hc⟩:∃ c,chs[i]? = some c:=⟨_,List.getElem?_eq_getElem h1⟩
   rw [hc] at h2
   exact⟨c,hc,by simpa using h2⟩
 · rintro⟨c,hc,hs⟩
   exact⟨(List.getElem?_eq_some_iff.1 hc).1,by simp [hc,hs]⟩
theorem mem_join {b:Bool}{op:Int}{chs:List Chn}{i:Nat}(hk:KeysOk b op chs):i∈joinW b op chs↔i∈idxN b op chs chs.length:=by
 unfold joinW
 rw [List.mem_flatMap,mem_idx]
 constructor
 · rintro⟨pl,_,h⟩
   obtain⟨c,hc,hs,_⟩:=mem_blk.1 h
   exact⟨c,hc,hs⟩
 · rintro⟨c,hc,hs⟩
   have:=hk.low i c hc hs
   exact⟨(keyF b c).toNat,by rw [List.mem_range];omega,mem_blk.2 ⟨c,hc,hs,by omega⟩⟩
theorem key_at {b:Bool}{chs:List Chn}{i:Nat}{c:Chn}(h:chs[i]? = some c):keyO b chs i=keyF b c:=by simp [keyO,h]
theorem join_sorted {b:Bool}{op:Int}{chs:List Chn}(hk:KeysOk b op chs):(joinW b op chs).Pairwise fun i j=>keyO b chs i<keyO b chs j:=by
 unfold joinW
 rw [List.pairwise_flatMap]
 refine⟨fun pl _=>?_,?_⟩
 · refine List.Pairwise.imp_of_mem (R:=fun i j=>i<j) (fun {i j} hi hj hij=>?_) ((List.pairwise_lt_range).filter _)
   obtain⟨c,hc,hs,h1⟩:=mem_blk.1 hi
   obtain⟨d,hd,ht,h2⟩:=mem_blk.1 hj
   have:=hk.inj i j c d hc hd hs ht (by rw [h1,h2])
   omega
 · refine List.Pairwise.imp (fun {p q} hpq i hi j hj=>?_) (List.pairwise_lt_range (n:=20))
   obtain⟨c,hc,hs,h1⟩:=mem_blk.1 hi
   obtain⟨d,hd,ht,h2⟩:=mem_blk.1 hj
   rw [key_at hc,key_at hd,h1,h2]
   omega
theorem sor_join {b:Bool}{op:Int}{chs:List Chn}(hk:KeysOk b op chs):sorF b op chs=joinW b op chs:=by
 have hj:=join_sorted hk
 have nd1:(joinW b op chs).Nodup:=hj.imp fun h e=>by subst e;omega
 have nd2:(idxN b op chs chs.length).Nodup:=by
  unfold idxN
  exact (List.nodup_range).filter _
 have hp:(sorF b op chs).Perm (joinW b op chs):=(sor_perm b op chs).trans ((List.perm_ext_iff_of_nodup nd2 nd1).2 fun i=>(mem_join hk).symm)
 refine List.Perm.eq_of_pairwise (le:=fun i j=>keyO b chs i≤keyO b chs j) (fun i j hi hj h1 h2=>?_) (sor_sorted b op chs) (hj.imp fun h=>by omega) hp
 obtain⟨c,hc,hs⟩:=mem_idx.1 ((sor_perm b op chs).mem_iff.1 hi)
 obtain⟨d,hd,ht⟩:=mem_idx.1 ((mem_join hk).1 hj)
 exact hk.inj i j c d hc hd hs ht (by rw [key_at hc,key_at hd] at h1 h2;omega)
end Tj

/- The reference's check of a graph, told plainly. -/
namespace Tg
open Go
open Go.Abs (bigOk)
theorem many_eq (k i o:Int):ref24_Many k i o=some (manyB k i o,()):=by
 have e:∀ a b c:Int,ref24_between a b c=some (decide (b≤a)&&decide (a≤c),()):=fun a b c=>by
  rw [ref24_between_c]
  rw [show decide (a≥b)=decide (b≤a) from rfl]
  cases decide (b≤a) <;> rfl
 have q:∀ a b:Int,(decide (b≤a)&&decide (a≤b))=(a==b):=fun a b=>by
  rw [Bool.eq_iff_iff]
  simp
  omega
 rw [ref24_Many_c]
 unfold manyB
 simp only [e]
 by_cases h1:k=1
 · subst h1
   simp only [bnd,if_true,q]
   cases i==(0:Int) <;> simp
 by_cases h2:k=2
 · subst h2
   rw [show bnd 2=(1,1,1,2) from rfl]
   simp only [q]
   cases i==(1:Int) <;> simp
 by_cases h3:k=3
 · subst h3
   rw [show bnd 3=(1,1,1,3) from rfl]
   simp only [q]
   cases i==(1:Int) <;> simp
 by_cases h4:k=4
 · subst h4
   rw [show bnd 4=(1,4,1,1) from rfl]
   simp only [q]
   cases (decide ((1:Int)≤i)&&decide (i≤4)) <;> simp
 by_cases h5:k=5
 · subst h5
   rw [show bnd 5=(2,2,1,1) from rfl]
   simp only [q]
   cases i==(2:Int) <;> simp
 by_cases h6:k=6
 · subst h6
   rw [show bnd 6=(1,3,0,0) from rfl]
   simp only [q]
   cases (decide ((1:Int)≤i)&&decide (i≤3)) <;> simp
 by_cases h7:k=7
 · subst h7
   rw [show bnd 7=(1,4,0,0) from rfl]
   simp only [q]
   cases (decide ((1:Int)≤i)&&decide (i≤4)) <;> simp
 have hk:(decide (1≤k)&&decide (k≤7))=false:=by
  rw [← Bool.not_eq_true]
  simp
  omega
 rw [hk,Bool.false_and]
 rw [show (k==1)=false by simpa using h1,show (k==2)=false by simpa using h2,show (k==3)=false by simpa using h3,show (k==4)=false by simpa using h4,show (k==5)=false by simpa using h5,show (k==6)=false by simpa using h6,show (k==7)=false by simpa using h7]
 rfl
theorem cnt_cons (b:Bool)(j:Int)(c:Cn)(l:List Cn):(cnt b j (c::l):Int)=(bif cond b c.2.2.1 c.1==j then 1 else 0)+cnt b j l:=by
 unfold cnt
 rw [List.filter_cons]
 by_cases h:cond b c.2.2.1 c.1=j
 · rw [if_pos (by simpa using h),show (cond b c.2.2.1 c.1==j)=true by simpa using h]
   simp
   omega
 · rw [if_neg (by simpa using h),show (cond b c.2.2.1 c.1==j)=false by simpa using h]
   simp
theorem inp4 (chs:List Cn)(hl:chs.length≤1000000000)(x:Int):∀ (rest:List Cn) (i n a:Nat),chs.drop i=rest→i≤chs.length→rest.length+1≤n→a≤i→ref24_Inputs_i4 n x chs (a:Int) (i:Int)=some ((a:Int)+cnt true x rest,())
 | [],i,n,a,h,hi,hn,ha=>by
  obtain⟨m,rfl⟩:∃ m,n=m+1:=⟨n - 1,by simp at hn;omega⟩
  have:=drop_end h hi
  rw [ref24_Inputs_c4]
  simp only [Int.ofNat_eq_natCast,iG (show ¬ i<chs.length by omega),cond_false,cnt,List.filter_nil,List.length_nil,Int.natCast_zero,Int.add_zero]
 | c::rest,i,n,a,h,hi,hn,ha=>by
  obtain⟨m,rfl⟩:∃ m,n=m+1:=⟨n - 1,by simp at hn;omega⟩
  obtain⟨h1,h2,h3⟩:=drop_get h
  rw [ref24_Inputs_c4]
  simp only [Int.ofNat_eq_natCast,iL h1,cond_true,iN,Int.toNat_natCast,h2,wS (show i<1000000000000 by omega),wS (show a<1000000000000 by omega)]
  rw [inp4 chs hl x rest (i+1) m (a+1) h3 (by omega) (by simp at hn;omega) (by omega),inp4 chs hl x rest (i+1) m a h3 (by omega) (by simp at hn;omega) (by omega),cnt_cons]
  simp only [cond_true]
  cases c.2.2.1==x <;> simp <;> omega
theorem out4 (chs:List Cn)(hl:chs.length≤1000000000)(x:Int):∀ (rest:List Cn) (i n a:Nat),chs.drop i=rest→i≤chs.length→rest.length+1≤n→a≤i→ref24_Outputs_i4 n x chs (a:Int) (i:Int)=some ((a:Int)+cnt false x rest,())
 | [],i,n,a,h,hi,hn,ha=>by
  obtain⟨m,rfl⟩:∃ m,n=m+1:=⟨n - 1,by simp at hn;omega⟩
  have:=drop_end h hi
  rw [ref24_Outputs_c4]
  simp only [Int.ofNat_eq_natCast,iG (show ¬ i<chs.length by omega),cond_false,cnt,List.filter_nil,List.length_nil,Int.natCast_zero,Int.add_zero]
 | c::rest,i,n,a,h,hi,hn,ha=>by
  obtain⟨m,rfl⟩:∃ m,n=m+1:=⟨n - 1,by simp at hn;omega⟩
  obtain⟨h1,h2,h3⟩:=drop_get h
  rw [ref24_Outputs_c4]
  simp only [Int.ofNat_eq_natCast,iL h1,cond_true,iN,Int.toNat_natCast,h2,wS (show i<1000000000000 by omega),wS (show a<1000000000000 by omega)]
  rw [out4 chs hl x rest (i+1) m (a+1) h3 (by omega) (by simp at hn;omega) (by omega),out4 chs hl x rest (i+1) m a h3 (by omega) (by simp at hn;omega) (by omega),cnt_cons]
  simp only [cond_false]
  cases c.1==x <;> simp <;> omega
theorem inputs_eq (ops:List Op)(chs:List Cn)(hl:chs.length≤1000000000)(x:Int):ref24_Inputs (ops,chs,()) x=some ((cnt true x chs:Int),()):=by
 obtain⟨n,hn⟩:=fuel_s
 have:=inp4 chs hl x chs 0 fuel 0 rfl (by omega) (by rw [hn];omega) (by omega)
 simpa [ref24_Inputs_c] using this
theorem outputs_eq (ops:List Op)(chs:List Cn)(hl:chs.length≤1000000000)(x:Int):ref24_Outputs (ops,chs,()) x=some ((cnt false x chs:Int),()):=by
 obtain⟨n,hn⟩:=fuel_s
 have:=out4 chs hl x chs 0 fuel 0 rfl (by omega) (by rw [hn];omega) (by omega)
 simpa [ref24_Outputs_c] using this
theorem apart4 (chs:List Cn)(c:Cn)(j:Nat)(hj:j≤chs.length)(hl:chs.length≤1000000000):∀ (rest:List Cn) (i n:Nat),(chs.take j).drop i=rest→i≤j→rest.length+1≤n→ref24_apart_i4 n (j:Int) chs c.1 c.2.1 c.2.2.1 c.2.2.2.1 (i:Int)=some (rest.all fun d=>apart d c,())
 | [],i,n,h,hi,hn=>by
  obtain⟨m,rfl⟩:∃ m,n=m+1:=⟨n - 1,by simp at hn;omega⟩
  have hlt:(chs.take j).length=j:=by rw [List.length_take];omega
  have:=drop_end h (by omega)
  rw [ref24_apart_c4]
  simp only [iG (show ¬ i<j by omega),cond_false,List.all_nil]
 | d::rest,i,n,h,hi,hn=>by
  obtain⟨m,rfl⟩:∃ m,n=m+1:=⟨n - 1,by simp at hn;omega⟩
  have hlt:(chs.take j).length=j:=by rw [List.length_take];omega
  obtain⟨h1,h2,h3⟩:=drop_get h
  rw [List.getElem?_take_of_lt (by omega)] at h2
  rw [ref24_apart_c4]
  simp only [iL (show i<j by omega),cond_true,iN,Int.toNat_natCast,h2,wS (show i<1000000000000 by omega),List.all_cons]
  rw [apart4 chs c j hj hl rest (i+1) m h3 (by omega) (by simp at hn;omega)]
  unfold apart inc
  have e1:decide (d.1>c.1)=decide (c.1<d.1):=rfl
  have e2:decide (d.2.1≥c.2.1) = !decide (d.2.1<c.2.1):=by rw [Bool.eq_iff_iff];simp
  have e3:(d.1==c.1)=decide (d.1=c.1):=rfl
  have e4:(d.2.2.1==c.2.2.1)=decide (d.2.2.1=c.2.2.1):=rfl
  have e5:(d.2.2.2.1==c.2.2.2.1)=decide (d.2.2.2.1=c.2.2.2.1):=rfl
  rw [e1,e2,e3,e4,e5]
  rcases Int.lt_trichotomy d.1 c.1 with g | g | g
  · rw [dT g,dF (show ¬ c.1<d.1 by omega),dF (show ¬ d.1=c.1 by omega)]
    cases decide (d.2.2.1=c.2.2.1) <;> cases decide (d.2.2.2.1=c.2.2.2.1) <;> simp
  · rw [dF (show ¬ d.1<c.1 by omega),dF (show ¬ c.1<d.1 by omega),dT g]
    cases decide (d.2.1<c.2.1) <;> cases decide (d.2.2.1=c.2.2.1) <;> cases decide (d.2.2.2.1=c.2.2.2.1) <;> simp
  · rw [dF (show ¬ d.1<c.1 by omega),dT g,dF (show ¬ d.1=c.1 by omega)]
    simp
theorem apart_eq (ops:List Op)(chs:List Cn)(hl:chs.length≤1000000000)(j:Nat)(c:Cn)(hc:chs[j]? = some c):ref24_apart (ops,chs,()) (j:Int)=some ((chs.take j).all fun d=>apart d c,()):=by
 obtain⟨n,hn⟩:=fuel_s
 have hj:=(List.getElem?_eq_some_iff.1 hc).1
 have:=apart4 chs c j (by omega) hl (chs.take j) 0 fuel rfl (by omega) (by rw [hn,List.length_take];omega)
 simp only [ref24_apart_c,iN,cond_true,Int.toNat_natCast,hc]
 exact this
def bu (R:List Bool):List (Bool×Unit):=R.map fun b=>(b,())
theorem bu_len (R:List Bool):(bu R).length=R.length:=by simp [bu]
theorem bu_get {R:List Bool}{j:Nat}(h:j<R.length):(bu R)[j]? = some ((R[j]?).getD false,()):=by
 unfold bu
 rw [List.getElem?_map,List.getElem?_eq_getElem h]
 rfl
theorem bu_set (R:List Bool)(j:Nat)(b:Bool)(u:Unit):(bu R).set j (b,u)=bu (R.set j b):=by
 unfold bu
 rw [List.map_set]
theorem len_rlx (f:Int)(R:List Bool)(c:Cn):(rlx f R c).length=R.length:=by
 unfold rlx
 cases c.1==f||(R[c.1.toNat]?).getD false <;> simp
theorem rnd_cons (f:Int)(c:Cn)(l:List Cn)(R:List Bool):rnd f (c::l) R=rnd f l (rlx f R c):=rfl
theorem len_rnd (f:Int):∀ (chs:List Cn) (R:List Bool),(rnd f chs R).length=R.length
 | [],_=>rfl
 | c::l,R=>by rw [rnd_cons,len_rnd f l,len_rlx]
theorem reach9 (f:Int)(ops:List Op)(chs:List Cn)(hl:chs.length≤1000000000)(hok:∀ c∈chs,okC ops.length c=true)(r m:Nat)(hr:r<1000000000):∀ (rest:List Cn) (i n:Nat) (R:List Bool),chs.drop i=rest→i≤chs.length→n=m+rest.length+1→R.length=ops.length→ref24_Reaches_i9 n f ops chs (bu R) (r:Int) (i:Int)=ref24_Reaches_i4 m f ops chs (bu (rnd f rest R)) ((r+1:Nat):Int)
 | [],i,n,R,h,hi,hn,hR=>by
  subst hn
  have:=drop_end h hi
  rw [ref24_Reaches_c9]
  simp only [Int.ofNat_eq_natCast,iG (show ¬ i<chs.length by omega),cond_false,wS (show r<1000000000000 by omega)]
  rfl
 | c::rest,i,n,R,h,hi,hn,hR=>by
  subst hn
  obtain⟨h1,h2,h3⟩:=drop_get h
  have hc:=hok c (List.mem_of_getElem? h2)
  simp only [okC,Bool.and_eq_true,decide_eq_true_eq] at hc
  rw [show m+(c::rest).length+1=(m+rest.length+1)+1 by simp;omega]
  rw [ref24_Reaches_c9]
  simp only [Int.ofNat_eq_natCast,iL h1,cond_true,iN,Int.toNat_natCast,h2,wS (show i<1000000000000 by omega),iN' (show 0≤c.2.2.1 by omega),iN' (show 0≤c.1 by omega),bu_len,dT (show c.2.2.1.toNat<R.length by omega),dT (show c.1.toNat<R.length by omega),bu_get (show c.2.2.1.toNat<R.length by omega),bu_get (show c.1.toNat<R.length by omega),bu_set]
  rw [reach9 f ops chs hl hok r m hr rest (i+1) _ (R.set c.2.2.1.toNat true) h3 (by omega) rfl (by rw [List.length_set];exact hR),reach9 f ops chs hl hok r m hr rest (i+1) _ R h3 (by omega) rfl hR,rnd_cons]
  unfold rlx
  cases c.1==f with
  | true=>rfl
  | false=>cases (R[c.1.toNat]?).getD false <;> rfl
theorem reach4 (f:Int)(ops:List Op)(chs:List Cn)(hl:chs.length≤1000000000)(hok:∀ c∈chs,okC ops.length c=true)(ho:ops.length≤100000000):∀ (k r n:Nat) (R:List Bool),r+k=ops.length+1→k * (chs.length+2)+1≤n→R.length=ops.length→ref24_Reaches_i4 n f ops chs (bu R) (r:Int)=some (bu (rnds f chs k R),())
 | 0,r,n,R,hk,hn,hR=>by
  obtain⟨m,rfl⟩:∃ m,n=m+1:=⟨n - 1,by omega⟩
  rw [ref24_Reaches_c4]
  simp only [Int.ofNat_eq_natCast,dF (show ¬ (r:Int)≤(ops.length:Int) by omega),cond_false]
  rfl
 | k+1,r,n,R,hk,hn,hR=>by
  rw [Nat.succ_mul] at hn
  obtain⟨m,rfl⟩:∃ m,n=(m+chs.length+1)+1:=⟨n - chs.length - 2,by omega⟩
  rw [ref24_Reaches_c4]
  simp only [Int.ofNat_eq_natCast,dT (show (r:Int)≤(ops.length:Int) by omega),cond_true]
  have:=reach9 f ops chs hl hok r m (by omega) chs 0 _ R rfl (by omega) rfl hR
  rw [show ((0:Nat):Int)=0 from rfl] at this
  rw [this,reach4 f ops chs hl hok ho k (r+1) m (rnd f chs R) (by omega) (by omega) (by rw [len_rnd];exact hR)]
  rfl
theorem reaches_eq (f:Int)(ops:List Op)(chs:List Cn)(hl:chs.length≤1000)(hok:∀ c∈chs,okC ops.length c=true)(ho:ops.length≤1000):ref24_Reaches (ops,chs,()) f=some (bu (rnds f chs (ops.length+1) (List.replicate ops.length false)),()):=by
 obtain⟨n,hn⟩:=fuel_s
 have hm:(ops.length+1) * (chs.length+2)≤1001 * 1002:=Nat.mul_le_mul (by omega) (by omega)
 have:=reach4 f ops chs (by omega) hok (by omega) (ops.length+1) 0 fuel (List.replicate ops.length false) (by omega) (by rw [hn];omega) (by simp)
 simp only [ref24_Reaches_c,Int.ofNat_eq_natCast,Int.toNat_natCast,Nat.le_refl,decide_true,Bool.true_and,dT (show 1 * ops.length≤281474976710656 by omega),dT (show ops.length≤9223372036854775807 by omega),cond_true]
 rw [← this]
 simp [bu]
end Tg

/- The reference's check of a graph is the plain one. -/
namespace Tg
open Go
open Go.Abs (bigOk)
theorem okC_steps {α:Type}(n:Nat)(c:Cn)(x y:α):(bif decide (c.1<(0:Int)) then x else bif decide (c.2.2.1<(0:Int)) then x else bif decide (c.1≥Int.ofNat n) then x else bif decide (c.2.2.1≥Int.ofNat n) then x else bif decide (c.2.2.2.2.1<(1:Int)) then x else bif decide (c.2.2.2.2.1>(8:Int)) then x else y)=bif okC n c then y else x:=by
 have e:okC n c=(!decide (c.1<(0:Int))&&(!decide (c.2.2.1<(0:Int))&&(!decide (c.1≥Int.ofNat n)&&(!decide (c.2.2.1≥Int.ofNat n)&&(!decide (c.2.2.2.2.1<(1:Int)) && !decide (c.2.2.2.2.1>(8:Int))))))):=by
  rw [Bool.eq_iff_iff]
  simp only [okC,Bool.and_eq_true,decide_eq_true_eq,Bool.not_eq_true',decide_eq_false_iff_not,Int.ofNat_eq_natCast]
  omega
 rw [e]
 cases decide (c.1<(0:Int)) <;> cases decide (c.2.2.1<(0:Int)) <;> cases decide (c.1≥Int.ofNat n) <;> cases decide (c.2.2.1≥Int.ofNat n) <;> cases decide (c.2.2.2.2.1<(1:Int)) <;> cases decide (c.2.2.2.2.1>(8:Int)) <;> rfl
theorem num_steps {α:Type}(b:Bool)(chs:List Cn)(c:Cn)(x y:α):(bif !b then x else bif decide (c.2.1<(0:Int)) then x else bif decide (c.2.1≥(cnt false c.1 chs:Int)) then x else bif decide (c.2.2.2.1<(0:Int)) then x else bif decide (c.2.2.2.1≥(cnt true c.2.2.1 chs:Int)) then x else y)=bif b&&numsOk chs c then y else x:=by
 have e:numsOk chs c=(!decide (c.2.1<(0:Int))&&(!decide (c.2.1≥(cnt false c.1 chs:Int))&&(!decide (c.2.2.2.1<(0:Int)) && !decide (c.2.2.2.1≥(cnt true c.2.2.1 chs:Int))))):=by
  rw [Bool.eq_iff_iff]
  simp only [numsOk,Bool.and_eq_true,decide_eq_true_eq,Bool.not_eq_true',decide_eq_false_iff_not]
  omega
 rw [e]
 cases b <;> cases decide (c.2.1<(0:Int)) <;> cases decide (c.2.1≥(cnt false c.1 chs:Int)) <;> cases decide (c.2.2.2.1<(0:Int)) <;> cases decide (c.2.2.2.1≥(cnt true c.2.2.1 chs:Int)) <;> rfl
theorem len_rnds (f:Int)(chs:List Cn):∀ (k:Nat) (R:List Bool),(rnds f chs k R).length=R.length
 | 0,_=>rfl
 | k+1,R=>by rw [rnds,len_rnds f chs k,len_rnd]
theorem val21 (ops:List Op)(chs:List Cn)(ho:ops.length≤20)(hl:chs.length≤100)(hok:∀ c∈chs,okC ops.length c=true):∀ (rest:List Op) (i n:Nat),ops.drop i=rest→i≤ops.length→rest.length+1≤n→ref24_Valid_i21 n ops chs (i:Int)=some (v3 ops.length chs i rest,())
 | [],i,n,h,hi,hn=>by
  obtain⟨m,rfl⟩:∃ m,n=m+1:=⟨n - 1,by simp at hn;omega⟩
  have:=drop_end h hi
  rw [ref24_Valid_c21]
  simp only [Int.ofNat_eq_natCast,iG (show ¬ i<ops.length by omega),cond_false,v3]
 | o::rest,i,n,h,hi,hn=>by
  obtain⟨m,rfl⟩:∃ m,n=m+1:=⟨n - 1,by simp at hn;omega⟩
  obtain⟨h1,h2,h3⟩:=drop_get h
  have hR:i<(rnds (i:Int) chs (ops.length+1) (List.replicate ops.length false)).length:=by rw [len_rnds];simpa using h1
  rw [ref24_Valid_c21]
  simp only [Int.ofNat_eq_natCast,iL h1,cond_true,iN,Int.toNat_natCast,h2,wS (show i<1000000000000 by omega),inputs_eq ops chs (by omega),outputs_eq ops chs (by omega),many_eq,reaches_eq (i:Int) ops chs (by omega) hok (by omega),bu_get hR]
  rw [val21 ops chs ho hl hok rest (i+1) m h3 (by omega) (by simp at hn;omega),v3]
  generalize manyB o.1 (cnt true (i:Int) chs) (cnt false (i:Int) chs)=b
  generalize ((rnds (i:Int) chs (ops.length+1) (List.replicate ops.length false))[i]?).getD false=d
  have e1:decide (o.2.1<(0:Int)) = !decide (0≤o.2.1):=by rw [Bool.eq_iff_iff];simp
  have e2:decide (o.2.1>(3:Int)) = !decide (o.2.1≤3):=by rw [Bool.eq_iff_iff];simp
  rw [e1,e2]
  cases decide (0≤o.2.1) <;> cases decide (o.2.1≤3) <;> cases b <;> cases d <;> rfl
theorem val12 (ops:List Op)(chs:List Cn)(ho:ops.length≤20)(hl:chs.length≤100)(hok:∀ c∈chs,okC ops.length c=true):∀ (rest:List Cn) (i n:Nat),chs.drop i=rest→i≤chs.length→rest.length+ops.length+3≤n→ref24_Valid_i12 n ops chs (i:Int)=some (v2 chs (chs.take i) rest&&v3 ops.length chs 0 ops,())
 | [],i,n,h,hi,hn=>by
  obtain⟨m,rfl⟩:∃ m,n=m+1+1:=⟨n - 2,by simp at hn;omega⟩
  have:=drop_end h hi
  rw [ref24_Valid_c12]
  simp only [Int.ofNat_eq_natCast,iG (show ¬ i<chs.length by omega),cond_false,v2,Bool.true_and]
  rw [ref24_Valid_c10]
  exact val21 ops chs ho hl hok ops 0 m rfl (by omega) (by simp at hn;omega)
 | c::rest,i,n,h,hi,hn=>by
  obtain⟨m,rfl⟩:∃ m,n=m+1:=⟨n - 1,by simp at hn;omega⟩
  obtain⟨h1,h2,h3⟩:=drop_get h
  rw [ref24_Valid_c12]
  simp only [Int.ofNat_eq_natCast,iL h1,cond_true,iN,Int.toNat_natCast,h2,wS (show i<1000000000000 by omega),apart_eq ops chs (by omega) i c h2,inputs_eq ops chs (by omega),outputs_eq ops chs (by omega)]
  rw [num_steps,val12 ops chs ho hl hok rest (i+1) m h3 (by omega) (by simp at hn;omega),v2,List.take_add_one,h2]
  simp only [Option.toList_some]
  cases (chs.take i).all (fun d=>apart d c) <;> cases numsOk chs c <;> rfl
theorem val3 (ops:List Op)(chs:List Cn)(ho:ops.length≤20)(hl:chs.length≤100):∀ (rest:List Cn) (i n:Nat),chs.drop i=rest→i≤chs.length→(∀ c∈chs.take i,okC ops.length c=true)→rest.length+chs.length+ops.length+5≤n→ref24_Valid_i3 n ops chs (i:Int)=some (rest.all (okC ops.length)&&(v2 chs [] chs&&v3 ops.length chs 0 ops),())
 | [],i,n,h,hi,hok,hn=>by
  obtain⟨m,rfl⟩:∃ m,n=m+1+1:=⟨n - 2,by simp at hn;omega⟩
  have:=drop_end h hi
  subst this
  rw [List.take_length] at hok
  rw [ref24_Valid_c3]
  simp only [Int.ofNat_eq_natCast,iG (show ¬ chs.length<chs.length by omega),cond_false,List.all_nil,Bool.true_and]
  rw [ref24_Valid_c1]
  exact val12 ops chs ho hl hok chs 0 m rfl (by omega) (by simp at hn;omega)
 | c::rest,i,n,h,hi,hok,hn=>by
  obtain⟨m,rfl⟩:∃ m,n=m+1:=⟨n - 1,by simp at hn;omega⟩
  obtain⟨h1,h2,h3⟩:=drop_get h
  rw [ref24_Valid_c3]
  simp only [iL h1,cond_true,iN,Int.toNat_natCast,h2,wS (show i<1000000000000 by omega),okC_steps,show Int.ofNat chs.length=(chs.length:Int) from rfl]
  rw [List.all_cons]
  cases hc:okC ops.length c with
  | false=>rfl
  | true =>
   rw [cond_true,val3 ops chs ho hl rest (i+1) m h3 (by omega) (fun d hd=>by
    rw [List.take_add_one,h2] at hd
    rcases List.mem_append.1 hd with hd | hd
    · exact hok d hd
    · simp at hd;subst hd;exact hc) (by simp at hn;omega)]
   rfl
theorem valid_eq (x:Gr)(ho:x.1.length≤20)(hl:x.2.1.length≤100):ref24_Valid x=some (gOkB x,()):=by
 obtain⟨n,hn⟩:=fuel_s
 have:=val3 x.1 x.2.1 ho hl x.2.1 0 fuel rfl (by omega) (by simp) (by rw [hn];omega)
 rw [ref24_Valid_c];exact this
theorem rgchk_eq (x:Gr):ref24_Check x=some (gChk x,()):=by
 rw [ref24_Check_c]
 unfold gChk
 have e1:decide (Int.ofNat x.1.length>(20:Int))=decide (20<x.1.length):=by rw [Bool.eq_iff_iff];simp;omega
 have e2:decide (Int.ofNat x.2.1.length>(100:Int))=decide (100<x.2.1.length):=by rw [Bool.eq_iff_iff];simp;omega
 rw [e1,e2]
 by_cases h1:20<x.1.length
 · simp [h1]
 by_cases h2:100<x.2.1.length
 · simp [h1,h2]
 rw [valid_eq x (by omega) (by omega)]
 cases gOkB x <;> simp [h1,h2]
end Tg

/- The channels of an operator of a right graph. -/
namespace Tg
open Go
theorem ref_of {x:Gr}(h:gOkB x=true):Tj.refOk x.1 x.2.1:=by
 obtain⟨ops,chs,u⟩:=x
 have:=(Tj.gOk_iff ops chs).2 h
 exact (Tj.ref_iff ops chs).2 ⟨this.1,this.2.1⟩
theorem cnt_lim {x:Gr}(h:Tj.refOk x.1 x.2.1){i:Nat}(hi:i<x.1.length):cnt true i x.2.1≤4∧cnt false i x.2.1≤3:=by
 have:=(h.2.2 i _ (List.getElem?_eq_getElem hi)).2
 unfold manyB bnd at this
 simp only [Bool.and_eq_true,decide_eq_true_eq] at this
 obtain⟨_,⟨_,h2⟩,_,h4⟩:=this
 repeat' split at h2
 all_goals repeat' split at h4
 all_goals simp only at h2 h4
 all_goals omega
theorem keys_ok {x:Gr}(h:Tj.refOk x.1 x.2.1)(b:Bool)(op:Int):Tj.KeysOk b op x.2.1:=by
 refine⟨fun i c hc hs=>?_,fun i j c d hc hd hs ht hk=>?_⟩
 · have hm:=List.mem_of_getElem? hc
   have h1:=h.1 c hm
   have h2:=h.2.1.2 c hm
   simp only [okC,Tj.okC,Bool.and_eq_true,decide_eq_true_eq] at h1
   simp only [numsOk,Bool.and_eq_true,decide_eq_true_eq] at h2
   have l1:=cnt_lim h (i:=c.2.2.1.toNat) (by omega)
   have l2:=cnt_lim h (i:=c.1.toNat) (by omega)
   rw [Int.toNat_of_nonneg (by omega)] at l1 l2
   cases b <;> simp only [Tj.keyF,cond_true,cond_false] <;> omega
 · have hp:=h.2.1.1
   rw [List.pairwise_iff_getElem] at hp
   obtain⟨hi,rfl⟩:=List.getElem?_eq_some_iff.1 hc
   obtain⟨hj,rfl⟩:=List.getElem?_eq_some_iff.1 hd
   rcases Nat.lt_trichotomy i j with hlt | rfl | hlt
   · have:=hp i j hi hj hlt
     simp only [apart,inc,Bool.and_eq_true,Bool.or_eq_true,Bool.not_eq_true',Bool.and_eq_false_iff,decide_eq_true_eq,decide_eq_false_iff_not] at this
     exfalso
     cases b <;> simp only [Tj.keyF,Tj.selF,cond_true,cond_false] at hk hs ht <;> omega
   · rfl
   · have:=hp j i hj hi hlt
     simp only [apart,inc,Bool.and_eq_true,Bool.or_eq_true,Bool.not_eq_true',Bool.and_eq_false_iff,decide_eq_true_eq,decide_eq_false_iff_not] at this
     exfalso
     cases b <;> simp only [Tj.keyF,Tj.selF,cond_true,cond_false] at hk hs ht <;> omega
theorem idx_cnt (b:Bool)(op:Int)(chs:List Cn):∀ k,k≤chs.length→(Tj.idxN b op chs k).length=cnt b op (chs.take k)
 | 0,_=>rfl
 | k+1,h=>by
  obtain⟨c,hc⟩:∃ c,chs[k]? = some c:=⟨_,List.getElem?_eq_getElem (by omega)⟩
  have ih:=idx_cnt b op chs k (by omega)
  have e:chs.take (k+1)=chs.take k++[c]:=by rw [List.take_add_one,hc];rfl
  unfold cnt at ih ⊢
  rw [e,List.filter_append]
  by_cases hs:Tj.selF b c=op
  · rw [Tj.idxN_hit hc hs,List.length_append,List.length_append,ih]
    have:decide (cond b c.2.2.1 c.1=op)=true:=decide_eq_true hs
    simp [this]
  · rw [Tj.idxN_miss hc hs,List.length_append,ih]
    have:decide (cond b c.2.2.1 c.1=op)=false:=decide_eq_false hs
    simp [this]
def joinL (b:Bool)(x:Gr)(op:Int):List (Int×Unit):=(Tj.joinW b op x.2.1).map fun i:Nat=>((i:Int),())
theorem joinL_len {x:Gr}(h:Tj.refOk x.1 x.2.1)(b:Bool)(op:Int):(joinL b x op).length=cnt b op x.2.1:=by
 unfold joinL
 have:=idx_cnt b op x.2.1 x.2.1.length (Nat.le_refl _)
 rw [List.take_length] at this
 rw [List.length_map,← Tj.sor_join (keys_ok h b op),Tj.len_sorF,this]
theorem joinL_mem {x:Gr}(h:Tj.refOk x.1 x.2.1){b:Bool}{op:Int}{y:Int×Unit}(hy:y∈joinL b x op):∃ i:Nat,i<x.2.1.length∧y=((i:Int),()):=by
 unfold joinL at hy
 rw [List.mem_map] at hy
 obtain⟨i,hi,rfl⟩:=hy
 have:=(Tj.mem_join (keys_ok h b op)).1 hi
 exact⟨i,(Tj.idxN_lt this).1,rfl⟩
theorem inputs_w {x:Gr}(h:Tj.refOk x.1 x.2.1)(hl:x.2.1.length≤100){i:Nat}(hi:i<x.1.length):step_inputs x (i:Int)=some (joinL true x (i:Int),()):=by
 have hc:=idx_cnt true (i:Int) x.2.1 x.2.1.length (Nat.le_refl _)
 rw [List.take_length] at hc
 have:=cnt_lim h hi
 rw [step_inputs_w x _ (by omega) (by omega),Tj.sor_join (keys_ok h true _)]
 rfl
theorem outputs_w {x:Gr}(h:Tj.refOk x.1 x.2.1)(hl:x.2.1.length≤100){i:Nat}(hi:i<x.1.length):step_outputs x (i:Int)=some (joinL false x (i:Int),()):=by
 have hc:=idx_cnt false (i:Int) x.2.1 x.2.1.length (Nat.le_refl _)
 rw [List.take_length] at hc
 have:=cnt_lim h hi
 rw [step_outputs_w x _ (by omega) (by omega),Tj.sor_join (keys_ok h false _)]
 rfl
end Tg
