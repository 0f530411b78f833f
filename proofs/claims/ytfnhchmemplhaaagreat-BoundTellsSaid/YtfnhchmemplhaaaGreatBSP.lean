import Derived.Test.YtfnhchmemplhaaaGreatBSI
import Derived.Test.YtfnhchmemplhaaaGreatBVb5
/- The channels of an operator in order: sorted, and place by place. -/
set_option linter.unusedVariables false
set_option linter.unusedSimpArgs false
namespace Tj
open Go Go.Sort Go.Proofs
def keyO (b:Bool)(chs:List Chn)(i:Nat):Int:=((chs[i]?).map (keyF b)).getD 0
def Zhk (b:Bool)(op:Int)(chs:List Chn):List Nat:=(List.range 20).flatMap fun pl:Nat=>(List.range chs.length).filter fun i=>(chs[i]?).any fun c=>decide (selF b c=op)&&decide (keyF b c=(pl:Int))
theorem Zuu (b:Bool)(op:Int)(chs:List Chn):(sorF b op chs).Perm (idxN b op chs chs.length):=by
 by_cases h:0<chs.length
 · obtain⟨I,hI⟩:∃ I:Inhabited (Fin chs.length),I=⟨⟨0,h⟩⟩:=⟨_,rfl⟩
   rw [Zou h hI]
   have hp:=(insertionSort_holds (swoF b chs) (idxD b op chs) 0 (idxD b op chs).size (Nat.zero_le _) (Nat.le_refl _)).1
   obtain⟨h1,_,h3⟩:=hp
   generalize Sort.insertionSort (ltOf (cfF b chs)) (idxD b op chs) 0 (idxD b op chs).size=d' at h1 h3 ⊢
   have e1:(d'.extract 0 (idxD b op chs).size).toList=d'.toList:=by
    rw [← h1]
    simp
   have e3:((idxD b op chs).extract 0 (idxD b op chs).size).toList=(idxD b op chs).toList:=by simp
   rw [e1,e3] at h3
   have h4:=h3.map Fin.val
   have e2:(idxD b op chs).toList.map Fin.val=idxN b op chs chs.length:=by
    unfold idxD
    rw [List.map_pmap]
    simp
   rw [e2] at h4
   exact h4
 · have:chs=[]:=List.length_eq_zero_iff.1 (by omega)
   subst this
   exact List.Perm.refl _
theorem Z5h (b:Bool)(op:Int)(chs:List Chn):(sorF b op chs).Pairwise fun i j=>keyO b chs i≤keyO b chs j:=by
 by_cases h:0<chs.length
 · obtain⟨I,hI⟩:∃ I:Inhabited (Fin chs.length),I=⟨⟨0,h⟩⟩:=⟨_,rfl⟩
   rw [Zou h hI]
   have hh:=insertionSort_holds (swoF b chs) (idxD b op chs) 0 (idxD b op chs).size (Nat.zero_le _) (Nat.le_refl _)
   have hs:=hh.2
   have hz:=hh.1.1
   generalize Sort.insertionSort (ltOf (cfF b chs)) (idxD b op chs) 0 (idxD b op chs).size=d' at hs hz ⊢
   rw [List.pairwise_map,List.pairwise_iff_getElem]
   intro i j hi hj hij
   have:=hs i j (Nat.zero_le _) hij (by rw [← hz];simpa using hj)
   have e:∀ x y,ltOf (cfF b chs) x y=decide (keyF b (chs.get x)<keyF b (chs.get y)):=fun x y=>Z2l _ _
   rw [e,decide_eq_false_iff_not] at this
   have hi2:i<d'.size:=by simpa using hi
   have hj2:j<d'.size:=by simpa using hj
   simp only [hi2,hj2,getElem!_pos] at this
   have k:∀ z:Fin chs.length,keyO b chs z.val=keyF b (chs.get z):=fun z=>by simp [keyO]
   rw [k,k]
   simp only [Array.getElem_toList]
   omega
 · have:chs=[]:=List.length_eq_zero_iff.1 (by omega)
   subst this
   exact List.Pairwise.nil
structure KeysOk (b:Bool) (op:Int) (chs:List Chn):Prop where
 low:∀ (i:Nat) (c:Chn),chs[i]? = some c→selF b c=op→0≤keyF b c∧keyF b c<20
 inj:∀ (i j:Nat) (c d:Chn),chs[i]? = some c→chs[j]? = some d→selF b c=op→selF b d=op→keyF b c=keyF b d→i=j
theorem Zow {b:Bool}{op:Int}{chs:List Chn}{i:Nat}:i∈idxN b op chs chs.length ↔ ∃ c,chs[i]? = some c∧selF b c=op:=by
 unfold idxN
 rw [List.mem_filter,List.mem_range]
 constructor
 · rintro⟨h1,h2⟩
   obtain⟨c,hc⟩:∃ c,chs[i]? = some c:=⟨_,List.getElem?_eq_getElem h1⟩
   rw [hc] at h2
   exact⟨c,hc,by simpa using h2⟩
 · rintro⟨c,hc,hs⟩
   exact⟨(List.getElem?_eq_some_iff.1 hc).1,by simp [hc,hs]⟩
theorem Zl7 {b:Bool}{op:Int}{chs:List Chn}{i pl:Nat}:(i∈(List.range chs.length).filter fun i=>(chs[i]?).any fun c=>decide (selF b c=op)&&decide (keyF b c=(pl:Int))) ↔ ∃ c,chs[i]? = some c∧selF b c=op∧keyF b c=(pl:Int):=by
 rw [List.mem_filter,List.mem_range]
 constructor
 · rintro⟨h1,h2⟩
   obtain⟨c,hc⟩:∃ c,chs[i]? = some c:=⟨_,List.getElem?_eq_getElem h1⟩
   rw [hc] at h2
   exact⟨c,hc,by simpa using h2⟩
 · rintro⟨c,hc,hs⟩
   exact⟨(List.getElem?_eq_some_iff.1 hc).1,by simp [hc,hs]⟩
theorem Zox {b:Bool}{op:Int}{chs:List Chn}{i:Nat}(hk:KeysOk b op chs):i∈Zhk b op chs↔i∈idxN b op chs chs.length:=by
 unfold Zhk
 rw [List.mem_flatMap,Zow]
 constructor
 · rintro⟨pl,_,h⟩
   obtain⟨c,hc,hs,_⟩:=Zl7.1 h
   exact⟨c,hc,hs⟩
 · rintro⟨c,hc,hs⟩
   have:=hk.low i c hc hs
   exact⟨(keyF b c).toNat,by rw [List.mem_range];omega,Zl7.2 ⟨c,hc,hs,by omega⟩⟩
theorem Zp9 {b:Bool}{chs:List Chn}{i:Nat}{c:Chn}(h:chs[i]? = some c):keyO b chs i=keyF b c:=by simp [keyO,h]
theorem Zq2 {b:Bool}{op:Int}{chs:List Chn}(hk:KeysOk b op chs):(Zhk b op chs).Pairwise fun i j=>keyO b chs i<keyO b chs j:=by
 unfold Zhk
 rw [List.pairwise_flatMap]
 refine⟨fun pl _=>?_,?_⟩
 · refine List.Pairwise.imp_of_mem (R:=fun i j=>i<j) (fun {i j} hi hj hij=>?_) ((List.pairwise_lt_range).filter _)
   obtain⟨c,hc,hs,h1⟩:=Zl7.1 hi
   obtain⟨d,hd,ht,h2⟩:=Zl7.1 hj
   have:=hk.inj i j c d hc hd hs ht (by rw [h1,h2])
   omega
 · refine List.Pairwise.imp (fun {p q} hpq i hi j hj=>?_) (List.pairwise_lt_range (n:=20))
   obtain⟨c,hc,hs,h1⟩:=Zl7.1 hi
   obtain⟨d,hd,ht,h2⟩:=Zl7.1 hj
   rw [Zp9 hc,Zp9 hd,h1,h2]
   omega
theorem Zoy {b:Bool}{op:Int}{chs:List Chn}(hk:KeysOk b op chs):sorF b op chs=Zhk b op chs:=by
 have hj:=Zq2 hk
 have nd1:(Zhk b op chs).Nodup:=hj.imp fun h e=>by subst e;omega
 have nd2:(idxN b op chs chs.length).Nodup:=by
  unfold idxN
  exact (List.nodup_range).filter _
 have hp:(sorF b op chs).Perm (Zhk b op chs):=(Zuu b op chs).trans ((List.perm_ext_iff_of_nodup nd2 nd1).2 fun i=>(Zox hk).symm)
 refine List.Perm.eq_of_pairwise (le:=fun i j=>keyO b chs i≤keyO b chs j) (fun i j hi hj h1 h2=>?_) (Z5h b op chs) (hj.imp fun h=>by omega) hp
 obtain⟨c,hc,hs⟩:=Zow.1 ((Zuu b op chs).mem_iff.1 hi)
 obtain⟨d,hd,ht⟩:=Zow.1 ((Zox hk).1 hj)
 exact hk.inj i j c d hc hd hs ht (by rw [Zp9 hc,Zp9 hd] at h1 h2;omega)
end Tj

/- The reference's check of a graph, told plainly. -/
namespace Tg
open Go
open Go.Abs (Zg)
theorem Yfp (k i o:Int):Zns k i o=some (Zga k i o,()):=by
 have e:∀ a b c:Int,Qu a b c=some (decide (b≤a)&&decide (a≤c),()):=fun a b c=>by
  rw [Zrg]
  rw [show decide (a≥b)=decide (b≤a) from rfl]
  cases decide (b≤a) <;> rfl
 have q:∀ a b:Int,(decide (b≤a)&&decide (a≤b))=(a==b):=fun a b=>by
  rw [Bool.eq_iff_iff]
  simp
  omega
 rw [Zz1]
 unfold Zga
 simp only [e]
 by_cases h1:k=1
 · subst h1
   simp only [bnd,if_true,q]
   cases i==(0:Int) <;> simp
 by_cases h2:k=2
 · subst h2
   rw [show bnd 2=(1,1,1,2) from rfl]
   simp only [q]
   cases i==(1:Int) <;> simp
 by_cases h3:k=3
 · subst h3
   rw [show bnd 3=(1,1,1,3) from rfl]
   simp only [q]
   cases i==(1:Int) <;> simp
 by_cases h4:k=4
 · subst h4
   rw [show bnd 4=(1,4,1,1) from rfl]
   simp only [q]
   cases (decide ((1:Int)≤i)&&decide (i≤4)) <;> simp
 by_cases h5:k=5
 · subst h5
   rw [show bnd 5=(2,2,1,1) from rfl]
   simp only [q]
   cases i==(2:Int) <;> simp
 by_cases h6:k=6
 · subst h6
   rw [show bnd 6=(1,3,0,0) from rfl]
   simp only [q]
   cases (decide ((1:Int)≤i)&&decide (i≤3)) <;> simp
 by_cases h7:k=7
 · subst h7
   rw [show bnd 7=(1,4,0,0) from rfl]
   simp only [q]
   cases (decide ((1:Int)≤i)&&decide (i≤4)) <;> simp
 have hk:(decide (1≤k)&&decide (k≤7))=false:=by
  rw [← Bool.not_eq_true]
  simp
  omega
 rw [hk,Bool.false_and]
 rw [show (k==1)=false by simpa using h1,show (k==2)=false by simpa using h2,show (k==3)=false by simpa using h3,show (k==4)=false by simpa using h4,show (k==5)=false by simpa using h5,show (k==6)=false by simpa using h6,show (k==7)=false by simpa using h7]
 rfl
theorem Z2p (b:Bool)(j:Int)(c:Cn)(l:List Cn):(cnt b j (c::l):Int)=(bif cond b c.2.2.1 c.1==j then 1 else 0)+cnt b j l:=by
 unfold cnt
 rw [List.filter_cons]
 by_cases h:cond b c.2.2.1 c.1=j
 · rw [if_pos (by simpa using h),show (cond b c.2.2.1 c.1==j)=true by simpa using h]
   simp
   omega
 · rw [if_neg (by simpa using h),show (cond b c.2.2.1 c.1==j)=false by simpa using h]
   simp
theorem inp4 (chs:List Cn)(hl:chs.length≤1000000000)(x:Int):∀ (rest:List Cn) (i n a:Nat),chs.drop i=rest→i≤chs.length→rest.length+1≤n→a≤i→Zal n x chs (a:Int) (i:Int)=some ((a:Int)+cnt true x rest,())
 | [],i,n,a,h,hi,hn,ha=>by
  obtain⟨m,rfl⟩:∃ m,n=m+1:=⟨n - 1,by simp at hn;omega⟩
  have:=drop_end h hi
  rw [Zij]
  simp only [Int.ofNat_eq_natCast,iG (show ¬ i<chs.length by omega),cond_false,cnt,List.filter_nil,List.length_nil,Int.natCast_zero,Int.add_zero]
 | c::rest,i,n,a,h,hi,hn,ha=>by
  obtain⟨m,rfl⟩:∃ m,n=m+1:=⟨n - 1,by simp at hn;omega⟩
  obtain⟨h1,h2,h3⟩:=Zbr h
  rw [Zij]
  simp only [Int.ofNat_eq_natCast,iL h1,cond_true,iN,Int.toNat_natCast,h2,wS (show i<1000000000000 by omega),wS (show a<1000000000000 by omega)]
  rw [inp4 chs hl x rest (i+1) m (a+1) h3 (by omega) (by simp at hn;omega) (by omega),inp4 chs hl x rest (i+1) m a h3 (by omega) (by simp at hn;omega) (by omega),Z2p]
  simp only [cond_true]
  cases c.2.2.1==x <;> simp <;> omega
theorem out4 (chs:List Cn)(hl:chs.length≤1000000000)(x:Int):∀ (rest:List Cn) (i n a:Nat),chs.drop i=rest→i≤chs.length→rest.length+1≤n→a≤i→Zaa n x chs (a:Int) (i:Int)=some ((a:Int)+cnt false x rest,())
 | [],i,n,a,h,hi,hn,ha=>by
  obtain⟨m,rfl⟩:∃ m,n=m+1:=⟨n - 1,by simp at hn;omega⟩
  have:=drop_end h hi
  rw [Zhg]
  simp only [Int.ofNat_eq_natCast,iG (show ¬ i<chs.length by omega),cond_false,cnt,List.filter_nil,List.length_nil,Int.natCast_zero,Int.add_zero]
 | c::rest,i,n,a,h,hi,hn,ha=>by
  obtain⟨m,rfl⟩:∃ m,n=m+1:=⟨n - 1,by simp at hn;omega⟩
  obtain⟨h1,h2,h3⟩:=Zbr h
  rw [Zhg]
  simp only [Int.ofNat_eq_natCast,iL h1,cond_true,iN,Int.toNat_natCast,h2,wS (show i<1000000000000 by omega),wS (show a<1000000000000 by omega)]
  rw [out4 chs hl x rest (i+1) m (a+1) h3 (by omega) (by simp at hn;omega) (by omega),out4 chs hl x rest (i+1) m a h3 (by omega) (by simp at hn;omega) (by omega),Z2p]
  simp only [cond_false]
  cases c.1==x <;> simp <;> omega
theorem Zye (ops:List Op)(chs:List Cn)(hl:chs.length≤1000000000)(x:Int):Ze1 (ops,chs,()) x=some ((cnt true x chs:Int),()):=by
 obtain⟨n,hn⟩:=Zau
 have:=inp4 chs hl x chs 0 fuel 0 rfl (by omega) (by rw [hn];omega) (by omega)
 simpa [Ztz] using this
theorem Zuv (ops:List Op)(chs:List Cn)(hl:chs.length≤1000000000)(x:Int):Zd6 (ops,chs,()) x=some ((cnt false x chs:Int),()):=by
 obtain⟨n,hn⟩:=Zau
 have:=out4 chs hl x chs 0 fuel 0 rfl (by omega) (by rw [hn];omega) (by omega)
 simpa [Zrh] using this
theorem Yc1 (chs:List Cn)(c:Cn)(j:Nat)(hj:j≤chs.length)(hl:chs.length≤1000000000):∀ (rest:List Cn) (i n:Nat),(chs.take j).drop i=rest→i≤j→rest.length+1≤n→Zc1 n (j:Int) chs c.1 c.2.1 c.2.2.1 c.2.2.2.1 (i:Int)=some (rest.all fun d=>apart d c,())
 | [],i,n,h,hi,hn=>by
  obtain⟨m,rfl⟩:∃ m,n=m+1:=⟨n - 1,by simp at hn;omega⟩
  have hlt:(chs.take j).length=j:=by rw [List.length_take];omega
  have:=drop_end h (by omega)
  rw [Zkv]
  simp only [iG (show ¬ i<j by omega),cond_false,List.all_nil]
 | d::rest,i,n,h,hi,hn=>by
  obtain⟨m,rfl⟩:∃ m,n=m+1:=⟨n - 1,by simp at hn;omega⟩
  have hlt:(chs.take j).length=j:=by rw [List.length_take];omega
  obtain⟨h1,h2,h3⟩:=Zbr h
  rw [List.getElem?_take_of_lt (by omega)] at h2
  rw [Zkv]
  simp only [iL (show i<j by omega),cond_true,iN,Int.toNat_natCast,h2,wS (show i<1000000000000 by omega),List.all_cons]
  rw [Yc1 chs c j hj hl rest (i+1) m h3 (by omega) (by simp at hn;omega)]
  unfold apart inc
  have e1:decide (d.1>c.1)=decide (c.1<d.1):=rfl
  have e2:decide (d.2.1≥c.2.1) = !decide (d.2.1<c.2.1):=by rw [Bool.eq_iff_iff];simp
  have e3:(d.1==c.1)=decide (d.1=c.1):=rfl
  have e4:(d.2.2.1==c.2.2.1)=decide (d.2.2.1=c.2.2.1):=rfl
  have e5:(d.2.2.2.1==c.2.2.2.1)=decide (d.2.2.2.1=c.2.2.2.1):=rfl
  rw [e1,e2,e3,e4,e5]
  rcases Int.lt_trichotomy d.1 c.1 with g | g | g
  · rw [dT g,dF (show ¬ c.1<d.1 by omega),dF (show ¬ d.1=c.1 by omega)]
    cases decide (d.2.2.1=c.2.2.1) <;> cases decide (d.2.2.2.1=c.2.2.2.1) <;> simp
  · rw [dF (show ¬ d.1<c.1 by omega),dF (show ¬ c.1<d.1 by omega),dT g]
    cases decide (d.2.1<c.2.1) <;> cases decide (d.2.2.1=c.2.2.1) <;> cases decide (d.2.2.2.1=c.2.2.2.1) <;> simp
  · rw [dF (show ¬ d.1<c.1 by omega),dT g,dF (show ¬ d.1=c.1 by omega)]
    simp
theorem apart_eq (ops:List Op)(chs:List Cn)(hl:chs.length≤1000000000)(j:Nat)(c:Cn)(hc:chs[j]? = some c):Zku (ops,chs,()) (j:Int)=some ((chs.take j).all fun d=>apart d c,()):=by
 obtain⟨n,hn⟩:=Zau
 have hj:=(List.getElem?_eq_some_iff.1 hc).1
 have:=Yc1 chs c j (by omega) hl (chs.take j) 0 fuel rfl (by omega) (by rw [hn,List.length_take];omega)
 simp only [Zv9,iN,cond_true,Int.toNat_natCast,hc]
 exact this
def bu (R:List Bool):List (Bool×Unit):=R.map fun b=>(b,())
theorem Yi8 (R:List Bool):(bu R).length=R.length:=by simp [bu]
theorem Z5i {R:List Bool}{j:Nat}(h:j<R.length):(bu R)[j]? = some ((R[j]?).getD false,()):=by
 unfold bu
 rw [List.getElem?_map,List.getElem?_eq_getElem h]
 rfl
theorem Yi9 (R:List Bool)(j:Nat)(b:Bool)(u:Unit):(bu R).set j (b,u)=bu (R.set j b):=by
 unfold bu
 rw [List.map_set]
theorem Z0c (f:Int)(R:List Bool)(c:Cn):(rlx f R c).length=R.length:=by
 unfold rlx
 cases c.1==f||(R[c.1.toNat]?).getD false <;> simp
theorem Z2q (f:Int)(c:Cn)(l:List Cn)(R:List Bool):rnd f (c::l) R=rnd f l (rlx f R c):=rfl
theorem Zl6 (f:Int):∀ (chs:List Cn) (R:List Bool),(rnd f chs R).length=R.length
 | [],_=>rfl
 | c::l,R=>by rw [Z2q,Zl6 f l,Z0c]
theorem Z5j (f:Int)(ops:List Op)(chs:List Cn)(hl:chs.length≤1000000000)(hok:∀ c∈chs,okC ops.length c=true)(r m:Nat)(hr:r<1000000000):∀ (rest:List Cn) (i n:Nat) (R:List Bool),chs.drop i=rest→i≤chs.length→n=m+rest.length+1→R.length=ops.length→Xt n f ops chs (bu R) (r:Int) (i:Int)=Zab m f ops chs (bu (rnd f rest R)) ((r+1:Nat):Int)
 | [],i,n,R,h,hi,hn,hR=>by
  subst hn
  have:=drop_end h hi
  rw [Zhi]
  simp only [Int.ofNat_eq_natCast,iG (show ¬ i<chs.length by omega),cond_false,wS (show r<1000000000000 by omega)]
  rfl
 | c::rest,i,n,R,h,hi,hn,hR=>by
  subst hn
  obtain⟨h1,h2,h3⟩:=Zbr h
  have hc:=hok c (List.mem_of_getElem? h2)
  simp only [okC,Bool.and_eq_true,decide_eq_true_eq] at hc
  rw [show m+(c::rest).length+1=(m+rest.length+1)+1 by simp;omega]
  rw [Zhi]
  simp only [Int.ofNat_eq_natCast,iL h1,cond_true,iN,Int.toNat_natCast,h2,wS (show i<1000000000000 by omega),iN' (show 0≤c.2.2.1 by omega),iN' (show 0≤c.1 by omega),Yi8,dT (show c.2.2.1.toNat<R.length by omega),dT (show c.1.toNat<R.length by omega),Z5i (show c.2.2.1.toNat<R.length by omega),Z5i (show c.1.toNat<R.length by omega),Yi9]
  rw [Z5j f ops chs hl hok r m hr rest (i+1) _ (R.set c.2.2.1.toNat true) h3 (by omega) rfl (by rw [List.length_set];exact hR),Z5j f ops chs hl hok r m hr rest (i+1) _ R h3 (by omega) rfl hR,Z2q]
  unfold rlx
  cases c.1==f with
  | true=>rfl
  | false=>cases (R[c.1.toNat]?).getD false <;> rfl
theorem Yc2 (f:Int)(ops:List Op)(chs:List Cn)(hl:chs.length≤1000000000)(hok:∀ c∈chs,okC ops.length c=true)(ho:ops.length≤100000000):∀ (k r n:Nat) (R:List Bool),r+k=ops.length+1→k * (chs.length+2)+1≤n→R.length=ops.length→Zab n f ops chs (bu R) (r:Int)=some (bu (rnds f chs k R),())
 | 0,r,n,R,hk,hn,hR=>by
  obtain⟨m,rfl⟩:∃ m,n=m+1:=⟨n - 1,by omega⟩
  rw [Zhh]
  simp only [Int.ofNat_eq_natCast,dF (show ¬ (r:Int)≤(ops.length:Int) by omega),cond_false]
  rfl
 | k+1,r,n,R,hk,hn,hR=>by
  rw [Nat.succ_mul] at hn
  obtain⟨m,rfl⟩:∃ m,n=(m+chs.length+1)+1:=⟨n - chs.length - 2,by omega⟩
  rw [Zhh]
  simp only [Int.ofNat_eq_natCast,dT (show (r:Int)≤(ops.length:Int) by omega),cond_true]
  have:=Z5j f ops chs hl hok r m (by omega) chs 0 _ R rfl (by omega) rfl hR
  rw [show ((0:Nat):Int)=0 from rfl] at this
  rw [this,Yc2 f ops chs hl hok ho k (r+1) m (rnd f chs R) (by omega) (by omega) (by rw [Zl6];exact hR)]
  rfl
theorem Z5k (f:Int)(ops:List Op)(chs:List Cn)(hl:chs.length≤1000)(hok:∀ c∈chs,okC ops.length c=true)(ho:ops.length≤1000):Zg2 (ops,chs,()) f=some (bu (rnds f chs (ops.length+1) (List.replicate ops.length false)),()):=by
 obtain⟨n,hn⟩:=Zau
 have hm:(ops.length+1) * (chs.length+2)≤1001 * 1002:=Nat.mul_le_mul (by omega) (by omega)
 have:=Yc2 f ops chs (by omega) hok (by omega) (ops.length+1) 0 fuel (List.replicate ops.length false) (by omega) (by rw [hn];omega) (by simp)
 simp only [Zri,Int.ofNat_eq_natCast,Int.toNat_natCast,Nat.le_refl,decide_true,Bool.true_and,dT (show 1 * ops.length≤281474976710656 by omega),dT (show ops.length≤9223372036854775807 by omega),cond_true]
 rw [← this]
 simp [bu]
end Tg

/- The reference's check of a graph is the plain one. -/
namespace Tg
open Go
open Go.Abs (Zg)
theorem Z8s {α:Type}(n:Nat)(c:Cn)(x y:α):(bif decide (c.1<(0:Int)) then x else bif decide (c.2.2.1<(0:Int)) then x else bif decide (c.1≥Int.ofNat n) then x else bif decide (c.2.2.1≥Int.ofNat n) then x else bif decide (c.2.2.2.2.1<(1:Int)) then x else bif decide (c.2.2.2.2.1>(8:Int)) then x else y)=bif okC n c then y else x:=by
 have e:okC n c=(!decide (c.1<(0:Int))&&(!decide (c.2.2.1<(0:Int))&&(!decide (c.1≥Int.ofNat n)&&(!decide (c.2.2.1≥Int.ofNat n)&&(!decide (c.2.2.2.2.1<(1:Int)) && !decide (c.2.2.2.2.1>(8:Int))))))):=by
  rw [Bool.eq_iff_iff]
  simp only [okC,Bool.and_eq_true,decide_eq_true_eq,Bool.not_eq_true',decide_eq_false_iff_not,Int.ofNat_eq_natCast]
  omega
 rw [e]
 cases decide (c.1<(0:Int)) <;> cases decide (c.2.2.1<(0:Int)) <;> cases decide (c.1≥Int.ofNat n) <;> cases decide (c.2.2.1≥Int.ofNat n) <;> cases decide (c.2.2.2.2.1<(1:Int)) <;> cases decide (c.2.2.2.2.1>(8:Int)) <;> rfl
theorem Z8t {α:Type}(b:Bool)(chs:List Cn)(c:Cn)(x y:α):(bif !b then x else bif decide (c.2.1<(0:Int)) then x else bif decide (c.2.1≥(cnt false c.1 chs:Int)) then x else bif decide (c.2.2.2.1<(0:Int)) then x else bif decide (c.2.2.2.1≥(cnt true c.2.2.1 chs:Int)) then x else y)=bif b&&Zcs chs c then y else x:=by
 have e:Zcs chs c=(!decide (c.2.1<(0:Int))&&(!decide (c.2.1≥(cnt false c.1 chs:Int))&&(!decide (c.2.2.2.1<(0:Int)) && !decide (c.2.2.2.1≥(cnt true c.2.2.1 chs:Int))))):=by
  rw [Bool.eq_iff_iff]
  simp only [Zcs,Bool.and_eq_true,decide_eq_true_eq,Bool.not_eq_true',decide_eq_false_iff_not]
  omega
 rw [e]
 cases b <;> cases decide (c.2.1<(0:Int)) <;> cases decide (c.2.1≥(cnt false c.1 chs:Int)) <;> cases decide (c.2.2.2.1<(0:Int)) <;> cases decide (c.2.2.2.1≥(cnt true c.2.2.1 chs:Int)) <;> rfl
theorem Zli (f:Int)(chs:List Cn):∀ (k:Nat) (R:List Bool),(rnds f chs k R).length=R.length
 | 0,_=>rfl
 | k+1,R=>by rw [rnds,Zli f chs k,Zl6]
theorem Yg8 (ops:List Op)(chs:List Cn)(ho:ops.length≤20)(hl:chs.length≤100)(hok:∀ c∈chs,okC ops.length c=true):∀ (rest:List Op) (i n:Nat),ops.drop i=rest→i≤ops.length→rest.length+1≤n→Zb1 n ops chs (i:Int)=some (v3 ops.length chs i rest,())
 | [],i,n,h,hi,hn=>by
  obtain⟨m,rfl⟩:∃ m,n=m+1:=⟨n - 1,by simp at hn;omega⟩
  have:=drop_end h hi
  rw [Zim]
  simp only [Int.ofNat_eq_natCast,iG (show ¬ i<ops.length by omega),cond_false,v3]
 | o::rest,i,n,h,hi,hn=>by
  obtain⟨m,rfl⟩:∃ m,n=m+1:=⟨n - 1,by simp at hn;omega⟩
  obtain⟨h1,h2,h3⟩:=Zbr h
  have hR:i<(rnds (i:Int) chs (ops.length+1) (List.replicate ops.length false)).length:=by rw [Zli];simpa using h1
  rw [Zim]
  simp only [Int.ofNat_eq_natCast,iL h1,cond_true,iN,Int.toNat_natCast,h2,wS (show i<1000000000000 by omega),Zye ops chs (by omega),Zuv ops chs (by omega),Yfp,Z5k (i:Int) ops chs (by omega) hok (by omega),Z5i hR]
  rw [Yg8 ops chs ho hl hok rest (i+1) m h3 (by omega) (by simp at hn;omega),v3]
  generalize Zga o.1 (cnt true (i:Int) chs) (cnt false (i:Int) chs)=b
  generalize ((rnds (i:Int) chs (ops.length+1) (List.replicate ops.length false))[i]?).getD false=d
  have e1:decide (o.2.1<(0:Int)) = !decide (0≤o.2.1):=by rw [Bool.eq_iff_iff];simp
  have e2:decide (o.2.1>(3:Int)) = !decide (o.2.1≤3):=by rw [Bool.eq_iff_iff];simp
  rw [e1,e2]
  cases decide (0≤o.2.1) <;> cases decide (o.2.1≤3) <;> cases b <;> cases d <;> rfl
theorem Yg9 (ops:List Op)(chs:List Cn)(ho:ops.length≤20)(hl:chs.length≤100)(hok:∀ c∈chs,okC ops.length c=true):∀ (rest:List Cn) (i n:Nat),chs.drop i=rest→i≤chs.length→rest.length+ops.length+3≤n→Zb0 n ops chs (i:Int)=some (v2 chs (chs.take i) rest&&v3 ops.length chs 0 ops,())
 | [],i,n,h,hi,hn=>by
  obtain⟨m,rfl⟩:∃ m,n=m+1+1:=⟨n - 2,by simp at hn;omega⟩
  have:=drop_end h hi
  rw [Zil]
  simp only [Int.ofNat_eq_natCast,iG (show ¬ i<chs.length by omega),cond_false,v2,Bool.true_and]
  rw [Zrj]
  exact Yg8 ops chs ho hl hok ops 0 m rfl (by omega) (by simp at hn;omega)
 | c::rest,i,n,h,hi,hn=>by
  obtain⟨m,rfl⟩:∃ m,n=m+1:=⟨n - 1,by simp at hn;omega⟩
  obtain⟨h1,h2,h3⟩:=Zbr h
  rw [Zil]
  simp only [Int.ofNat_eq_natCast,iL h1,cond_true,iN,Int.toNat_natCast,h2,wS (show i<1000000000000 by omega),apart_eq ops chs (by omega) i c h2,Zye ops chs (by omega),Zuv ops chs (by omega)]
  rw [Z8t,Yg9 ops chs ho hl hok rest (i+1) m h3 (by omega) (by simp at hn;omega),v2,List.take_add_one,h2]
  simp only [Option.toList_some]
  cases (chs.take i).all (fun d=>apart d c) <;> cases Zcs chs c <;> rfl
theorem val3 (ops:List Op)(chs:List Cn)(ho:ops.length≤20)(hl:chs.length≤100):∀ (rest:List Cn) (i n:Nat),chs.drop i=rest→i≤chs.length→(∀ c∈chs.take i,okC ops.length c=true)→rest.length+chs.length+ops.length+5≤n→Zc2 n ops chs (i:Int)=some (rest.all (okC ops.length)&&(v2 chs [] chs&&v3 ops.length chs 0 ops),())
 | [],i,n,h,hi,hok,hn=>by
  obtain⟨m,rfl⟩:∃ m,n=m+1+1:=⟨n - 2,by simp at hn;omega⟩
  have:=drop_end h hi
  subst this
  rw [List.take_length] at hok
  rw [Zky]
  simp only [Int.ofNat_eq_natCast,iG (show ¬ chs.length<chs.length by omega),cond_false,List.all_nil,Bool.true_and]
  rw [Zt1]
  exact Yg9 ops chs ho hl hok chs 0 m rfl (by omega) (by simp at hn;omega)
 | c::rest,i,n,h,hi,hok,hn=>by
  obtain⟨m,rfl⟩:∃ m,n=m+1:=⟨n - 1,by simp at hn;omega⟩
  obtain⟨h1,h2,h3⟩:=Zbr h
  rw [Zky]
  simp only [iL h1,cond_true,iN,Int.toNat_natCast,h2,wS (show i<1000000000000 by omega),Z8s,show Int.ofNat chs.length=(chs.length:Int) from rfl]
  rw [List.all_cons]
  cases hc:okC ops.length c with
  | false=>rfl
  | true =>
   rw [cond_true,val3 ops chs ho hl rest (i+1) m h3 (by omega) (fun d hd=>by
    rw [List.take_add_one,h2] at hd
    rcases List.mem_append.1 hd with hd | hd
    · exact hok d hd
    · simp at hd;subst hd;exact hc) (by simp at hn;omega)]
   rfl
theorem valid_eq (x:Gr)(ho:x.1.length≤20)(hl:x.2.1.length≤100):Zkw x=some (gOkB x,()):=by
 obtain⟨n,hn⟩:=Zau
 have:=val3 x.1 x.2.1 ho hl x.2.1 0 fuel rfl (by omega) (by simp) (by rw [hn];omega)
 rw [Zwa];exact this
theorem Yc3 (x:Gr):Zgi x=some (gChk x,()):=by
 rw [Zwb]
 unfold gChk
 have e1:decide (Int.ofNat x.1.length>(20:Int))=decide (20<x.1.length):=by rw [Bool.eq_iff_iff];simp;omega
 have e2:decide (Int.ofNat x.2.1.length>(100:Int))=decide (100<x.2.1.length):=by rw [Bool.eq_iff_iff];simp;omega
 rw [e1,e2]
 by_cases h1:20<x.1.length
 · simp [h1]
 by_cases h2:100<x.2.1.length
 · simp [h1,h2]
 rw [valid_eq x (by omega) (by omega)]
 cases gOkB x <;> simp [h1,h2]
end Tg

/- The channels of an operator of a right graph. -/
namespace Tg
open Go
theorem Zuw {x:Gr}(h:gOkB x=true):Tj.Zcd x.1 x.2.1:=by
 obtain⟨ops,chs,u⟩:=x
 have:=(Tj.Zr4 ops chs).2 h
 exact (Tj.Z7f ops chs).2 ⟨this.1,this.2.1⟩
theorem Zr6 {x:Gr}(h:Tj.Zcd x.1 x.2.1){i:Nat}(hi:i<x.1.length):cnt true i x.2.1≤4∧cnt false i x.2.1≤3:=by
 have:=(h.2.2 i _ (List.getElem?_eq_getElem hi)).2
 unfold Zga bnd at this
 simp only [Bool.and_eq_true,decide_eq_true_eq] at this
 obtain⟨_,⟨_,h2⟩,_,h4⟩:=this
 repeat' split at h2
 all_goals repeat' split at h4
 all_goals simp only at h2 h4
 all_goals omega
theorem Zgn {x:Gr}(h:Tj.Zcd x.1 x.2.1)(b:Bool)(op:Int):Tj.KeysOk b op x.2.1:=by
 refine⟨fun i c hc hs=>?_,fun i j c d hc hd hs ht hk=>?_⟩
 · have hm:=List.mem_of_getElem? hc
   have h1:=h.1 c hm
   have h2:=h.2.1.2 c hm
   simp only [okC,Tj.okC,Bool.and_eq_true,decide_eq_true_eq] at h1
   simp only [Zcs,Bool.and_eq_true,decide_eq_true_eq] at h2
   have l1:=Zr6 h (i:=c.2.2.1.toNat) (by omega)
   have l2:=Zr6 h (i:=c.1.toNat) (by omega)
   rw [Int.toNat_of_nonneg (by omega)] at l1 l2
   cases b <;> simp only [Tj.keyF,cond_true,cond_false] <;> omega
 · have hp:=h.2.1.1
   rw [List.pairwise_iff_getElem] at hp
   obtain⟨hi,rfl⟩:=List.getElem?_eq_some_iff.1 hc
   obtain⟨hj,rfl⟩:=List.getElem?_eq_some_iff.1 hd
   rcases Nat.lt_trichotomy i j with hlt | rfl | hlt
   · have:=hp i j hi hj hlt
     simp only [apart,inc,Bool.and_eq_true,Bool.or_eq_true,Bool.not_eq_true',Bool.and_eq_false_iff,decide_eq_true_eq,decide_eq_false_iff_not] at this
     exfalso
     cases b <;> simp only [Tj.keyF,Tj.selF,cond_true,cond_false] at hk hs ht <;> omega
   · rfl
   · have:=hp j i hj hi hlt
     simp only [apart,inc,Bool.and_eq_true,Bool.or_eq_true,Bool.not_eq_true',Bool.and_eq_false_iff,decide_eq_true_eq,decide_eq_false_iff_not] at this
     exfalso
     cases b <;> simp only [Tj.keyF,Tj.selF,cond_true,cond_false] at hk hs ht <;> omega
theorem Zr7 (b:Bool)(op:Int)(chs:List Cn):∀ k,k≤chs.length→(Tj.idxN b op chs k).length=cnt b op (chs.take k)
 | 0,_=>rfl
 | k+1,h=>by
  obtain⟨c,hc⟩:∃ c,chs[k]? = some c:=⟨_,List.getElem?_eq_getElem (by omega)⟩
  have ih:=Zr7 b op chs k (by omega)
  have e:chs.take (k+1)=chs.take k++[c]:=by rw [List.take_add_one,hc];rfl
  unfold cnt at ih ⊢
  rw [e,List.filter_append]
  by_cases hs:Tj.selF b c=op
  · rw [Tj.Zuq hc hs,List.length_append,List.length_append,ih]
    have:decide (cond b c.2.2.1 c.1=op)=true:=decide_eq_true hs
    simp [this]
  · rw [Tj.Zp7 hc hs,List.length_append,ih]
    have:decide (cond b c.2.2.1 c.1=op)=false:=decide_eq_false hs
    simp [this]
def joinL (b:Bool)(x:Gr)(op:Int):List (Int×Unit):=(Tj.Zhk b op x.2.1).map fun i:Nat=>((i:Int),())
theorem Zdv {x:Gr}(h:Tj.Zcd x.1 x.2.1)(b:Bool)(op:Int):(joinL b x op).length=cnt b op x.2.1:=by
 unfold joinL
 have:=Zr7 b op x.2.1 x.2.1.length (Nat.le_refl _)
 rw [List.take_length] at this
 rw [List.length_map,← Tj.Zoy (Zgn h b op),Tj.Zov,this]
theorem Yc4 {x:Gr}(h:Tj.Zcd x.1 x.2.1)(hl:x.2.1.length≤100){i:Nat}(hi:i<x.1.length):Zaf x (i:Int)=some (joinL true x (i:Int),()):=by
 have hc:=Zr7 true (i:Int) x.2.1 x.2.1.length (Nat.le_refl _)
 rw [List.take_length] at hc
 have:=Zr6 h hi
 rw [Zwt x _ (by omega) (by omega),Tj.Zoy (Zgn h true _)]
 rfl
theorem Z8u {x:Gr}(h:Tj.Zcd x.1 x.2.1)(hl:x.2.1.length≤100){i:Nat}(hi:i<x.1.length):Qm x (i:Int)=some (joinL false x (i:Int),()):=by
 have hc:=Zr7 false (i:Int) x.2.1 x.2.1.length (Nat.le_refl _)
 rw [List.take_length] at hc
 have:=Zr6 h hi
 rw [Zut x _ (by omega) (by omega),Tj.Zoy (Zgn h false _)]
 rfl
end Tg
