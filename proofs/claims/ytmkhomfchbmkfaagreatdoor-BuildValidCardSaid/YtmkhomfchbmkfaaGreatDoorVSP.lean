import Derived.Test.YtmkhomfchbmkfaaGreatDoorVSI
import Derived.Test.YtmkhomfchbmkfaaGreatDoorVVb5
/- The channels of an operator in order: sorted, and place by place. -/
set_option linter.unusedVariables false
set_option linter.unusedSimpArgs false
namespace Tj
open Go Go.Sort Go.Proofs
def keyO (b:Bool)(chs:List Chn)(i:Nat):Int:=((chs[i]?).map (keyF b)).getD 0
def Zqz (b:Bool)(op:Int)(chs:List Chn):List Nat:=(List.range 20).flatMap fun pl:Nat=>(List.range chs.length).filter fun i=>(chs[i]?).any fun c=>decide (selF b c=op)&&decide (keyF b c=(pl:Int))
theorem Z7x (b:Bool)(op:Int)(chs:List Chn):(sorF b op chs).Perm (idxN b op chs chs.length):=by
 by_cases h:0<chs.length
 . obtain⟨I,hI⟩:∃ I:Inhabited (Fin chs.length),I=⟨⟨0,h⟩⟩:=⟨_,rfl⟩;rw [Zqx h hI];have hp:=(insertionSort_holds (swoF b chs) (idxD b op chs) 0 (idxD b op chs).size (Nat.zero_le _) (Nat.le_refl _)).1;obtain⟨h1,_,h3⟩:=hp;generalize Sort.insertionSort (ltOf (cfF b chs)) (idxD b op chs) 0 (idxD b op chs).size=d' at h1 h3 ⊢;have e1:(d'.extract 0 (idxD b op chs).size).toList=d'.toList:=by rw [<- h1];simp
   have e3:((idxD b op chs).extract 0 (idxD b op chs).size).toList=(idxD b op chs).toList:=by simp
   rw [e1,e3] at h3;have h4:=h3.map Fin.val;have e2:(idxD b op chs).toList.map Fin.val=idxN b op chs chs.length:=by unfold idxD;rw [List.map_pmap];simp
   grind
 . have:chs=[]:=List.length_eq_zero_iff.1 (by omega);subst this;exact List.Perm.refl _
theorem Ybj (b:Bool)(op:Int)(chs:List Chn):(sorF b op chs).Pairwise fun i j=>keyO b chs i<=keyO b chs j:=by
 by_cases h:0<chs.length
 . obtain⟨I,hI⟩:∃ I:Inhabited (Fin chs.length),I=⟨⟨0,h⟩⟩:=⟨_,rfl⟩;rw [Zqx h hI];have hh:=insertionSort_holds (swoF b chs) (idxD b op chs) 0 (idxD b op chs).size (Nat.zero_le _) (Nat.le_refl _);have hs:=hh.2;have hz:=hh.1.1;generalize Sort.insertionSort (ltOf (cfF b chs)) (idxD b op chs) 0 (idxD b op chs).size=d' at hs hz ⊢;rw [List.pairwise_map,List.pairwise_iff_getElem];intro i j hi hj hij;have:=hs i j (Nat.zero_le _) hij (by grind);have e:∀ x y,ltOf (cfF b chs) x y=decide (keyF b (chs.get x)<keyF b (chs.get y)):=fun x y=>Z7q _ _;rw [e,decide_eq_false_iff_not] at this;have hi2:i<d'.size:=by grind
   have hj2:j<d'.size:=by grind
   simp only [hi2,hj2,getElem!_pos] at this;have k:∀ z:Fin chs.length,keyO b chs z.val=keyF b (chs.get z):=fun z=>by simp [keyO]
   grind
 . have:chs=[]:=List.length_eq_zero_iff.1 (by omega);subst this;exact List.Pairwise.nil
structure KeysOk (b:Bool) (op:Int) (chs:List Chn):Prop where
 low:∀ (i:Nat) (c:Chn),chs[i]? = some c->selF b c=op->0<=keyF b c/\keyF b c<20
 inj:∀ (i j:Nat) (c d:Chn),chs[i]? = some c->chs[j]? = some d->selF b c=op->selF b d=op->keyF b c=keyF b d->i=j
theorem Z4g {b:Bool}{op:Int}{chs:List Chn}{i:Nat}:i∈idxN b op chs chs.length ↔ ∃ c,chs[i]? = some c/\selF b c=op:=by unfold idxN;grind
theorem Zq0 {b:Bool}{op:Int}{chs:List Chn}{i pl:Nat}:(i∈(List.range chs.length).filter fun i=>(chs[i]?).any fun c=>decide (selF b c=op)&&decide (keyF b c=(pl:Int))) ↔ ∃ c,chs[i]? = some c/\selF b c=op/\keyF b c=(pl:Int):=by grind
theorem Zxc {b:Bool}{op:Int}{chs:List Chn}{i:Nat}(hk:KeysOk b op chs):i∈Zqz b op chs↔i∈idxN b op chs chs.length:=by
 unfold Zqz;rw [List.mem_flatMap,Z4g];constructor
 . grind
 . rintro⟨c,hc,hs⟩;have:=hk.low i c hc hs;exact⟨(keyF b c).toNat,by grind,Zq0.2 ⟨c,hc,hs,by omega⟩⟩
theorem Z4h {b:Bool}{chs:List Chn}{i:Nat}{c:Chn}(h:chs[i]? = some c):keyO b chs i=keyF b c:=by simp [keyO,h]
theorem Z7y {b:Bool}{op:Int}{chs:List Chn}(hk:KeysOk b op chs):(Zqz b op chs).Pairwise fun i j=>keyO b chs i<keyO b chs j:=by
 unfold Zqz;rw [List.pairwise_flatMap];refine⟨fun pl _=>?_,?_⟩
 . refine List.Pairwise.imp_of_mem (R:=fun i j=>i<j) (fun {i j} hi hj hij=>?_) ((List.pairwise_lt_range).filter _);obtain⟨c,hc,hs,h1⟩:=Zq0.1 hi;obtain⟨d,hd,ht,h2⟩:=Zq0.1 hj;have:=hk.inj i j c d hc hd hs ht (by grind);omega
 . refine List.Pairwise.imp (fun {p q} hpq i hi j hj=>?_) (List.pairwise_lt_range (n:=20));obtain⟨c,hc,hs,h1⟩:=Zq0.1 hi;obtain⟨d,hd,ht,h2⟩:=Zq0.1 hj;rw [Z4h hc,Z4h hd,h1,h2];omega
theorem Zxd {b:Bool}{op:Int}{chs:List Chn}(hk:KeysOk b op chs):sorF b op chs=Zqz b op chs:=by
 have hj:=Z7y hk;have nd1:(Zqz b op chs).Nodup:=hj.imp fun h e=>by grind
 have nd2:(idxN b op chs chs.length).Nodup:=by unfold idxN;exact (List.nodup_range).filter _
 have hp:(sorF b op chs).Perm (Zqz b op chs):=(Z7x b op chs).trans ((List.perm_ext_iff_of_nodup nd2 nd1).2 fun i=>(Zxc hk).symm);refine List.Perm.eq_of_pairwise (le:=fun i j=>keyO b chs i<=keyO b chs j) (fun i j hi hj h1 h2=>?_) (Ybj b op chs) (hj.imp fun h=>by omega) hp;obtain⟨c,hc,hs⟩:=Z4g.1 ((Z7x b op chs).mem_iff.1 hi);obtain⟨d,hd,ht⟩:=Z4g.1 ((Zxc hk).1 hj);exact hk.inj i j c d hc hd hs ht (by rw [Z4h hc,Z4h hd] at h1 h2;omega)
end Tj

/- The reference's check of a graph, told plainly. -/
namespace Tg
open Go
open Go.Abs (Zb)
theorem Yon (k i o:Int):Zpn k i o=some (Zkc k i o,()):=by
 have e:∀ a b c:Int,Zad a b c=some (decide (b<=a)&&decide (a<=c),()):=fun a b c=>by rw [Ztn];grind
 have q:∀ a b:Int,(decide (b<=a)&&decide (a<=b))=(a==b):=fun a b=>by grind
 rw [Z34];unfold Zkc;simp only [e];by_cases h1:k=1
 . subst h1;simp only [bnd,if_true,q];grind
 by_cases h2:k=2
 . subst h2;rw [show bnd 2=(1,1,1,2) from rfl];grind
 by_cases h3:k=3
 . subst h3;rw [show bnd 3=(1,1,1,3) from rfl];grind
 by_cases h4:k=4
 . subst h4;rw [show bnd 4=(1,4,1,1) from rfl];grind
 by_cases h5:k=5
 . subst h5;rw [show bnd 5=(2,2,1,1) from rfl];grind
 by_cases h6:k=6
 . subst h6;rw [show bnd 6=(1,3,0,0) from rfl];simp only [q];grind
 by_cases h7:k=7
 . subst h7;rw [show bnd 7=(1,4,0,0) from rfl];simp only [q];grind
 have hk:(decide (1<=k)&&decide (k<=7))=false:=by grind
 grind
theorem Z7z (b:Bool)(j:Int)(c:Cn)(l:List Cn):(cnt b j (c::l):Int)=(bif cond b c.2.2.1 c.1==j then 1 else 0)+cnt b j l:=by unfold cnt;grind
theorem inp4 (chs:List Cn)(hl:chs.length<=1000000000)(x:Int):∀ (rest:List Cn) (i n a:Nat),chs.drop i=rest->i<=chs.length->rest.length+1<=n->a<=i->Za4 n x chs (a:Int) (i:Int)=some ((a:Int)+cnt true x rest,())
 | [],i,n,a,h,hi,hn,ha=>by obtain⟨m,rfl⟩:∃ m,n=m+1:=⟨n - 1,by grind⟩;have:=Xn h hi;rw [Zke];simp only [J0g,iG (show ¬ i<chs.length by omega),cond_false,cnt,List.filter_nil,List.length_nil,Int.natCast_zero,Int.add_zero]
 | c::rest,i,n,a,h,hi,hn,ha=>by obtain⟨m,rfl⟩:∃ m,n=m+1:=⟨n - 1,by grind⟩;obtain⟨h1,h2,h3⟩:=Xg h;rw [Zke];simp only [J0g,iL h1,cond_true,iN,J0l,h2,wS (show i<1000000000000 by omega),wS (show a<1000000000000 by omega)];rw [inp4 chs hl x rest (i+1) m (a+1) h3 (by omega) (by grind) (by omega),inp4 chs hl x rest (i+1) m a h3 (by omega) (by grind) (by omega),Z7z];grind
theorem out4 (chs:List Cn)(hl:chs.length<=1000000000)(x:Int):∀ (rest:List Cn) (i n a:Nat),chs.drop i=rest->i<=chs.length->rest.length+1<=n->a<=i->Zav n x chs (a:Int) (i:Int)=some ((a:Int)+cnt false x rest,())
 | [],i,n,a,h,hi,hn,ha=>by obtain⟨m,rfl⟩:∃ m,n=m+1:=⟨n - 1,by grind⟩;have:=Xn h hi;rw [Zis];simp only [J0g,iG (show ¬ i<chs.length by omega),cond_false,cnt,List.filter_nil,List.length_nil,Int.natCast_zero,Int.add_zero]
 | c::rest,i,n,a,h,hi,hn,ha=>by obtain⟨m,rfl⟩:∃ m,n=m+1:=⟨n - 1,by grind⟩;obtain⟨h1,h2,h3⟩:=Xg h;rw [Zis];simp only [J0g,iL h1,cond_true,iN,J0l,h2,wS (show i<1000000000000 by omega),wS (show a<1000000000000 by omega)];rw [out4 chs hl x rest (i+1) m (a+1) h3 (by omega) (by grind) (by omega),out4 chs hl x rest (i+1) m a h3 (by omega) (by grind) (by omega),Z7z];grind
theorem Z15 (ops:List Op)(chs:List Cn)(hl:chs.length<=1000000000)(x:Int):Zfz (ops,chs,()) x=some ((cnt true x chs:Int),()):=by obtain⟨n,hn⟩:=Xz;have:=inp4 chs hl x chs 0 fuel 0 rfl (by omega) (by grind) (by omega);simpa [Zwo] using this
theorem Zxe (ops:List Op)(chs:List Cn)(hl:chs.length<=1000000000)(x:Int):Zex (ops,chs,()) x=some ((cnt false x chs:Int),()):=by obtain⟨n,hn⟩:=Xz;have:=out4 chs hl x chs 0 fuel 0 rfl (by omega) (by grind) (by omega);simpa [Zto] using this
theorem Ykm (chs:List Cn)(c:Cn)(j:Nat)(hj:j<=chs.length)(hl:chs.length<=1000000000):∀ (rest:List Cn) (i n:Nat),(chs.take j).drop i=rest->i<=j->rest.length+1<=n->Zdp n (j:Int) chs c.1 c.2.1 c.2.2.1 c.2.2.2.1 (i:Int)=some (rest.all fun d=>apart d c,())
 | [],i,n,h,hi,hn=>by
  obtain⟨m,rfl⟩:∃ m,n=m+1:=⟨n - 1,by grind⟩;have hlt:(chs.take j).length=j:=by grind
  have:=Xn h (by omega);rw [Zmi];grind
 | d::rest,i,n,h,hi,hn=>by
  obtain⟨m,rfl⟩:∃ m,n=m+1:=⟨n - 1,by grind⟩;have hlt:(chs.take j).length=j:=by grind
  obtain⟨h1,h2,h3⟩:=Xg h;rw [List.getElem?_take_of_lt (by omega)] at h2;rw [Zmi];simp only [iL (show i<j by omega),cond_true,iN,J0l,h2,wS (show i<1000000000000 by omega),List.all_cons];rw [Ykm chs c j hj hl rest (i+1) m h3 (by omega) (by grind)];unfold apart inc;have e1:decide (d.1>c.1)=decide (c.1<d.1):=rfl;have e2:decide (d.2.1>=c.2.1) = !decide (d.2.1<c.2.1):=by grind
  have e3:(d.1==c.1)=decide (d.1=c.1):=rfl;have e4:(d.2.2.1==c.2.2.1)=decide (d.2.2.1=c.2.2.1):=rfl;have e5:(d.2.2.2.1==c.2.2.2.1)=decide (d.2.2.2.1=c.2.2.2.1):=rfl;rw [e1,e2,e3,e4,e5];rcases Int.lt_trichotomy d.1 c.1 with g | g | g
  . grind
  . grind
  . rw [dF (show ¬ d.1<c.1 by omega),dT g,dF (show ¬ d.1=c.1 by omega)];simp
theorem apart_eq (ops:List Op)(chs:List Cn)(hl:chs.length<=1000000000)(j:Nat)(c:Cn)(hc:chs[j]? = some c):Zmh (ops,chs,()) (j:Int)=some ((chs.take j).all fun d=>apart d c,()):=by obtain⟨n,hn⟩:=Xz;have hj:=(J0d.1 hc).1;have:=Ykm chs c j (by omega) hl (chs.take j) 0 fuel rfl (by omega) (by grind);simp only [Zy7,iN,cond_true,J0l,hc];grind
def bu (R:List Bool):List (Bool×Unit):=R.map fun b=>(b,())
theorem Yss (R:List Bool):(bu R).length=R.length:=by simp [bu]
theorem Ybk {R:List Bool}{j:Nat}(h:j<R.length):(bu R)[j]? = some ((R[j]?).getD false,()):=by unfold bu;grind
theorem Yst (R:List Bool)(j:Nat)(b:Bool)(u:Unit):(bu R).set j (b,u)=bu (R.set j b):=by unfold bu;simp_all
theorem Z4d (f:Int)(R:List Bool)(c:Cn):(rlx f R c).length=R.length:=by unfold rlx;grind
theorem Z70 (f:Int)(c:Cn)(l:List Cn)(R:List Bool):rnd f (c::l) R=rnd f l (rlx f R c):=rfl
theorem Zob (f:Int):∀ (chs:List Cn) (R:List Bool),(rnd f chs R).length=R.length
 | [],_=>rfl
 | c::l,R=>by rw [Z70,Zob f l,Z4d]
theorem Ybl (f:Int)(ops:List Op)(chs:List Cn)(hl:chs.length<=1000000000)(hok:∀ c∈chs,okC ops.length c=true)(r m:Nat)(hr:r<1000000000):∀ (rest:List Cn) (i n:Nat) (R:List Bool),chs.drop i=rest->i<=chs.length->n=m+rest.length+1->R.length=ops.length->Qh n f ops chs (bu R) (r:Int) (i:Int)=Zaw m f ops chs (bu (rnd f rest R)) ((r+1:Nat):Int)
 | [],i,n,R,h,hi,hn,hR=>by subst hn;have:=Xn h hi;rw [Ziu];simp only [J0g,iG (show ¬ i<chs.length by omega),cond_false,wS (show r<1000000000000 by omega)];rfl
 | c::rest,i,n,R,h,hi,hn,hR=>by subst hn;obtain⟨h1,h2,h3⟩:=Xg h;have hc:=hok c (J0j h2);simp only [okC,J0e,J0h] at hc;rw [show m+(c::rest).length+1=(m+rest.length+1)+1 by grind];rw [Ziu];simp only [J0g,iL h1,cond_true,iN,J0l,h2,wS (show i<1000000000000 by omega),iN' (show 0<=c.2.2.1 by omega),iN' (show 0<=c.1 by omega),Yss,dT (show c.2.2.1.toNat<R.length by omega),dT (show c.1.toNat<R.length by omega),Ybk (show c.2.2.1.toNat<R.length by omega),Ybk (show c.1.toNat<R.length by omega),Yst];rw [Ybl f ops chs hl hok r m hr rest (i+1) _ (R.set c.2.2.1.toNat true) h3 (by omega) rfl (by grind),Ybl f ops chs hl hok r m hr rest (i+1) _ R h3 (by omega) rfl hR,Z70];unfold rlx;grind
theorem Ykn (f:Int)(ops:List Op)(chs:List Cn)(hl:chs.length<=1000000000)(hok:∀ c∈chs,okC ops.length c=true)(ho:ops.length<=100000000):∀ (k r n:Nat) (R:List Bool),r+k=ops.length+1->k * (chs.length+2)+1<=n->R.length=ops.length->Zaw n f ops chs (bu R) (r:Int)=some (bu (rnds f chs k R),())
 | 0,r,n,R,hk,hn,hR=>by obtain⟨m,rfl⟩:∃ m,n=m+1:=⟨n - 1,by omega⟩;rw [Zit];simp only [J0g,dF (show ¬ (r:Int)<=(ops.length:Int) by omega),cond_false];rfl
 | k+1,r,n,R,hk,hn,hR=>by rw [Nat.succ_mul] at hn;obtain⟨m,rfl⟩:∃ m,n=(m+chs.length+1)+1:=⟨n - chs.length - 2,by omega⟩;rw [Zit];simp only [J0g,dT (show (r:Int)<=(ops.length:Int) by omega),cond_true];have:=Ybl f ops chs hl hok r m (by omega) chs 0 _ R rfl (by omega) rfl hR;rw [show ((0:Nat):Int)=0 from rfl] at this;rw [this,Ykn f ops chs hl hok ho k (r+1) m (rnd f chs R) (by omega) (by omega) (by rw [Zob];exact hR)];rfl
theorem Ybm (f:Int)(ops:List Op)(chs:List Cn)(hl:chs.length<=1000)(hok:∀ c∈chs,okC ops.length c=true)(ho:ops.length<=1000):Zia (ops,chs,()) f=some (bu (rnds f chs (ops.length+1) (List.replicate ops.length false)),()):=by obtain⟨n,hn⟩:=Xz;have hm:(ops.length+1) * (chs.length+2)<=1001 * 1002:=Nat.mul_le_mul (by omega) (by omega);have:=Ykn f ops chs (by omega) hok (by omega) (ops.length+1) 0 fuel (List.replicate ops.length false) (by omega) (by grind) (by simp);simp only [Ztp,J0g,J0l,Nat.le_refl,decide_true,Bool.true_and,dT (show 1 * ops.length<=281474976710656 by omega),dT (show ops.length<=9223372036854775807 by omega),cond_true];rw [<- this];simp [bu]
end Tg

/- The reference's check of a graph is the plain one. -/
namespace Tg
open Go
open Go.Abs (Zb)
theorem Yf7 {α:Type}(n:Nat)(c:Cn)(x y:α):(bif decide (c.1<(0:Int)) then x else bif decide (c.2.2.1<(0:Int)) then x else bif decide (c.1>=Int.ofNat n) then x else bif decide (c.2.2.1>=Int.ofNat n) then x else bif decide (c.2.2.2.2.1<(1:Int)) then x else bif decide (c.2.2.2.2.1>(8:Int)) then x else y)=bif okC n c then y else x:=by
 have e:okC n c=(!decide (c.1<(0:Int))&&(!decide (c.2.2.1<(0:Int))&&(!decide (c.1>=Int.ofNat n)&&(!decide (c.2.2.1>=Int.ofNat n)&&(!decide (c.2.2.2.2.1<(1:Int)) && !decide (c.2.2.2.2.1>(8:Int))))))):=by rw [Bool.eq_iff_iff];simp only [okC,J0e,J0h,Bool.not_eq_true',decide_eq_false_iff_not,J0g];omega
 grind
theorem Yf8 {α:Type}(b:Bool)(chs:List Cn)(c:Cn)(x y:α):(bif !b then x else bif decide (c.2.1<(0:Int)) then x else bif decide (c.2.1>=(cnt false c.1 chs:Int)) then x else bif decide (c.2.2.2.1<(0:Int)) then x else bif decide (c.2.2.2.1>=(cnt true c.2.2.1 chs:Int)) then x else y)=bif b&&Zgz chs c then y else x:=by
 have e:Zgz chs c=(!decide (c.2.1<(0:Int))&&(!decide (c.2.1>=(cnt false c.1 chs:Int))&&(!decide (c.2.2.2.1<(0:Int)) && !decide (c.2.2.2.1>=(cnt true c.2.2.1 chs:Int))))):=by rw [Bool.eq_iff_iff];simp only [Zgz,J0e,J0h,Bool.not_eq_true',decide_eq_false_iff_not];omega
 grind
theorem Zm4 (f:Int)(chs:List Cn):∀ (k:Nat) (R:List Bool),(rnds f chs k R).length=R.length
 | 0,_=>rfl
 | k+1,R=>by rw [rnds,Zm4 f chs k,Zob]
theorem Yp0 (ops:List Op)(chs:List Cn)(ho:ops.length<=20)(hl:chs.length<=100)(hok:∀ c∈chs,okC ops.length c=true):∀ (rest:List Op) (i n:Nat),ops.drop i=rest->i<=ops.length->rest.length+1<=n->Zcj n ops chs (i:Int)=some (v3 ops.length chs i rest,())
 | [],i,n,h,hi,hn=>by obtain⟨m,rfl⟩:∃ m,n=m+1:=⟨n - 1,by grind⟩;have:=Xn h hi;rw [Zkh];simp only [J0g,iG (show ¬ i<ops.length by omega),cond_false,v3]
 | o::rest,i,n,h,hi,hn=>by
  obtain⟨m,rfl⟩:∃ m,n=m+1:=⟨n - 1,by grind⟩;obtain⟨h1,h2,h3⟩:=Xg h;have hR:i<(rnds (i:Int) chs (ops.length+1) (List.replicate ops.length false)).length:=by rw [Zm4];grind
  rw [Zkh];simp only [J0g,iL h1,cond_true,iN,J0l,h2,wS (show i<1000000000000 by omega),Z15 ops chs (by omega),Zxe ops chs (by omega),Yon,Ybm (i:Int) ops chs (by omega) hok (by omega),Ybk hR];rw [Yp0 ops chs ho hl hok rest (i+1) m h3 (by omega) (by grind),v3];grind
theorem Yp1 (ops:List Op)(chs:List Cn)(ho:ops.length<=20)(hl:chs.length<=100)(hok:∀ c∈chs,okC ops.length c=true):∀ (rest:List Cn) (i n:Nat),chs.drop i=rest->i<=chs.length->rest.length+ops.length+3<=n->Zci n ops chs (i:Int)=some (v2 chs (chs.take i) rest&&v3 ops.length chs 0 ops,())
 | [],i,n,h,hi,hn=>by obtain⟨m,rfl⟩:∃ m,n=m+1+1:=⟨n - 2,by grind⟩;have:=Xn h hi;rw [Zkg];simp only [J0g,iG (show ¬ i<chs.length by omega),cond_false,v2,Bool.true_and];rw [Ztq];exact Yp0 ops chs ho hl hok ops 0 m rfl (by omega) (by grind)
 | c::rest,i,n,h,hi,hn=>by obtain⟨m,rfl⟩:∃ m,n=m+1:=⟨n - 1,by grind⟩;obtain⟨h1,h2,h3⟩:=Xg h;rw [Zkg];simp only [J0g,iL h1,cond_true,iN,J0l,h2,wS (show i<1000000000000 by omega),apart_eq ops chs (by omega) i c h2,Z15 ops chs (by omega),Zxe ops chs (by omega)];rw [Yf8,Yp1 ops chs ho hl hok rest (i+1) m h3 (by omega) (by grind),v2,List.take_add_one,h2];grind
theorem val3 (ops:List Op)(chs:List Cn)(ho:ops.length<=20)(hl:chs.length<=100):∀ (rest:List Cn) (i n:Nat),chs.drop i=rest->i<=chs.length->(∀ c∈chs.take i,okC ops.length c=true)->rest.length+chs.length+ops.length+5<=n->Zdq n ops chs (i:Int)=some (rest.all (okC ops.length)&&(v2 chs [] chs&&v3 ops.length chs 0 ops),())
 | [],i,n,h,hi,hok,hn=>by obtain⟨m,rfl⟩:∃ m,n=m+1+1:=⟨n - 2,by grind⟩;have:=Xn h hi;subst this;rw [List.take_length] at hok;rw [Zml];simp only [J0g,iG (show ¬ chs.length<chs.length by omega),cond_false,List.all_nil,Bool.true_and];rw [Zwq];exact Yp1 ops chs ho hl hok chs 0 m rfl (by omega) (by grind)
 | c::rest,i,n,h,hi,hok,hn=>by
  obtain⟨m,rfl⟩:∃ m,n=m+1:=⟨n - 1,by grind⟩;obtain⟨h1,h2,h3⟩:=Xg h;rw [Zml];simp only [iL h1,cond_true,iN,J0l,h2,wS (show i<1000000000000 by omega),Yf7,show Int.ofNat chs.length=(chs.length:Int) from rfl];rw [List.all_cons];cases hc:okC ops.length c with
  | false=>rfl
  | true=>rw [cond_true,val3 ops chs ho hl rest (i+1) m h3 (by omega) (fun d hd=>by grind) (by grind)];rfl
theorem valid_eq (x:Gr)(ho:x.1.length<=20)(hl:x.2.1.length<=100):Zmj x=some (gOkB x,()):=by obtain⟨n,hn⟩:=Xz;have:=val3 x.1 x.2.1 ho hl x.2.1 0 fuel rfl (by omega) (by simp) (by grind);rw [Zy8];exact this
theorem Yko (x:Gr):Zhu x=some (gChk x,()):=by
 rw [Zy9];unfold gChk;have e1:decide (Int.ofNat x.1.length>(20:Int))=decide (20<x.1.length):=by grind
 have e2:decide (Int.ofNat x.2.1.length>(100:Int))=decide (100<x.2.1.length):=by grind
 rw [e1,e2];by_cases h1:20<x.1.length
 . simp [h1]
 by_cases h2:100<x.2.1.length
 . grind
 rw [valid_eq x (by omega) (by omega)];grind
end Tg

/- The channels of an operator of a right graph. -/
namespace Tg
open Go
theorem Ybn {x:Gr}(h:gOkB x=true):Tj.Zhy x.1 x.2.1:=by obtain⟨ops,chs,u⟩:=x;have:=(Tj.Zuc ops chs).2 h;exact (Tj.Z4c ops chs).2 ⟨this.1,this.2.1⟩
theorem Zq1 {x:Gr}(h:Tj.Zhy x.1 x.2.1){i:Nat}(hi:i<x.1.length):cnt true i x.2.1<=4/\cnt false i x.2.1<=3:=by have:=(h.2.2 i _ (J0c hi)).2;unfold Zkc bnd at this;grind
theorem Zue {x:Gr}(h:Tj.Zhy x.1 x.2.1)(b:Bool)(op:Int):Tj.KeysOk b op x.2.1:=by
 refine⟨fun i c hc hs=>?_,fun i j c d hc hd hs ht hk=>?_⟩
 . have hm:=J0j hc;have h1:=h.1 c hm;have h2:=h.2.1.2 c hm;simp only [okC,Tj.okC,J0e,J0h] at h1;simp only [Zgz,J0e,J0h] at h2;have l1:=Zq1 h (i:=c.2.2.1.toNat) (by omega);have l2:=Zq1 h (i:=c.1.toNat) (by omega);rw [Int.toNat_of_nonneg (by omega)] at l1 l2;cases b <;> simp only [Tj.keyF,cond_true,cond_false] <;> omega
 . have hp:=h.2.1.1;rw [List.pairwise_iff_getElem] at hp;obtain⟨hi,rfl⟩:=J0d.1 hc;obtain⟨hj,rfl⟩:=J0d.1 hd;rcases Nat.lt_trichotomy i j with hlt | rfl | hlt
   . have:=hp i j hi hj hlt;simp only [apart,inc,J0e,Bool.or_eq_true,Bool.not_eq_true',Bool.and_eq_false_iff,J0h,decide_eq_false_iff_not] at this;exfalso;cases b <;> simp only [Tj.keyF,Tj.selF,cond_true,cond_false] at hk hs ht <;> omega
   . rfl
   . have:=hp j i hj hi hlt;simp only [apart,inc,J0e,Bool.or_eq_true,Bool.not_eq_true',Bool.and_eq_false_iff,J0h,decide_eq_false_iff_not] at this;exfalso;cases b <;> simp only [Tj.keyF,Tj.selF,cond_true,cond_false] at hk hs ht <;> omega
theorem Zuf (b:Bool)(op:Int)(chs:List Cn):∀ k,k<=chs.length->(Tj.idxN b op chs k).length=cnt b op (chs.take k)
 | 0,_=>rfl
 | k+1,h=>by
  obtain⟨c,hc⟩:∃ c,chs[k]? = some c:=⟨_,J0c (by omega)⟩;have ih:=Zuf b op chs k (by omega);have e:chs.take (k+1)=chs.take k++[c]:=by rw [List.take_add_one,hc];rfl
  unfold cnt at ih ⊢;rw [e,List.filter_append];by_cases hs:Tj.selF b c=op
  . rw [Tj.Zw8 hc hs,J0s,J0s,ih];have:decide (cond b c.2.2.1 c.1=op)=true:=decide_eq_true hs;grind
  . rw [Tj.Zsb hc hs,J0s,ih];have:decide (cond b c.2.2.1 c.1=op)=false:=decide_eq_false hs;grind
def joinL (b:Bool)(x:Gr)(op:Int):List (Int×Unit):=(Tj.Zqz b op x.2.1).map fun i:Nat=>((i:Int),())
theorem Zgc {x:Gr}(h:Tj.Zhy x.1 x.2.1)(b:Bool)(op:Int):(joinL b x op).length=cnt b op x.2.1:=by unfold joinL;have:=Zuf b op x.2.1 x.2.1.length (Nat.le_refl _);rw [List.take_length] at this;rw [List.length_map,<- Tj.Zxd (Zue h b op),Tj.Zqy,this]
theorem Yf9 {x:Gr}(h:Tj.Zhy x.1 x.2.1){b:Bool}{op:Int}{y:Int×Unit}(hy:y∈joinL b x op):∃ i:Nat,i<x.2.1.length/\y=((i:Int),()):=by unfold joinL at hy;rw [List.mem_map] at hy;obtain⟨i,hi,rfl⟩:=hy;have:=(Tj.Zxc (Zue h b op)).1 hi;exact⟨i,(Tj.Yec this).1,rfl⟩
theorem Z71 {x:Gr}(h:Tj.Zhy x.1 x.2.1)(hl:x.2.1.length<=100){i:Nat}(hi:i<x.1.length):Qe x (i:Int)=some (joinL true x (i:Int),()):=by have hc:=Zuf true (i:Int) x.2.1 x.2.1.length (Nat.le_refl _);rw [List.take_length] at hc;have:=Zq1 h hi;rw [Zzq x _ (by omega) (by omega),Tj.Zxd (Zue h true _)];rfl
theorem Z16 {x:Gr}(h:Tj.Zhy x.1 x.2.1)(hl:x.2.1.length<=100){i:Nat}(hi:i<x.1.length):Xj x (i:Int)=some (joinL false x (i:Int),()):=by have hc:=Zuf false (i:Int) x.2.1 x.2.1.length (Nat.le_refl _);rw [List.take_length] at hc;have:=Zq1 h hi;rw [Zxb x _ (by omega) (by omega),Tj.Zxd (Zue h false _)];rfl
end Tg
